import PyProof.Rows.All
import Wide.All
import OpenK.AllK
import Wide.FinOn
import HandS.ForMost
import HandS.Walk
import HandS.Wide
import HandS.IsInst
import HandS.Sort
import HandS.SortInts
import KE.GoesEnum
import HandS.RaiseMore
import HandS.Style
import HandS.WideBits
import HandS.SortRule
import HandS.Star
import HandS.SetFor
import HandS.Strs
import HandS.TupLe
import HandS.TupAny
import HandS.TupMul
import HandS.Zip
import KE.DataMinMax
import HandS.Gcd
import KE.KMathGC
import HandS.EndBits
import PySem.Challenge.RW_nimfield_k85_across_powers_and_duals
set_option Elab.async false
set_option linter.all false
set_option maxRecDepth 100000
set_option autoImplicit false
/-! The nim field by quadratic steps: a char-2 ring from few laws; abstract tower, Frobenius, trace. -/
namespace NF
open Lean.Grind

class F2 (R : Type) extends CommRing R, IsCharP R 2

/-- few laws -/
structure Few (R : Type) where
  add : R → R → R
  mul : R → R → R
  zero : R
  one : R
  add_assoc : ∀ x y z, add (add x y) z = add x (add y z)
  add_comm : ∀ x y, add x y = add y x
  add_zero : ∀ x, add x zero = x
  add_self : ∀ x, add x x = zero
  mul_assoc : ∀ x y z, mul (mul x y) z = mul x (mul y z)
  mul_comm : ∀ x y, mul x y = mul y x
  one_mul : ∀ x, mul one x = x
  distrib : ∀ x y z, mul x (add y z) = add (mul x y) (mul x z)
  ne : one ≠ zero

namespace Few
variable {R : Type} (f : Few R)
def bit (n : Nat) : R := if n % 2 = 1 then f.one else f.zero
def pw (x : R) : Nat → R
  | 0 => f.one
  | n + 1 => f.mul (pw x n) x
theorem zero_add (x : R) : f.add f.zero x = x := by rw [f.add_comm, f.add_zero]
theorem mul_zero (x : R) : f.mul x f.zero = f.zero := by
  have h := f.distrib x f.zero f.zero
  rw [f.add_zero] at h
  have h2 : f.add (f.mul x f.zero) (f.mul x f.zero) = f.zero := f.add_self _
  rw [← h] at h2
  exact h2
theorem zero_mul (x : R) : f.mul f.zero x = f.zero := by rw [f.mul_comm, f.mul_zero]
theorem mul_one (x : R) : f.mul x f.one = x := by rw [f.mul_comm, f.one_mul]
theorem distrib_r (x y z : R) : f.mul (f.add x y) z = f.add (f.mul x z) (f.mul y z) := by
  rw [f.mul_comm, f.distrib, f.mul_comm z x, f.mul_comm z y]
theorem bit_succ (n : Nat) : f.bit (n + 1) = f.add (f.bit n) f.one := by
  unfold bit
  rcases Nat.mod_two_eq_zero_or_one n with h | h
  · have : (n + 1) % 2 = 1 := by omega
    rw [if_pos this, if_neg (by omega), f.zero_add]
  · have : ¬ (n + 1) % 2 = 1 := by omega
    rw [if_neg this, if_pos h, f.add_self]
def ring : F2 R where
  add := f.add
  mul := f.mul
  neg x := x
  sub := f.add
  natCast := ⟨f.bit⟩
  intCast := ⟨fun i => f.bit i.natAbs⟩
  ofNat n := ⟨f.bit n⟩
  nsmul := ⟨fun n x => f.mul (f.bit n) x⟩
  zsmul := ⟨fun n x => f.mul (f.bit n.natAbs) x⟩
  npow := ⟨f.pw⟩
  add_assoc := f.add_assoc
  add_comm := f.add_comm
  add_zero := f.add_zero
  neg_add_cancel := f.add_self
  mul_assoc := f.mul_assoc
  mul_comm := f.mul_comm
  mul_one := f.mul_one
  one_mul := f.one_mul
  left_distrib := f.distrib
  right_distrib := f.distrib_r
  zero_mul := f.zero_mul
  mul_zero := f.mul_zero
  sub_eq_add_neg _ _ := rfl
  pow_zero _ := rfl
  pow_succ _ _ := rfl
  nsmul_eq_natCast_mul _ _ := rfl
  ofNat_succ := f.bit_succ
  ofNat_eq_natCast _ := rfl
  neg_zsmul n x := by show f.mul (f.bit (-n).natAbs) x = f.mul (f.bit n.natAbs) x; rw [Int.natAbs_neg]
  zsmul_natCast_eq_nsmul _ _ := rfl
  intCast_ofNat _ := rfl
  intCast_neg n := by show f.bit (-n).natAbs = f.bit n.natAbs; rw [Int.natAbs_neg]
  ofNat_ext_iff {x y} := by
    show f.bit x = f.bit y ↔ x % 2 = y % 2
    unfold bit
    rcases Nat.mod_two_eq_zero_or_one x with h | h <;> rcases Nat.mod_two_eq_zero_or_one y with h' | h' <;> simp [h, h', f.ne, f.ne.symm]
end Few

/-- x with X: hi X + lo, X X = X + a -/
structure Ext (R : Type) where
  hi : R
  lo : R
  deriving DecidableEq
theorem Ext.eqn {R} {x y : Ext R} (h : x.hi = y.hi) (l : x.lo = y.lo) : x = y := by
  cases x; cases y; cases h; cases l; rfl

def extFew (R : Type) [F2 R] (a : R) : Few (Ext R) where
  add x y := ⟨x.hi + y.hi, x.lo + y.lo⟩
  mul x y := ⟨x.hi * y.hi + x.hi * y.lo + x.lo * y.hi, x.lo * y.lo + x.hi * y.hi * a⟩
  zero := ⟨0, 0⟩
  one := ⟨0, 1⟩
  add_assoc x y z := by apply Ext.eqn <;> simp only <;> grind
  add_comm x y := by apply Ext.eqn <;> simp only <;> grind
  add_zero x := by apply Ext.eqn <;> simp only <;> grind
  add_self x := by apply Ext.eqn <;> simp only <;> grind
  mul_assoc x y z := by apply Ext.eqn <;> simp only <;> grind
  mul_comm x y := by apply Ext.eqn <;> simp only <;> grind
  one_mul x := by apply Ext.eqn <;> simp only <;> grind
  distrib x y z := by apply Ext.eqn <;> simp only <;> grind
  ne h := by
    have := congrArg Ext.lo h
    simp only at this
    grind

def bitFew : Few Bool where
  add := xor
  mul := and
  zero := false
  one := true
  add_assoc := by decide
  add_comm := by decide
  add_zero := by decide
  add_self := by decide
  mul_assoc := by decide
  mul_comm := by decide
  one_mul := by decide
  distrib := by decide
  ne := by decide

structure Bd where
  R : Type
  few : Few R
  a : R

def Bd.next (b : Bd) : Bd := ⟨Ext b.R, @extFew b.R b.few.ring b.a, ⟨b.a, b.few.zero⟩⟩
def bd : Nat → Bd
  | 0 => ⟨Bool, bitFew, true⟩
  | k + 1 => (bd k).next

def T (k : Nat) : Type := (bd k).R
instance (k : Nat) : F2 (T k) := (bd k).few.ring
def A (k : Nat) : T k := (bd k).a

end NF

namespace NF
open Lean.Grind

abbrev mkT {k : Nat} (h l : T k) : T (k + 1) := (⟨h, l⟩ : Ext (T k))
abbrev hiT {k : Nat} (x : T (k + 1)) : T k := Ext.hi x
abbrev loT {k : Nat} (x : T (k + 1)) : T k := Ext.lo x
theorem T_ext {k : Nat} {x y : T (k + 1)} (h : hiT x = hiT y) (l : loT x = loT y) : x = y := Ext.eqn h l
theorem hi_mk {k} (h l : T k) : hiT (mkT h l) = h := rfl
theorem lo_mk {k} (h l : T k) : loT (mkT h l) = l := rfl
theorem mk_eta {k} (x : T (k + 1)) : mkT (hiT x) (loT x) = x := rfl
theorem add_hi {k} (x y : T (k + 1)) : hiT (x + y) = hiT x + hiT y := rfl
theorem add_lo {k} (x y : T (k + 1)) : loT (x + y) = loT x + loT y := rfl
theorem mul_hi {k} (x y : T (k + 1)) : hiT (x * y) = hiT x * hiT y + hiT x * loT y + loT x * hiT y := rfl
theorem mul_lo {k} (x y : T (k + 1)) : loT (x * y) = loT x * loT y + hiT x * hiT y * A k := rfl
theorem zero_hi {k} : hiT (0 : T (k + 1)) = 0 := rfl
theorem zero_lo {k} : loT (0 : T (k + 1)) = 0 := rfl
theorem one_hi {k} : hiT (1 : T (k + 1)) = 0 := rfl
theorem one_lo {k} : loT (1 : T (k + 1)) = 1 := rfl
theorem A_hi {k} : hiT (A (k + 1)) = A k := rfl
theorem A_lo {k} : loT (A (k + 1)) = 0 := rfl
theorem A_zero : A 0 = 1 := rfl

/-! ### the trace: the first sign -/
def tr : (k : Nat) → T k → Bool
  | 0, b => b
  | k + 1, x => tr k (hiT x)
theorem tr_add : ∀ {k} (x y : T k), tr k (x + y) = xor (tr k x) (tr k y)
  | 0, _, _ => rfl
  | k + 1, x, y => tr_add (hiT x) (hiT y)
theorem tr_A : ∀ k, tr k (A k) = true
  | 0 => rfl
  | k + 1 => tr_A k
theorem tr_zero : ∀ k, tr k (0 : T k) = false
  | 0 => rfl
  | k + 1 => tr_zero k
theorem tr_sq : ∀ {k} (x : T k), tr k (x * x) = tr k x
  | 0, x => Bool.and_self x
  | k + 1, x => by
    show tr k (hiT (x * x)) = tr k (hiT x)
    have e : hiT (x * x) = hiT x * hiT x := by rw [mul_hi]; grind
    rw [e]
    exact tr_sq (hiT x)
theorem tr_half {k} (x : T k) : tr k (x * x + x) = false := by rw [tr_add, tr_sq, Bool.xor_self]
theorem no_half {k} (x : T k) : x * x + x ≠ A k := by
  intro h
  have := tr_half x
  rw [h, tr_A] at this
  cases this

/-! ### inverses -/
theorem inv_ex : ∀ {k} (x : T k), x ≠ 0 → ∃ y, x * y = 1
  | 0, x, h => ⟨1, by
      cases x with
      | true => rfl
      | false => exact absurd rfl h⟩
  | k + 1, x, h => by
    have sq0 : ∀ z : T k, z * z = 0 → z = 0 := fun z hz => by
      by_cases e : z = 0
      · exact e
      · obtain ⟨y, hy⟩ := inv_ex z e
        have : z = (z * z) * y := by grind
        rw [hz] at this
        grind
    have hn : loT x * loT x + loT x * hiT x + hiT x * hiT x * A k ≠ 0 := by
      intro z
      by_cases e : hiT x = 0
      · have : loT x * loT x = 0 := by rw [e] at z; grind
        have e2 := sq0 _ this
        exact h (T_ext (e.trans zero_hi.symm) (e2.trans zero_lo.symm))
      · obtain ⟨y, hy⟩ := inv_ex (hiT x) e
        refine no_half (loT x * y) ?_
        have e3 : (loT x * loT x + loT x * hiT x + hiT x * hiT x * A k) * (y * y) = 0 := by rw [z]; grind
        have e4 : (hiT x * y) * (hiT x * y) = 1 := by rw [hy]; grind
        grind
    obtain ⟨n, hn'⟩ := inv_ex _ hn
    refine ⟨mkT (hiT x * n) ((hiT x + loT x) * n), T_ext ?_ ?_⟩
    · rw [mul_hi, one_hi, hi_mk, lo_mk]; grind
    · rw [mul_lo, one_lo, hi_mk, lo_mk]; grind
theorem mul_zero_iff {k} {x y : T k} (h : x * y = 0) : x = 0 ∨ y = 0 := by
  by_cases e : x = 0
  · exact .inl e
  · obtain ⟨z, hz⟩ := inv_ex x e
    refine .inr ?_
    have : y = (x * y) * z := by grind
    rw [h] at this
    grind

/-! ### squared again and again -/
def fr {R : Type} [F2 R] : Nat → R → R
  | 0, x => x
  | n + 1, x => fr n x * fr n x
section
variable {R : Type} [F2 R]
theorem fr_add (n : Nat) (x y : R) : fr n (x + y) = fr n x + fr n y := by
  induction n with
  | zero => rfl
  | succ n ih => show fr n (x + y) * fr n (x + y) = _; rw [ih]; show _ = fr n x * fr n x + fr n y * fr n y; grind
theorem fr_mul (n : Nat) (x y : R) : fr n (x * y) = fr n x * fr n y := by
  induction n with
  | zero => rfl
  | succ n ih => show fr n (x * y) * fr n (x * y) = _; rw [ih]; show _ = (fr n x * fr n x) * (fr n y * fr n y); grind
theorem fr_zero (n : Nat) : fr n (0 : R) = 0 := by
  induction n with
  | zero => rfl
  | succ n ih => show fr n (0 : R) * fr n (0 : R) = _; rw [ih]; grind
theorem fr_one (n : Nat) : fr n (1 : R) = 1 := by
  induction n with
  | zero => rfl
  | succ n ih => show fr n (1 : R) * fr n (1 : R) = _; rw [ih]; grind
theorem fr_fr (m n : Nat) (x : R) : fr m (fr n x) = fr (m + n) x := by
  induction m with
  | zero => rw [Nat.zero_add]; rfl
  | succ m ih => rw [Nat.succ_add]; show fr m (fr n x) * fr m (fr n x) = fr (m + n) x * fr (m + n) x; rw [ih]
theorem fr_sq (n : Nat) (x : R) : fr n (x * x) = fr (n + 1) x := fr_mul n x x
/-- x and its powers to 2, 4 .., n of them, added -/
def tsum : Nat → R → R
  | 0, _ => 0
  | n + 1, x => tsum n x + fr n x
theorem tsum_add (n : Nat) (x y : R) : tsum n (x + y) = tsum n x + tsum n y := by
  induction n with
  | zero => show (0 : R) = 0 + 0; grind
  | succ n ih => show tsum n (x + y) + fr n (x + y) = (tsum n x + fr n x) + (tsum n y + fr n y); rw [ih, fr_add]; grind
theorem tsum_split (m n : Nat) (x : R) : tsum (m + n) x = tsum n x + tsum m (fr n x) := by
  induction m with
  | zero => rw [Nat.zero_add]; show _ = _ + (0 : R); grind
  | succ m ih => rw [Nat.succ_add]; show tsum (m + n) x + fr (m + n) x = tsum n x + (tsum m (fr n x) + fr m (fr n x)); rw [ih, fr_fr]; grind
theorem tsum_fr (n m : Nat) (x : R) : tsum n (fr m x) = fr m (tsum n x) := by
  induction n with
  | zero => exact (fr_zero m).symm
  | succ n ih => show tsum n (fr m x) + fr n (fr m x) = fr m (tsum n x + fr n x); rw [ih, fr_add, fr_fr, fr_fr, Nat.add_comm]
end
theorem fr_hi {k} (n : Nat) (x : T (k + 1)) : hiT (fr n x) = fr n (hiT x) := by
  induction n with
  | zero => rfl
  | succ n ih => show hiT (fr n x * fr n x) = fr n (hiT x) * fr n (hiT x); rw [mul_hi, ih]; grind
theorem fr_lo {k} (n : Nat) (x : T (k + 1)) : loT (fr n x) = fr n (loT x) + fr n (hiT x) * tsum n (A k) := by
  induction n with
  | zero => show loT x = loT x + hiT x * 0; grind
  | succ n ih =>
    show loT (fr n x * fr n x) = fr n (loT x) * fr n (loT x) + (fr n (hiT x) * fr n (hiT x)) * (tsum n (A k) + fr n (A k))
    have e : tsum n (A k) + fr n (A k) = tsum n (A k) * tsum n (A k) + A k := by
      have h1 := tsum_split n 1 (A k)
      have h2 : tsum n (fr 1 (A k)) = fr 1 (tsum n (A k)) := tsum_fr n 1 (A k)
      have h3 : tsum (n + 1) (A k) = tsum n (A k) + fr n (A k) := rfl
      have h4 : tsum 1 (A k) = A k := by show (0 : T k) + A k = A k; grind
      have h5 : fr 1 (tsum n (A k)) = tsum n (A k) * tsum n (A k) := rfl
      grind
    rw [mul_lo, ih, fr_hi, e]
    grind
def ofB (k : Nat) (b : Bool) : T k := if b then 1 else 0
theorem fr_tr : ∀ k, (∀ x : T k, fr (2 ^ k) x = x) ∧ ∀ x : T k, tsum (2 ^ k) x = ofB k (tr k x)
  | 0 => ⟨fun x => Bool.and_self x, fun x => by
      show (0 : T 0) + x = ofB 0 x
      cases x with
      | true => rfl
      | false => rfl⟩
  | k + 1 => by
    obtain ⟨h1, h2⟩ := fr_tr k
    have a1 : tsum (2 ^ k) (A k) = 1 := by rw [h2, tr_A]; rfl
    have e : 2 ^ (k + 1) = 2 ^ k + 2 ^ k := by rw [Nat.pow_succ]; omega
    have q : ∀ x : T (k + 1), fr (2 ^ k) x = mkT (hiT x) (loT x + hiT x) := fun x => by
      refine T_ext ?_ ?_
      · rw [fr_hi, h1]
      · rw [fr_lo, h1, h1, a1]; show _ = loT x + hiT x; grind
    refine ⟨fun x => ?_, fun x => ?_⟩
    · rw [e, ← fr_fr, q x, q]
      refine T_ext rfl ?_
      show loT x + hiT x + hiT x = loT x
      grind
    · rw [e, tsum_split, ← tsum_add, q]
      have s : x + mkT (hiT x) (loT x + hiT x) = mkT (0 : T k) (hiT x) := by
        refine T_ext ?_ ?_
        · show hiT x + hiT x = 0; grind
        · show loT x + (loT x + hiT x) = hiT x; grind
      rw [s]
      have lowsum : ∀ (n : Nat) (y : T k), tsum n (mkT (0 : T k) y) = mkT (0 : T k) (tsum n y) := fun n y => by
        induction n with
        | zero => rfl
        | succ n ih =>
          show tsum n (mkT 0 y) + fr n (mkT 0 y) = _
          rw [ih]
          refine T_ext ?_ ?_
          · rw [add_hi, fr_hi]; show (0 : T k) + fr n 0 = 0; rw [fr_zero]; grind
          · rw [add_lo, fr_lo]; show tsum n y + (fr n y + fr n 0 * tsum n (A k)) = tsum n y + fr n y; rw [fr_zero]; grind
      rw [lowsum, h2]
      show mkT (0 : T k) (ofB k (tr k (hiT x))) = ofB (k + 1) (tr k (hiT x))
      cases tr k (hiT x) <;> rfl
theorem fr_full {k} (x : T k) : fr (2 ^ k) x = x := (fr_tr k).1 x
theorem tsum_full {k} (x : T k) : tsum (2 ^ k) x = ofB k (tr k x) := (fr_tr k).2 x
end NF

namespace NF
open Lean.Grind

/-! ### numbers and their levels -/
def sz (k : Nat) : Nat := 2 ^ (2 ^ k)
theorem sz_pos (k : Nat) : 0 < sz k := Nat.two_pow_pos _
theorem sz_succ (k : Nat) : sz (k + 1) = sz k * sz k := by
  unfold sz; rw [← Nat.pow_add, Nat.pow_succ]; congr 1; omega
theorem sz_mono {j k : Nat} (h : j ≤ k) : sz j ≤ sz k := Nat.pow_le_pow_right (by decide) (Nat.pow_le_pow_right (by decide) h)
theorem two_le_sz (k : Nat) : 2 ≤ sz k := sz_mono (j := 0) (Nat.zero_le k)
theorem self_lt_sz (n : Nat) : n < sz n := Nat.lt_of_lt_of_le Nat.lt_two_pow_self (Nat.pow_le_pow_right (by decide) (Nat.le_of_lt Nat.lt_two_pow_self))

def val : (k : Nat) → T k → Nat
  | 0, b => (show Bool from b).toNat
  | k + 1, x => val k (hiT x) * sz k + val k (loT x)
def of : (k : Nat) → Nat → T k
  | 0, n => (decide (n % 2 = 1) : Bool)
  | k + 1, n => mkT (of k (n / sz k)) (of k (n % sz k))
theorem val_lt : ∀ k (x : T k), val k x < sz k
  | 0, b => by
    show Bool.toNat b < 2
    cases b <;> decide
  | k + 1, x => by
    show val k (hiT x) * sz k + val k (loT x) < sz (k + 1)
    rw [sz_succ]
    have h1 := val_lt k (hiT x)
    have h2 := val_lt k (loT x)
    calc val k (hiT x) * sz k + val k (loT x) < val k (hiT x) * sz k + sz k := by omega
      _ = (val k (hiT x) + 1) * sz k := by rw [Nat.succ_mul]
      _ ≤ sz k * sz k := Nat.mul_le_mul_right _ h1
theorem of_val : ∀ k (x : T k), of k (val k x) = x
  | 0, b => by
    show (decide (Bool.toNat b % 2 = 1) : Bool) = b
    cases b <;> rfl
  | k + 1, x => by
    show mkT (of k ((val k (hiT x) * sz k + val k (loT x)) / sz k)) (of k ((val k (hiT x) * sz k + val k (loT x)) % sz k)) = x
    have h2 := val_lt k (loT x)
    have e1 : (val k (hiT x) * sz k + val k (loT x)) / sz k = val k (hiT x) := by
      rw [Nat.mul_comm, Nat.mul_add_div (sz_pos k), Nat.div_eq_of_lt h2, Nat.add_zero]
    have e2 : (val k (hiT x) * sz k + val k (loT x)) % sz k = val k (loT x) := by
      rw [Nat.mul_comm, Nat.mul_add_mod, Nat.mod_eq_of_lt h2]
    rw [e1, e2, of_val k, of_val k]
    rfl
theorem val_of : ∀ k n, n < sz k → val k (of k n) = n
  | 0, n, h => by
    have : n < 2 := h
    show Bool.toNat (decide (n % 2 = 1)) = n
    have h2 : n = 0 ∨ n = 1 := by omega
    rcases h2 with rfl | rfl <;> rfl
  | k + 1, n, h => by
    show val k (of k (n / sz k)) * sz k + val k (of k (n % sz k)) = n
    rw [sz_succ] at h
    rw [val_of k _ (Nat.div_lt_of_lt_mul h), val_of k _ (Nat.mod_lt _ (sz_pos k))]
    exact Nat.div_add_mod' n (sz k)
theorem val_inj {k} {x y : T k} (h : val k x = val k y) : x = y := by rw [← of_val k x, ← of_val k y, h]
theorem of_xor : ∀ k a b, of k (a ^^^ b) = of k a + of k b
  | 0, a, b => by
    show (decide ((a ^^^ b) % 2 = 1) : Bool) = xor (decide (a % 2 = 1)) (decide (b % 2 = 1))
    have e : (a ^^^ b) % 2 = (a % 2) ^^^ (b % 2) := Nat.xor_mod_two_pow (n := 1)
    rw [e]
    rcases Nat.mod_two_eq_zero_or_one a with h | h <;> rcases Nat.mod_two_eq_zero_or_one b with h' | h' <;> rw [h, h'] <;> rfl
  | k + 1, a, b => by
    refine T_ext ?_ ?_
    · show of k ((a ^^^ b) / sz k) = of k (a / sz k) + of k (b / sz k)
      rw [← of_xor k]
      congr 1
      unfold sz
      rw [← Nat.shiftRight_eq_div_pow, ← Nat.shiftRight_eq_div_pow, ← Nat.shiftRight_eq_div_pow]
      exact Nat.shiftRight_xor_distrib
    · show of k ((a ^^^ b) % sz k) = of k (a % sz k) + of k (b % sz k)
      rw [← of_xor k]
      congr 1
      exact Nat.xor_mod_two_pow
theorem xor_lt {k a b : Nat} (ha : a < sz k) (hb : b < sz k) : a ^^^ b < sz k := Nat.xor_lt_two_pow ha hb
theorem val_add (k) (x y : T k) : val k (x + y) = val k x ^^^ val k y := by
  have h := of_xor k (val k x) (val k y)
  rw [of_val, of_val] at h
  rw [← h, val_of k _ (xor_lt (val_lt k x) (val_lt k y))]
theorem of_zero : ∀ k, of k 0 = 0
  | 0 => rfl
  | k + 1 => T_ext (by show of k (0 / sz k) = 0; rw [Nat.zero_div]; exact of_zero k) (by show of k (0 % sz k) = 0; rw [Nat.zero_mod]; exact of_zero k)
theorem of_one : ∀ k, of k 1 = 1
  | 0 => rfl
  | k + 1 => by
    have h2 := two_le_sz k
    exact T_ext (by show of k (1 / sz k) = 0; rw [Nat.div_eq_of_lt h2]; exact of_zero k) (by show of k (1 % sz k) = 1; rw [Nat.mod_eq_of_lt h2]; exact of_one k)
theorem of_up {k n : Nat} (h : n < sz k) : of (k + 1) n = mkT 0 (of k n) :=
  T_ext (by show of k (n / sz k) = 0; rw [Nat.div_eq_of_lt h]; exact of_zero k) (by show of k (n % sz k) = of k n; rw [Nat.mod_eq_of_lt h])
theorem val_zero (k) : val k 0 = 0 := by rw [← of_zero k, val_of k 0 (sz_pos k)]
theorem val_one (k) : val k 1 = 1 := by rw [← of_one k, val_of k 1 (two_le_sz k)]
theorem val_A : ∀ k, val k (A k) = sz k / 2
  | 0 => rfl
  | k + 1 => by
    show val k (A k) * sz k + val k 0 = sz (k + 1) / 2
    rw [val_A k, val_zero, sz_succ]
    have e : sz k = 2 * (sz k / 2) := by
      unfold sz
      have : 2 ^ k = (2 ^ k - 1) + 1 := by have := Nat.two_pow_pos k; omega
      rw [this, Nat.pow_succ]; omega
    generalize sz k / 2 = m at e
    rw [e, Nat.add_zero, show 2 * m * (2 * m) = 2 * (m * (2 * m)) by rw [Nat.mul_assoc], Nat.mul_div_cancel_left _ (by decide)]

/-! ### the product, as the program reckons it -/
def tw : Nat → Nat → Nat → Nat
  | 0, a, b => a * b
  | k + 1, a, b =>
    if a < 2 ∨ b < 2 then a * b else
      ((tw k ((a / sz k) ^^^ (a % sz k)) ((b / sz k) ^^^ (b % sz k)) ^^^ tw k (a % sz k) (b % sz k)) * sz k ^^^ tw k (a % sz k) (b % sz k))
        ^^^ tw k (tw k (a / sz k) (b / sz k)) (sz k / 2)
theorem add_eq_xor {m h l : Nat} (hl : l < 2 ^ m) : h * 2 ^ m + l = (h * 2 ^ m) ^^^ l := by
  apply Nat.eq_of_testBit_eq
  intro i
  rw [Nat.testBit_xor, Nat.mul_comm, Nat.testBit_two_pow_mul_add _ hl, Nat.testBit_two_pow_mul]
  by_cases h1 : i < m
  · have : ¬ m ≤ i := by omega
    simp [h1, this]
  · have h2 : m ≤ i := by omega
    have h3 : l.testBit i = false := Nat.testBit_lt_two_pow (Nat.lt_of_lt_of_le hl (Nat.pow_le_pow_right (by decide) h2))
    simp [h1, h2, h3]
theorem tw_eq : ∀ k a b, a < sz k → b < sz k → tw k a b = val k (of k a * of k b)
  | 0, a, b, ha, hb => by
    have ha : a = 0 ∨ a = 1 := by have : a < 2 := ha; omega
    have hb : b = 0 ∨ b = 1 := by have : b < 2 := hb; omega
    rcases ha with rfl | rfl <;> rcases hb with rfl | rfl <;> rfl
  | k + 1, a, b, ha, hb => by
    unfold tw
    split
    · rename_i h
      rcases h with h | h
      · have : a = 0 ∨ a = 1 := by omega
        rcases this with rfl | rfl
        · rw [of_zero, show (0 : T (k + 1)) * of (k + 1) b = 0 by grind, val_zero, Nat.zero_mul]
        · rw [of_one, show (1 : T (k + 1)) * of (k + 1) b = of (k + 1) b by grind, val_of _ _ hb, Nat.one_mul]
      · have : b = 0 ∨ b = 1 := by omega
        rcases this with rfl | rfl
        · rw [of_zero, show of (k + 1) a * (0 : T (k + 1)) = 0 by grind, val_zero, Nat.mul_zero]
        · rw [of_one, show of (k + 1) a * (1 : T (k + 1)) = of (k + 1) a by grind, val_of _ _ ha, Nat.mul_one]
    · rw [sz_succ] at ha hb
      have a1 : a / sz k < sz k := Nat.div_lt_of_lt_mul ha
      have a0 : a % sz k < sz k := Nat.mod_lt _ (sz_pos k)
      have b1 : b / sz k < sz k := Nat.div_lt_of_lt_mul hb
      have b0 : b % sz k < sz k := Nat.mod_lt _ (sz_pos k)
      have s2 : sz k / 2 < sz k := by have := sz_pos k; omega
      rw [tw_eq k _ _ (xor_lt a1 a0) (xor_lt b1 b0), tw_eq k _ _ a0 b0, tw_eq k _ _ a1 b1, tw_eq k _ _ (val_lt k _) s2, of_val, of_xor, of_xor, ← val_A, of_val]
      show _ = val k (hiT (of (k + 1) a * of (k + 1) b)) * sz k + val k (loT (of (k + 1) a * of (k + 1) b))
      rw [mul_hi, mul_lo]
      show _ = val k (of k (a / sz k) * of k (b / sz k) + of k (a / sz k) * of k (b % sz k) + of k (a % sz k) * of k (b / sz k)) * sz k + val k (of k (a % sz k) * of k (b % sz k) + of k (a / sz k) * of k (b / sz k) * A k)
      generalize of k (a / sz k) = p
      generalize of k (a % sz k) = q
      generalize of k (b / sz k) = r
      generalize of k (b % sz k) = s
      rw [← val_add, Nat.xor_assoc, ← val_add]
      have e : (p + q) * (r + s) + q * s = p * r + p * s + q * r := by grind
      rw [e]
      exact (add_eq_xor (m := 2 ^ k) (val_lt k _)).symm
theorem tw_lt {k a b : Nat} (ha : a < sz k) (hb : b < sz k) : tw k a b < sz k := by rw [tw_eq k a b ha hb]; exact val_lt k _
theorem tw_up {k a b : Nat} (ha : a < sz k) (hb : b < sz k) : tw (k + 1) a b = tw k a b := by
  have hs : sz k ≤ sz (k + 1) := sz_mono (Nat.le_succ k)
  rw [tw_eq _ _ _ (Nat.lt_of_lt_of_le ha hs) (Nat.lt_of_lt_of_le hb hs), tw_eq _ _ _ ha hb, of_up ha, of_up hb]
  have : mkT (0 : T k) (of k a) * mkT 0 (of k b) = mkT 0 (of k a * of k b) := by
    refine T_ext ?_ ?_
    · rw [mul_hi]; show (0 : T k) * 0 + 0 * of k b + of k a * 0 = 0; grind
    · rw [mul_lo]; show of k a * of k b + 0 * 0 * A k = of k a * of k b; grind
  rw [this]
  show val k 0 * sz k + val k (of k a * of k b) = _
  rw [val_zero, Nat.zero_mul, Nat.zero_add]
theorem tw_le {j k a b : Nat} (h : j ≤ k) (ha : a < sz j) (hb : b < sz j) : tw k a b = tw j a b := by
  induction h with
  | refl => rfl
  | step h ih => rw [tw_up (Nat.lt_of_lt_of_le ha (sz_mono h)) (Nat.lt_of_lt_of_le hb (sz_mono h)), ih]

/-- the least level -/
def levF (n : Nat) : Nat → Nat → Nat
  | 0, k => k
  | f + 1, k => if n < sz k then k else levF n f (k + 1)
def lev (n : Nat) : Nat := levF n n 0
theorem levF_spec (n : Nat) : ∀ f k, n < sz (k + f) → (∀ j, j < k → sz j ≤ n) → n < sz (levF n f k) ∧ ∀ j, j < levF n f k → sz j ≤ n
  | 0, k, h, h2 => ⟨h, h2⟩
  | f + 1, k, h, h2 => by
    unfold levF
    split
    · rename_i h3; exact ⟨h3, h2⟩
    · rename_i h3
      refine levF_spec n f (k + 1) (by rw [show k + 1 + f = k + (f + 1) by omega]; exact h) fun j hj => ?_
      by_cases e : j = k
      · subst e; omega
      · exact h2 j (by omega)
theorem lev_lt (n : Nat) : n < sz (lev n) := (levF_spec n n 0 (by rw [Nat.zero_add]; exact self_lt_sz n) (fun j h => absurd h (Nat.not_lt_zero j))).1
theorem lev_min {n j : Nat} (h : j < lev n) : sz j ≤ n := (levF_spec n n 0 (by rw [Nat.zero_add]; exact self_lt_sz n) (fun j h => absurd h (Nat.not_lt_zero j))).2 j h
theorem lev_le {n k : Nat} (h : n < sz k) : lev n ≤ k := by
  rcases Nat.lt_or_ge k (lev n) with h2 | h2
  · have := lev_min h2; omega
  · exact h2
theorem lev_le_iff {n k : Nat} : lev n ≤ k ↔ n < sz k := ⟨fun h => Nat.lt_of_lt_of_le (lev_lt n) (sz_mono h), lev_le⟩

def nm (a b : Nat) : Nat := tw (max (lev a) (lev b)) a b
theorem nm_at {k a b : Nat} (ha : a < sz k) (hb : b < sz k) : nm a b = tw k a b := by
  unfold nm
  have h1 := lev_le ha
  have h2 := lev_le hb
  refine (tw_le (j := max (lev a) (lev b)) (k := k) (by omega) ?_ ?_).symm
  · exact lev_le_iff.mp (by omega)
  · exact lev_le_iff.mp (by omega)
theorem nm_T {k a b : Nat} (ha : a < sz k) (hb : b < sz k) : nm a b = val k (of k a * of k b) := by rw [nm_at ha hb, tw_eq k a b ha hb]
theorem nm_lt {k a b : Nat} (ha : a < sz k) (hb : b < sz k) : nm a b < sz k := by rw [nm_at ha hb]; exact tw_lt ha hb
theorem of_nm {k a b : Nat} (ha : a < sz k) (hb : b < sz k) : of k (nm a b) = of k a * of k b := by rw [nm_T ha hb, of_val]

/-! ### all numbers are a ring -/
structure N2 where
  v : Nat
  deriving DecidableEq
theorem N2.eq {x y : N2} (h : x.v = y.v) : x = y := by cases x; cases y; cases h; rfl
theorem lift3 {a b c : Nat} : ∃ k, a < sz k ∧ b < sz k ∧ c < sz k :=
  ⟨max (lev a) (max (lev b) (lev c)), lev_le_iff.mp (by omega), lev_le_iff.mp (by omega), lev_le_iff.mp (by omega)⟩
theorem of_inj {k a b : Nat} (ha : a < sz k) (hb : b < sz k) (h : of k a = of k b) : a = b := by rw [← val_of k a ha, ← val_of k b hb, h]
def n2Few : Few N2 where
  add x y := ⟨x.v ^^^ y.v⟩
  mul x y := ⟨nm x.v y.v⟩
  zero := ⟨0⟩
  one := ⟨1⟩
  add_assoc x y z := N2.eq (Nat.xor_assoc _ _ _)
  add_comm x y := N2.eq (Nat.xor_comm _ _)
  add_zero x := N2.eq (Nat.xor_zero _)
  add_self x := N2.eq (Nat.xor_self _)
  mul_assoc x y z := N2.eq (by
    obtain ⟨k, h1, h2, h3⟩ := @lift3 x.v y.v z.v
    refine of_inj (nm_lt (nm_lt h1 h2) h3) (nm_lt h1 (nm_lt h2 h3)) ?_
    rw [of_nm (nm_lt h1 h2) h3, of_nm h1 h2, of_nm h1 (nm_lt h2 h3), of_nm h2 h3]
    grind)
  mul_comm x y := N2.eq (by
    obtain ⟨k, h1, h2, _⟩ := @lift3 x.v y.v 0
    refine of_inj (nm_lt h1 h2) (nm_lt h2 h1) ?_
    rw [of_nm h1 h2, of_nm h2 h1]
    grind)
  one_mul x := N2.eq (by
    obtain ⟨k, h1, h2, _⟩ := @lift3 x.v 1 0
    refine of_inj (nm_lt h2 h1) h1 ?_
    rw [of_nm h2 h1, of_one]
    grind)
  distrib x y z := N2.eq (by
    obtain ⟨k, h1, h2, h3⟩ := @lift3 x.v y.v z.v
    refine of_inj (nm_lt h1 (xor_lt h2 h3)) (xor_lt (nm_lt h1 h2) (nm_lt h1 h3)) ?_
    rw [of_nm h1 (xor_lt h2 h3), of_xor, of_xor, of_nm h1 h2, of_nm h1 h3]
    grind)
  ne h := by cases h
instance : F2 N2 := n2Few.ring
theorem N2.add_v (x y : N2) : (x + y).v = x.v ^^^ y.v := rfl
theorem N2.mul_v (x y : N2) : (x * y).v = nm x.v y.v := rfl
theorem N2.zero_v : (0 : N2).v = 0 := rfl
theorem N2.one_v : (1 : N2).v = 1 := rfl
end NF

namespace NF
open Lean.Grind

/-! ### powers -/
theorem pow_z {R : Type} [F2 R] (x : R) : x ^ (0 : Nat) = 1 := Semiring.pow_zero x
theorem pow_s {R : Type} [F2 R] (x : R) (n : Nat) : x ^ (n + 1) = x ^ n * x := Semiring.pow_succ x n
theorem pow_a {R : Type} [F2 R] (x : R) (m n : Nat) : x ^ (m + n) = x ^ m * x ^ n := by
  induction n with
  | zero => rw [Nat.add_zero, pow_z]; grind
  | succ n ih => rw [← Nat.add_assoc, pow_s, pow_s, ih]; grind
theorem pow_m {R : Type} [F2 R] (x y : R) (n : Nat) : (x * y) ^ n = x ^ n * y ^ n := by
  induction n with
  | zero => rw [pow_z, pow_z, pow_z]; grind
  | succ n ih => rw [pow_s, pow_s, pow_s, ih]; grind
theorem pow_p {R : Type} [F2 R] (x : R) (m n : Nat) : x ^ (m * n) = (x ^ m) ^ n := by
  induction n with
  | zero => rw [Nat.mul_zero, pow_z, pow_z]
  | succ n ih => rw [Nat.mul_succ, pow_a, pow_s, ih]
theorem one_p {R : Type} [F2 R] (n : Nat) : (1 : R) ^ n = 1 := by
  induction n with
  | zero => rw [pow_z]
  | succ n ih => rw [pow_s, ih]; grind
theorem fr_pow {R : Type} [F2 R] (t : Nat) (x : R) : fr t x = x ^ (2 ^ t) := by
  induction t with
  | zero => show x = x ^ 1; rw [show (1 : Nat) = 0 + 1 from rfl, pow_s, pow_z]; grind
  | succ t ih => show fr t x * fr t x = _; rw [ih, ← pow_a]; congr 1; rw [Nat.pow_succ]; omega
theorem pow_dvd {R : Type} [F2 R] {x : R} {m n : Nat} (h : x ^ m = 1) (d : m ∣ n) : x ^ n = 1 := by
  obtain ⟨q, rfl⟩ := d
  rw [pow_p, h, one_p]
theorem pow_mod {R : Type} [F2 R] {x : R} {m n : Nat} (h : x ^ m = 1) (h' : x ^ n = 1) : x ^ (n % m) = 1 := by
  have e := Nat.div_add_mod n m
  rw [← e, pow_a, pow_p, h, one_p] at h'
  grind
theorem pow_gcd {R : Type} [F2 R] {x : R} {m n : Nat} (h : x ^ m = 1) (h' : x ^ n = 1) : x ^ (Nat.gcd m n) = 1 := by
  induction m, n using Nat.gcd.induction with
  | H0 n => rw [Nat.gcd_zero_left]; exact h'
  | H1 m n hm ih => rw [Nat.gcd_rec]; exact ih (pow_mod h h') h
theorem fr_mulp {R : Type} [F2 R] {x : R} {m : Nat} (h : fr m x = x) (q : Nat) : fr (m * q) x = x := by
  induction q with
  | zero => rfl
  | succ q ih => rw [Nat.mul_succ, ← fr_fr, h, ih]
theorem fr_mod {R : Type} [F2 R] {x : R} {m n : Nat} (h : fr m x = x) (h' : fr n x = x) : fr (n % m) x = x := by
  have e := Nat.div_add_mod n m
  rw [← e, Nat.add_comm, ← fr_fr, fr_mulp h] at h'
  exact h'
theorem fr_gcd {R : Type} [F2 R] {x : R} {m n : Nat} (h : fr m x = x) (h' : fr n x = x) : fr (Nat.gcd m n) x = x := by
  induction m, n using Nat.gcd.induction with
  | H0 n => rw [Nat.gcd_zero_left]; exact h'
  | H1 m n hm ih => rw [Nat.gcd_rec]; exact ih (fr_mod h h') h

/-! ### numbers: powers, squares -/
def pw (a e : Nat) : Nat := ((⟨a⟩ : N2) ^ e).v
def frN (t a : Nat) : Nat := (fr t (⟨a⟩ : N2)).v
theorem pw_zero (a : Nat) : pw a 0 = 1 := by unfold pw; rw [pow_z]; rfl
theorem pw_succ (a e : Nat) : pw a (e + 1) = nm (pw a e) a := by unfold pw; rw [pow_s]; rfl
theorem frN_zero (a : Nat) : frN 0 a = a := rfl
theorem frN_succ (t a : Nat) : frN (t + 1) a = nm (frN t a) (frN t a) := rfl
theorem frN_pw (t a : Nat) : frN t a = pw a (2 ^ t) := by unfold frN pw; rw [fr_pow]
theorem pw_lt {k a : Nat} (h : a < sz k) (e : Nat) : pw a e < sz k := by
  induction e with
  | zero => rw [pw_zero]; exact two_le_sz k
  | succ e ih => rw [pw_succ]; exact nm_lt ih h
theorem frN_lt {k a : Nat} (h : a < sz k) (t : Nat) : frN t a < sz k := by rw [frN_pw]; exact pw_lt h _
theorem of_pw {k a : Nat} (h : a < sz k) (e : Nat) : of k (pw a e) = (of k a) ^ e := by
  induction e with
  | zero => rw [pw_zero, pow_z, of_one]
  | succ e ih => rw [pw_succ, pow_s, of_nm (pw_lt h e) h, ih]
theorem of_frN {k a : Nat} (h : a < sz k) (t : Nat) : of k (frN t a) = fr t (of k a) := by rw [frN_pw, of_pw h, fr_pow]
theorem frN_full {k a : Nat} (h : a < sz k) : frN (2 ^ k) a = a := of_inj (frN_lt h _) h (by rw [of_frN h, fr_full])
/-- nothing but 0 multiplies to 0 -/
theorem n2_zero {x y : N2} (h : x * y = 0) : x = 0 ∨ y = 0 := by
  obtain ⟨k, h1, h2, _⟩ := @lift3 x.v y.v 0
  have e : nm x.v y.v = 0 := congrArg N2.v h
  have : of k x.v * of k y.v = 0 := by rw [← of_nm h1 h2, e, of_zero]
  rcases mul_zero_iff this with z | z
  · exact .inl (N2.eq (of_inj h1 (sz_pos k) (by rw [z]; exact (of_zero k).symm)))
  · exact .inr (N2.eq (of_inj h2 (sz_pos k) (by rw [z]; exact (of_zero k).symm)))
theorem n2_inv {x : N2} (h : x ≠ 0) : ∃ y : N2, x * y = 1 := by
  have hx : of (lev x.v) x.v ≠ 0 := fun z => h (N2.eq (of_inj (lev_lt x.v) (sz_pos _) (by rw [z]; exact (of_zero _).symm)))
  obtain ⟨y, hy⟩ := inv_ex _ hx
  refine ⟨⟨val _ y⟩, N2.eq ?_⟩
  show nm x.v (val _ y) = 1
  rw [nm_T (lev_lt x.v) (val_lt _ y), of_val, hy, val_one]
theorem n2_cancel {x y z : N2} (h : x ≠ 0) (e : x * y = x * z) : y = z := by
  have : x * (y + z) = 0 := by grind
  rcases n2_zero this with q | q
  · exact absurd q h
  · grind
theorem pow_ne {x : N2} (h : x ≠ 0) (e : Nat) : x ^ e ≠ 0 := by
  induction e with
  | zero => rw [pow_z]; intro z; cases z
  | succ e ih => rw [pow_s]; intro z; rcases n2_zero z with q | q; exact ih q; exact h q
theorem ne0 {a : Nat} (h : a ≠ 0) : (⟨a⟩ : N2) ≠ 0 := fun z => h (congrArg N2.v z)
/-- Fermat -/
theorem fermat {k a : Nat} (h : a < sz k) (h0 : a ≠ 0) : (⟨a⟩ : N2) ^ (sz k - 1) = 1 := by
  have e : fr (2 ^ k) (⟨a⟩ : N2) = ⟨a⟩ := N2.eq (frN_full h)
  rw [fr_pow] at e
  have e2 : sz k = (sz k - 1) + 1 := by have := sz_pos k; omega
  have e3 : (⟨a⟩ : N2) ^ (sz k) = ⟨a⟩ := e
  rw [e2, pow_s] at e3
  refine n2_cancel (ne0 h0) ?_
  have : (⟨a⟩ : N2) * 1 = ⟨a⟩ := by grind
  rw [this]; grind

/-! ### how many conjugates -/
theorem half_pow {g L : Nat} (h : g ∣ 2 ^ (L + 1)) (hl : g < 2 ^ (L + 1)) : g ∣ 2 ^ L := by
  obtain ⟨q, hq⟩ := h
  rcases Nat.mod_two_eq_zero_or_one q with e | e
  · refine ⟨q / 2, ?_⟩
    have : q = 2 * (q / 2) := by omega
    rw [this, Nat.pow_succ] at hq
    have : 2 ^ L * 2 = (g * (q / 2)) * 2 := by rw [hq]; simp only [Nat.mul_comm, Nat.mul_left_comm]
    omega
  · have c : Nat.Coprime q 2 := by
      have hg : Nat.gcd q 2 ∣ 2 := Nat.gcd_dvd_right q 2
      have hg1 : Nat.gcd q 2 ∣ q := Nat.gcd_dvd_left q 2
      have hle : Nat.gcd q 2 ≤ 2 := Nat.le_of_dvd (by decide) hg
      have hp : 0 < Nat.gcd q 2 := Nat.gcd_pos_of_pos_right q (by decide)
      have : Nat.gcd q 2 ≠ 2 := fun z => by rw [z] at hg1; have := Nat.mod_eq_zero_of_dvd hg1; omega
      show Nat.gcd q 2 = 1
      omega
    have c2 : Nat.Coprime q (2 ^ (L + 1)) := Nat.Coprime.pow_right (L + 1) c
    have d : q ∣ 2 ^ (L + 1) := ⟨g, by rw [hq, Nat.mul_comm]⟩
    have : q = 1 := by
      have : Nat.gcd q (2 ^ (L + 1)) = q := Nat.gcd_eq_left d
      rw [c2] at this
      exact this.symm
    rw [this, Nat.mul_one] at hq
    omega
theorem no_back {a i : Nat} (h0 : 0 < i) (h : i < 2 ^ (lev a)) : frN i a ≠ a := by
  intro e
  cases hL : lev a with
  | zero => rw [hL] at h; omega
  | succ L =>
    have ha : a < sz (L + 1) := by rw [← hL]; exact lev_lt a
    have hb : sz L ≤ a := lev_min (by omega)
    have e1 : fr i (⟨a⟩ : N2) = ⟨a⟩ := N2.eq e
    have e2 : fr (2 ^ (L + 1)) (⟨a⟩ : N2) = ⟨a⟩ := N2.eq (frN_full ha)
    have e3 := fr_gcd e1 e2
    have d1 : Nat.gcd i (2 ^ (L + 1)) ∣ 2 ^ (L + 1) := Nat.gcd_dvd_right _ _
    have d2 : Nat.gcd i (2 ^ (L + 1)) ≤ i := Nat.gcd_le_left _ h0
    rw [hL] at h
    obtain ⟨q, hq⟩ := half_pow d1 (by omega)
    have e4 : fr (2 ^ L) (⟨a⟩ : N2) = ⟨a⟩ := by rw [hq]; exact fr_mulp e3 q
    -- in the level: the upper half stays, the lower one gets it added
    have e5 : fr (2 ^ L) (of (L + 1) a) = of (L + 1) a := by
      rw [← of_frN ha]
      have : frN (2 ^ L) a = a := congrArg N2.v e4
      rw [this]
    have e6 := congrArg loT e5
    rw [fr_lo, fr_full, fr_full] at e6
    have e7 : tsum (2 ^ L) (A L) = (1 : T L) := by rw [tsum_full, tr_A]; rfl
    rw [e7] at e6
    have e8 : hiT (of (L + 1) a) = 0 := by grind
    have e9 : of L (a / sz L) = 0 := e8
    have : a / sz L = 0 := by
      refine of_inj (Nat.div_lt_of_lt_mul (by rw [← sz_succ]; exact ha)) (sz_pos L) (e9.trans (of_zero L).symm)
    have := Nat.div_pos hb (sz_pos L)
    omega
theorem frN_inj {i j a : Nat} (hi : i < 2 ^ lev a) (hj : j < 2 ^ lev a) (e : frN i a = frN j a) : i = j := by
  have key : ∀ {i j}, i ≤ j → j < 2 ^ lev a → frN i a = frN j a → i = j := fun {i j} hij hj e => by
    have e1 : fr i (⟨a⟩ : N2) = fr j ⟨a⟩ := N2.eq e
    have e2 := congrArg (fr (2 ^ lev a - i)) e1
    rw [fr_fr, fr_fr, show 2 ^ lev a - i + i = 2 ^ lev a by omega] at e2
    have e3 : fr (2 ^ lev a) (⟨a⟩ : N2) = ⟨a⟩ := N2.eq (frN_full (lev_lt a))
    rw [show 2 ^ lev a - i + j = (j - i) + 2 ^ lev a by omega, ← fr_fr, e3] at e2
    rcases Nat.eq_zero_or_pos (j - i) with z | z
    · omega
    · exact absurd (congrArg N2.v e2).symm (no_back z (by omega))
  rcases Nat.le_total i j with h | h
  · exact key h hj e
  · exact (key h hi e.symm).symm

/-! ### orders -/
def PR : List Nat := [3, 5, 17, 257, 641, 65537, 6700417]
def oStep (a f p : Nat) : Nat := if f % p = 0 ∧ pw a (f / p) = 1 then f / p else f
def ordBy (a : Nat) : Nat := PR.foldl (oStep a) (sz (lev a) - 1)
end NF

namespace NF
open Lean.Grind

theorem prime_chk {p b : Nat} (h1 : 1 < p) (h : p < b * b) (chk : ((List.range b).all fun d => decide (d < 2) || decide (p % d ≠ 0)) = true) {d : Nat} (hd : d ∣ p) : d = 1 ∨ d = p := by
  have c : ∀ e, e < b → e ∣ p → e = 1 := fun e he ⟨q, hq⟩ => by
    have := List.all_eq_true.mp chk e (List.mem_range.mpr he)
    simp only [Bool.or_eq_true, decide_eq_true_eq] at this
    rcases this with z | z
    · have : e ≠ 0 := fun y => by subst y; omega
      omega
    · exact absurd (Nat.mod_eq_zero_of_dvd ⟨q, hq⟩) z
  by_cases hb : d < b
  · exact .inl (c d hb hd)
  · obtain ⟨e, he⟩ := hd
    have hlt : e < b := by
      rcases Nat.lt_or_ge e b with z | z
      · exact z
      · have : b * b ≤ d * e := Nat.mul_le_mul (by omega) z
        omega
    have : e = 1 := c e hlt ⟨d, by rw [he, Nat.mul_comm]⟩
    subst this
    exact .inr (by omega)
theorem pr_prime : ∀ p ∈ PR, ∀ d, d ∣ p → d = 1 ∨ d = p := by
  intro p hp d hd
  simp only [PR, List.mem_cons, List.not_mem_nil, or_false] at hp
  rcases hp with rfl | rfl | rfl | rfl | rfl | rfl | rfl
  · exact prime_chk (b := 2) (by decide) (by decide) (by decide +kernel) hd
  · exact prime_chk (b := 3) (by decide) (by decide) (by decide +kernel) hd
  · exact prime_chk (b := 5) (by decide) (by decide) (by decide +kernel) hd
  · exact prime_chk (b := 17) (by decide) (by decide) (by decide +kernel) hd
  · exact prime_chk (b := 26) (by decide) (by decide) (by decide +kernel) hd
  · exact prime_chk (b := 257) (by decide) (by decide) (by decide +kernel) hd
  · exact prime_chk (b := 2589) (by decide) (by decide) (by decide +kernel) hd
theorem pr_cop {p m : Nat} (hp : p ∈ PR) : p ∣ m ∨ Nat.Coprime m p := by
  rcases pr_prime p hp _ (Nat.gcd_dvd_right m p) with h | h
  · exact .inr h
  · exact .inl (by rw [← h]; exact Nat.gcd_dvd_left m p)
theorem no_pr : ∀ (l : List Nat), (∀ p ∈ l, p ∈ PR) → ∀ m, m ∣ l.foldr (· * ·) 1 → (∀ p ∈ l, ¬ p ∣ m) → m = 1
  | [], _, m, h, _ => Nat.dvd_one.mp h
  | p :: l, hl, m, h, hn => by
    have c := (pr_cop (m := m) (hl p (by simp))).resolve_left (hn p (by simp))
    exact no_pr l (fun q hq => hl q (by simp [hq])) m (Nat.Coprime.dvd_of_dvd_mul_left c h) fun q hq => hn q (by simp [hq])
theorem sz6_pr : sz 6 - 1 = PR.foldr (· * ·) 1 := by decide +kernel
theorem sz_dvd {j k : Nat} (h : j ≤ k) : sz j - 1 ∣ sz k - 1 := by
  induction h with
  | refl => exact Nat.dvd_refl _
  | step h ih =>
    refine Nat.dvd_trans ih ?_
    rename_i m
    refine ⟨sz m + 1, ?_⟩
    rw [sz_succ]
    have := sz_pos m
    generalize hs : sz m = s at *
    cases s with
    | zero => omega
    | succ s => simp only [Nat.succ_sub_one, Nat.succ_eq_add_one, Nat.mul_add, Nat.add_mul, Nat.mul_one, Nat.one_mul]; omega
theorem has_pr {m : Nat} (h : m ∣ sz 6 - 1) (h1 : m ≠ 1) : ∃ p ∈ PR, p ∣ m := by
  by_cases e : ∃ p ∈ PR, p ∣ m
  · exact e
  · exact absurd (no_pr PR (fun p hp => hp) m (by rw [← sz6_pr]; exact h) fun p hp hd => e ⟨p, hp, hd⟩) h1
theorem sqfree : ∀ p ∈ PR, ¬ p * p ∣ sz 6 - 1 := by
  intro p hp
  simp only [PR, List.mem_cons, List.not_mem_nil, or_false] at hp
  rcases hp with rfl | rfl | rfl | rfl | rfl | rfl | rfl <;> decide +kernel
/-- the order divides each exponent to which a number is 1 -/
theorem ord_spec {a : Nat} (h : a < sz 6) (h0 : a ≠ 0) : 0 < ordBy a ∧ ordBy a ∣ sz (lev a) - 1 ∧ ∀ e, pw a e = 1 ↔ ordBy a ∣ e := by
  have hL : lev a ≤ 6 := lev_le h
  have x0 := ne0 h0
  have f0 : (⟨a⟩ : N2) ^ (sz (lev a) - 1) = 1 := fermat (lev_lt a) h0
  have hN : 0 < sz (lev a) - 1 := by have := two_le_sz (lev a); omega
  have pe : ∀ e, pw a e = 1 ↔ (⟨a⟩ : N2) ^ e = 1 := fun e => ⟨fun q => N2.eq q, fun q => congrArg N2.v q⟩
  -- the loop
  have inv : ∀ (l done : List Nat) (f : Nat), (∀ p ∈ l, p ∈ PR) → f ∣ sz (lev a) - 1 → (⟨a⟩ : N2) ^ f = 1 → (∀ p ∈ done, ¬ (p ∣ f ∧ (⟨a⟩ : N2) ^ (f / p) = 1)) →
      let g := l.foldl (oStep a) f; g ∣ sz (lev a) - 1 ∧ (⟨a⟩ : N2) ^ g = 1 ∧ ∀ p, p ∈ done ∨ p ∈ l → ¬ (p ∣ g ∧ (⟨a⟩ : N2) ^ (g / p) = 1) := fun l => by
    induction l with
    | nil => intro done f _ h1 h2 h3; exact ⟨h1, h2, fun p hp => h3 p (hp.resolve_right (by simp))⟩
    | cons q l ih =>
      intro done f hl h1 h2 h3
      have hq := hl q (by simp)
      have fpos : 0 < f := Nat.pos_of_dvd_of_pos h1 hN
      have hq1 : 1 < q := by
        simp only [PR, List.mem_cons, List.not_mem_nil, or_false] at hq
        omega
      simp only [List.foldl_cons]
      by_cases c : f % q = 0 ∧ pw a (f / q) = 1
      · have e : oStep a f q = f / q := by unfold oStep; rw [if_pos c]
        rw [e]
        have qf : q ∣ f := Nat.dvd_of_mod_eq_zero c.1
        obtain ⟨m, hm⟩ := qf
        have em : f / q = m := by rw [hm]; exact Nat.mul_div_cancel_left m (by omega)
        rw [em] at c ⊢
        obtain ⟨g1, g2, g3⟩ := ih (q :: done) m (fun p hp => hl p (by simp [hp])) (Nat.dvd_trans ⟨q, by rw [hm, Nat.mul_comm]⟩ h1) ((pe m).mp c.2) (fun p hp => by
          rcases List.mem_cons.mp hp with z | z
          · subst z
            rintro ⟨⟨r, hr⟩, _⟩
            exact sqfree p hq (Nat.dvd_trans ⟨r, by rw [hm, hr, Nat.mul_assoc]⟩ (Nat.dvd_trans h1 (sz_dvd hL)))
          · rintro ⟨⟨r, hr⟩, hx⟩
            have pp : 0 < p := Nat.pos_of_ne_zero fun z => by subst z; rw [Nat.zero_mul] at hr; subst hr; omega
            refine h3 p z ⟨⟨q * r, by rw [hm, hr]; exact Nat.mul_left_comm q p r⟩, ?_⟩
            have e1 : m / p = r := by rw [hr]; exact Nat.mul_div_cancel_left r pp
            have e2 : f / p = q * r := by rw [hm, hr, Nat.mul_left_comm]; exact Nat.mul_div_cancel_left _ pp
            rw [e1] at hx
            rw [e2]
            exact pow_dvd hx ⟨q, Nat.mul_comm q r⟩)
        exact ⟨g1, g2, fun p hp => g3 p (by simp only [List.mem_cons] at hp ⊢; rcases hp with z | z | z <;> simp [z])⟩
      · have e : oStep a f q = f := by unfold oStep; rw [if_neg c]
        rw [e]
        obtain ⟨g1, g2, g3⟩ := ih (q :: done) f (fun p hp => hl p (by simp [hp])) h1 h2 (fun p hp => by
          rcases List.mem_cons.mp hp with z | z
          · subst z
            rintro ⟨hd, hx⟩
            exact c ⟨Nat.mod_eq_zero_of_dvd hd, (pe _).mpr hx⟩
          · exact h3 p z)
        exact ⟨g1, g2, fun p hp => g3 p (by simp only [List.mem_cons] at hp ⊢; rcases hp with z | z | z <;> simp [z])⟩
  obtain ⟨g1, g2, g3⟩ := inv PR [] (sz (lev a) - 1) (fun p hp => hp) (Nat.dvd_refl _) f0 (fun p hp => by cases hp)
  have g1 : ordBy a ∣ sz (lev a) - 1 := g1
  have g2 : (⟨a⟩ : N2) ^ (ordBy a) = 1 := g2
  have gpos : 0 < ordBy a := Nat.pos_of_dvd_of_pos g1 hN
  refine ⟨gpos, g1, fun e => ⟨fun he => ?_, fun hd => (pe e).mpr (pow_dvd g2 hd)⟩⟩
  have he := (pe e).mp he
  have hg := pow_gcd g2 he
  obtain ⟨m, hm⟩ := Nat.gcd_dvd_left (ordBy a) e
  by_cases h1 : m = 1
  · rw [h1, Nat.mul_one] at hm
    rw [hm]
    exact Nat.gcd_dvd_right _ _
  · have dm : m ∣ sz 6 - 1 := Nat.dvd_trans ⟨Nat.gcd (ordBy a) e, by rw [Nat.mul_comm]; exact hm⟩ (Nat.dvd_trans g1 (sz_dvd hL))
    obtain ⟨p, hp, q, hq⟩ := has_pr dm h1
    have hp1 : 0 < p := by
      simp only [PR, List.mem_cons, List.not_mem_nil, or_false] at hp
      omega
    exfalso
    have e1 : ordBy a = p * (Nat.gcd (ordBy a) e * q) := by
      have e2 : Nat.gcd (ordBy a) e * (p * q) = p * (Nat.gcd (ordBy a) e * q) := Nat.mul_left_comm _ _ _
      rw [← hq, ← hm] at e2
      exact e2
    refine g3 p (.inr hp) ⟨⟨_, e1⟩, ?_⟩
    have e3 : ordBy a / p = Nat.gcd (ordBy a) e * q := by
      have := Nat.mul_div_cancel_left (Nat.gcd (ordBy a) e * q) hp1
      rw [← e1] at this
      exact this
    show (⟨a⟩ : N2) ^ (ordBy a / p) = 1
    rw [e3]
    exact pow_dvd hg ⟨q, rfl⟩
theorem dvd_all {m n : Nat} (h : ∀ e, m ∣ e ↔ n ∣ e) : m = n := Nat.dvd_antisymm ((h n).mpr (Nat.dvd_refl n)) ((h m).mp (Nat.dvd_refl m))
/-- conjugates have one order -/
theorem frN_ne {a : Nat} (h0 : a ≠ 0) (t : Nat) : frN t a ≠ 0 := fun z => by
  have : fr t (⟨a⟩ : N2) = 0 := N2.eq z
  rw [fr_pow] at this
  exact pow_ne (ne0 h0) _ this
theorem ord_conj {a : Nat} (h : a < sz 6) (h0 : a ≠ 0) (t : Nat) : ordBy (frN t a) = ordBy a := by
  refine dvd_all fun e => ?_
  rw [← (ord_spec (frN_lt h t) (frN_ne h0 t)).2.2 e, ← (ord_spec h h0).2.2 e]
  have e1 : (⟨frN t a⟩ : N2) = fr t (⟨a⟩ : N2) := rfl
  have e2 : pw (frN t a) e = frN t (pw a e) := by
    show ((⟨frN t a⟩ : N2) ^ e).v = (fr t ((⟨a⟩ : N2) ^ e)).v
    rw [e1, fr_pow, fr_pow, ← pow_p, ← pow_p, Nat.mul_comm]
  rw [e2]
  constructor
  · intro z
    by_cases q : pw a e = 1
    · exact q
    · exfalso
      -- squared t times it is 1: then it is 1
      have : fr t ((⟨a⟩ : N2) ^ e) = 1 := N2.eq z
      have inj : ∀ (t : Nat) (y : N2), fr t y = 1 → y = 1 := fun t => by
        induction t with
        | zero => exact fun y hy => hy
        | succ t ih =>
          intro y hy
          have hy : fr t y * fr t y = 1 := hy
          have : (fr t y + 1) * (fr t y + 1) = 0 := by grind
          have e : fr t y + 1 = 0 := (n2_zero this).elim id id
          exact ih y (by grind)
      exact q (congrArg N2.v (inj t _ this))
  · intro z
    rw [z]
    show (fr t (1 : N2)).v = 1
    rw [fr_one]; rfl
theorem led_iff {a : Nat} (h : a < sz 6) (h0 : a ≠ 0) (t : Nat) : frN t a = a ↔ (2 ^ t - 1) % ordBy a = 0 := by
  rw [frN_pw]
  have e : 2 ^ t = (2 ^ t - 1) + 1 := by have := Nat.two_pow_pos t; omega
  have key : pw a (2 ^ t) = a ↔ pw a (2 ^ t - 1) = 1 := by
    constructor
    · intro z
      have z1 : (⟨a⟩ : N2) ^ (2 ^ t) = ⟨a⟩ := N2.eq z
      rw [e, pow_s] at z1
      refine congrArg N2.v (n2_cancel (y := (⟨a⟩ : N2) ^ (2 ^ t - 1)) (z := 1) (ne0 h0) ?_)
      have : (⟨a⟩ : N2) * 1 = ⟨a⟩ := by grind
      rw [this]; grind
    · intro z
      have z1 : (⟨a⟩ : N2) ^ (2 ^ t - 1) = 1 := N2.eq z
      show ((⟨a⟩ : N2) ^ (2 ^ t)).v = a
      rw [e, pow_s, z1]
      have : (1 : N2) * ⟨a⟩ = ⟨a⟩ := by grind
      rw [this]
  rw [key, (ord_spec h h0).2.2]
  exact ⟨Nat.mod_eq_zero_of_dvd, Nat.dvd_of_mod_eq_zero⟩
end NF

/-! Elimination over bits: rows by their top bits; the equation y * y + y = c. -/
namespace NF
theorem xor1 (q : Nat) : q ^^^ 1 = if q % 2 = 1 then q - 1 else q + 1 := by
  have h1 : (q ^^^ 1) / 2 = q / 2 := by
    have := Nat.xor_div_two_pow (a := q) (b := 1) (n := 1)
    simpa using this
  have h2 : decide ((q ^^^ 1) % 2 = 1) = !decide (q % 2 = 1) := by
    have := Nat.testBit_xor q 1 0
    simp only [Nat.testBit_zero] at this
    rw [this]; cases decide (q % 2 = 1) <;> rfl
  split
  · rename_i h
    have : ¬ (q ^^^ 1) % 2 = 1 := by simpa [h] using h2
    omega
  · rename_i h
    have : (q ^^^ 1) % 2 = 1 := by simpa [h] using h2
    omega
theorem xor_lt_iff {x v : Nat} (h : v ≠ 0) : x ^^^ v < x ↔ x.testBit v.log2 = true := by
  have h1 : 2 ^ v.log2 ≤ v := Nat.log2_self_le h
  have h2 : v < 2 ^ (v.log2 + 1) := Nat.lt_log2_self
  generalize v.log2 = t at h1 h2
  have e1 : v / 2 ^ t = 1 := by
    have : v / 2 ^ t < 2 := Nat.div_lt_of_lt_mul (by rw [← Nat.pow_succ]; exact h2)
    have : 0 < v / 2 ^ t := Nat.div_pos h1 (Nat.two_pow_pos t)
    omega
  have e2 : (x ^^^ v) / 2 ^ t = (x / 2 ^ t) ^^^ 1 := by rw [Nat.xor_div_two_pow, e1]
  rw [xor1] at e2
  rw [Nat.testBit_eq_decide_div_mod_eq, decide_eq_true_iff]
  constructor
  · intro hl
    have : (x ^^^ v) / 2 ^ t ≤ x / 2 ^ t := Nat.div_le_div_right (Nat.le_of_lt hl)
    by_cases hp : x / 2 ^ t % 2 = 1
    · exact hp
    · rw [if_neg hp] at e2; omega
  · intro hp
    rw [if_pos hp] at e2
    by_cases hl : x ^^^ v < x
    · exact hl
    · have h3 : x / 2 ^ t ≤ (x ^^^ v) / 2 ^ t := Nat.div_le_div_right (Nat.le_of_not_lt hl)
      rw [e2] at h3
      generalize x / 2 ^ t = q at h3 hp
      omega
/-- one value put against the rows -/
def rStep (p r : Nat × Nat) : Nat × Nat := if p.1 ^^^ r.1 < p.1 then (p.1 ^^^ r.1, p.2 ^^^ r.2) else p
def red (rows : List (Nat × Nat)) (p : Nat × Nat) : Nat × Nat := rows.foldl rStep p
def Spn : List (Nat × Nat) → Nat → Prop
  | [], x => x = 0
  | r :: rs, x => Spn rs x ∨ Spn rs (x ^^^ r.1)
theorem spn_zero : ∀ rs : List (Nat × Nat), Spn rs 0
  | [] => rfl
  | _ :: rs => .inl (spn_zero rs)
theorem x_cancel (a b : Nat) : a ^^^ b ^^^ b = a := by rw [Nat.xor_assoc, Nat.xor_self, Nat.xor_zero]
theorem spn_xor : ∀ (rs : List (Nat × Nat)) {x y : Nat}, Spn rs x → Spn rs y → Spn rs (x ^^^ y)
  | [], x, y, h, h' => by
    have h : x = 0 := h
    have h' : y = 0 := h'
    subst h; subst h'; rfl
  | r :: rs, x, y, h, h' => by
    rcases h with h | h <;> rcases h' with h' | h'
    · exact .inl (spn_xor rs h h')
    · refine .inr ?_
      have := spn_xor rs h h'
      rwa [← Nat.xor_assoc] at this
    · refine .inr ?_
      have := spn_xor rs h h'
      rwa [Nat.xor_assoc, Nat.xor_comm r.1 y, ← Nat.xor_assoc] at this
    · refine .inl ?_
      have := spn_xor rs h h'
      have e : (x ^^^ r.1) ^^^ (y ^^^ r.1) = x ^^^ y := by
        rw [Nat.xor_comm y r.1, ← Nat.xor_assoc, x_cancel]
      rwa [e] at this
theorem spn_row : ∀ (rs : List (Nat × Nat)) {r : Nat × Nat}, r ∈ rs → Spn rs r.1
  | r' :: rs, r, h => by
    rcases List.mem_cons.mp h with h | h
    · subst h; exact .inr (by rw [Nat.xor_self]; exact spn_zero rs)
    · exact .inl (spn_row rs h)
/-- the span of rows goes into what holds their values and is closed -/
theorem spn_sub {C : Nat → Prop} (h0 : C 0) (hx : ∀ {x y}, C x → C y → C (x ^^^ y)) : ∀ (rs : List (Nat × Nat)), (∀ r ∈ rs, C r.1) → ∀ {x}, Spn rs x → C x
  | [], _, x, h => by
    have h : x = 0 := h
    subst h; exact h0
  | r :: rs, hr, x, h => by
    have ih : ∀ {y}, Spn rs y → C y := spn_sub h0 hx rs (fun r' h' => hr r' (by simp [h']))
    rcases h with h | h
    · exact ih h
    · have := hx (ih h) (hr r (by simp))
      rwa [x_cancel] at this
theorem spn_mono {rs rs' : List (Nat × Nat)} (h : ∀ r ∈ rs, r ∈ rs') {x : Nat} (hx : Spn rs x) : Spn rs' x :=
  spn_sub (C := Spn rs') (spn_zero rs') (fun h h' => spn_xor rs' h h') rs (fun r hr => spn_row rs' (h r hr)) hx
/-- rows by falling top bits -/
def Ech (rs : List (Nat × Nat)) : Prop := rs.Pairwise (fun a b => b.1.log2 < a.1.log2) ∧ ∀ r ∈ rs, r.1 ≠ 0
theorem Ech.tail {r : Nat × Nat} {rs : List (Nat × Nat)} (h : Ech (r :: rs)) : Ech rs := ⟨(List.pairwise_cons.mp h.1).2, fun r' h' => h.2 r' (by simp [h'])⟩
theorem spn_lt {t : Nat} {rs : List (Nat × Nat)} (h : ∀ r ∈ rs, r.1 < 2 ^ t) {x : Nat} (hx : Spn rs x) : x < 2 ^ t :=
  spn_sub (C := fun x => x < 2 ^ t) (Nat.two_pow_pos t) (fun h h' => Nat.xor_lt_two_pow h h') rs h hx
theorem ech_lt {r : Nat × Nat} {rs : List (Nat × Nat)} (h : Ech (r :: rs)) : ∀ r' ∈ rs, r'.1 < 2 ^ r.1.log2 := fun r' hr => by
  have := (List.pairwise_cons.mp h.1).1 r' hr
  exact (Nat.log2_lt (h.2 r' (by simp [hr]))).mp this
theorem spn_bits : ∀ (rs : List (Nat × Nat)), Ech rs → ∀ {x}, Spn rs x → (∀ r ∈ rs, x.testBit r.1.log2 = false) → x = 0
  | [], _, x, h, _ => h
  | r :: rs, he, x, h, hb => by
    rcases h with h | h
    · exact spn_bits rs he.tail h (fun r' h' => hb r' (by simp [h']))
    · have h1 := spn_lt (ech_lt he) h
      have h2 := Nat.testBit_lt_two_pow h1
      rw [Nat.testBit_xor, hb r (by simp), Nat.testBit_log2 (he.2 r (by simp))] at h2
      cases h2
theorem red_spn : ∀ (rs : List (Nat × Nat)) (p : Nat × Nat), Spn rs (p.1 ^^^ (red rs p).1)
  | [], p => by show p.1 ^^^ p.1 = 0; exact Nat.xor_self _
  | r :: rs, p => by
    have ih := red_spn rs (rStep p r)
    show Spn rs _ ∨ Spn rs _
    have e : red (r :: rs) p = red rs (rStep p r) := rfl
    rw [e]
    unfold rStep at ih ⊢
    split at ih
    · rename_i hc
      rw [if_pos hc]
      refine .inr ?_
      have e : p.1 ^^^ (red rs (p.1 ^^^ r.1, p.2 ^^^ r.2)).1 ^^^ r.1 = (p.1 ^^^ r.1, p.2 ^^^ r.2).1 ^^^ (red rs (p.1 ^^^ r.1, p.2 ^^^ r.2)).1 := by
        show _ = p.1 ^^^ r.1 ^^^ _
        rw [Nat.xor_assoc, Nat.xor_comm _ r.1, ← Nat.xor_assoc]
      rw [e]; exact ih
    · rename_i hc
      rw [if_neg hc]
      exact .inl ih
theorem red_bits : ∀ (rs : List (Nat × Nat)), Ech rs → ∀ (p : Nat × Nat), (∀ r ∈ rs, (red rs p).1.testBit r.1.log2 = false) ∧ ∀ t, (∀ r ∈ rs, r.1 < 2 ^ t) → (red rs p).1.testBit t = p.1.testBit t
  | [], _, p => ⟨fun _ h => (nomatch h), fun _ _ => rfl⟩
  | r :: rs, he, p => by
    obtain ⟨i1, i2⟩ := red_bits rs he.tail (rStep p r)
    have e : red (r :: rs) p = red rs (rStep p r) := rfl
    rw [e]
    have nz := he.2 r (by simp)
    have hs : (rStep p r).1.testBit r.1.log2 = false := by
      unfold rStep
      split
      · rename_i hc
        rw [xor_lt_iff nz] at hc
        show (p.1 ^^^ r.1).testBit _ = false
        rw [Nat.testBit_xor, hc, Nat.testBit_log2 nz]; rfl
      · rename_i hc
        rw [xor_lt_iff nz] at hc
        simpa using hc
    refine ⟨fun r' h' => ?_, fun t ht => ?_⟩
    · rcases List.mem_cons.mp h' with h' | h'
      · subst h'
        rw [i2 _ (ech_lt he)]; exact hs
      · exact i1 r' h'
    · rw [i2 t (fun r' h' => ht r' (by simp [h']))]
      unfold rStep
      split
      · show (p.1 ^^^ r.1).testBit t = _
        rw [Nat.testBit_xor, Nat.testBit_lt_two_pow (ht r (by simp)), Bool.xor_false]
      · rfl
theorem red_zero {rs : List (Nat × Nat)} (he : Ech rs) {p : Nat × Nat} (h : Spn rs p.1) : (red rs p).1 = 0 := by
  refine spn_bits rs he ?_ (red_bits rs he p).1
  have := spn_xor rs (red_spn rs p) h
  have e : p.1 ^^^ (red rs p).1 ^^^ p.1 = (red rs p).1 := by rw [Nat.xor_comm p.1, x_cancel]
  rwa [e] at this
theorem red_le : ∀ (rs : List (Nat × Nat)) (p : Nat × Nat), (red rs p).1 ≤ p.1
  | [], p => Nat.le_refl _
  | r :: rs, p => by
    have := red_le rs (rStep p r)
    refine Nat.le_trans this ?_
    unfold rStep
    split
    · rename_i h; exact Nat.le_of_lt h
    · exact Nat.le_refl _
end NF

/-! Halves: the equation y * y + y = c on a level; roots; what stands in a level. -/
namespace NF
open Lean.Grind
/-- in a level exactly if its long lead is itself -/
theorem fix_lt {x s : Nat} (h : frN (2 ^ s) x = x) : x < sz s := by
  rcases Nat.lt_or_ge x (sz s) with h1 | h1
  · exact h1
  · have : s < lev x := by
      rcases Nat.lt_or_ge s (lev x) with q | q
      · exact q
      · exact absurd (lev_le_iff.mp q) (by omega)
    exact absurd h (no_back (Nat.two_pow_pos s) (Nat.pow_lt_pow_right (by decide) this))
theorem n2_sq_add (x y : N2) : (x + y) * (x + y) = x * x + y * y := by grind
theorem frN_xor (t a b : Nat) : frN t (a ^^^ b) = frN t a ^^^ frN t b := by
  have : ∀ t, fr t ((⟨a⟩ : N2) + ⟨b⟩) = fr t (⟨a⟩ : N2) + fr t (⟨b⟩ : N2) := fun t => by
    induction t with
    | zero => rfl
    | succ t ih =>
      show fr t _ * fr t _ = fr t _ * fr t _ + fr t _ * fr t _
      rw [ih, n2_sq_add]
  exact congrArg N2.v (this t)
theorem frN_nm (t a b : Nat) : frN t (nm a b) = nm (frN t a) (frN t b) := by
  have : ∀ t, fr t ((⟨a⟩ : N2) * ⟨b⟩) = fr t (⟨a⟩ : N2) * fr t (⟨b⟩ : N2) := fun t => by
    rw [fr_pow, fr_pow, fr_pow, pow_m]
  exact congrArg N2.v (this t)
theorem frN_frN (s t a : Nat) : frN s (frN t a) = frN (t + s) a := by
  rw [frN_pw, frN_pw, frN_pw]
  show ((⟨((⟨a⟩ : N2) ^ (2 ^ t)).v⟩ : N2) ^ (2 ^ s)).v = _
  have e : (⟨((⟨a⟩ : N2) ^ (2 ^ t)).v⟩ : N2) = (⟨a⟩ : N2) ^ (2 ^ t) := rfl
  rw [e, ← pow_p, ← Nat.pow_add]; rfl
/-! y * y + y -/
def asq (y : Nat) : Nat := nm y y ^^^ y
theorem asq_xor (a b : Nat) : asq (a ^^^ b) = asq a ^^^ asq b := by
  have : ((⟨a⟩ : N2) + ⟨b⟩) * (⟨a⟩ + ⟨b⟩) + (⟨a⟩ + ⟨b⟩) = ((⟨a⟩ : N2) * ⟨a⟩ + ⟨a⟩) + (⟨b⟩ * ⟨b⟩ + ⟨b⟩) := by grind
  exact congrArg N2.v this
theorem asq_zero : asq 0 = 0 := by
  have : (0 : N2) * 0 + 0 = 0 := by grind
  exact congrArg N2.v this
theorem asq_lt {k y : Nat} (h : y < sz k) : asq y < sz k := xor_lt (nm_lt h h) h
theorem asq_inj {y z : Nat} (h : asq y = asq z) : z = y ∨ z = y ^^^ 1 := by
  have h1 : (⟨y⟩ : N2) * ⟨y⟩ + ⟨y⟩ = ⟨z⟩ * ⟨z⟩ + ⟨z⟩ := N2.eq h
  have h2 : ((⟨y⟩ : N2) + ⟨z⟩) * (⟨y⟩ + ⟨z⟩ + 1) = 0 := by grind
  rcases n2_zero h2 with q | q
  · left
    have : (⟨z⟩ : N2) = ⟨y⟩ := by grind
    exact congrArg N2.v this
  · right
    have : (⟨z⟩ : N2) = ⟨y⟩ + 1 := by grind
    exact congrArg N2.v this
theorem asq_one (y : Nat) : asq (y ^^^ 1) = asq y := by
  have : ((⟨y⟩ : N2) + 1) * (⟨y⟩ + 1) + (⟨y⟩ + 1) = ⟨y⟩ * ⟨y⟩ + ⟨y⟩ := by grind
  exact congrArg N2.v this
/-! the rows that are made of the bits -/
structure HInv (L m : Nat) (rs : List (Nat × Nat)) : Prop where
  ech : Ech rs
  val : ∀ r ∈ rs, r.1 = asq r.2 ∧ r.2 < sz L
  all : ∀ i, i < m → Spn rs (asq (2 ^ i))
theorem hinv0 (L : Nat) : HInv L 0 [] := ⟨⟨.nil, fun _ h => (nomatch h)⟩, fun _ h => (nomatch h), fun _ h => absurd h (by omega)⟩
theorem red_val {L : Nat} : ∀ (rs : List (Nat × Nat)), (∀ r ∈ rs, r.1 = asq r.2 ∧ r.2 < sz L) → ∀ (p : Nat × Nat) {c : Nat}, p.1 = asq p.2 ^^^ c → p.2 < sz L → (red rs p).1 = asq (red rs p).2 ^^^ c ∧ (red rs p).2 < sz L
  | [], _, p, c, h, h' => ⟨h, h'⟩
  | r :: rs, hr, p, c, h, h' => by
    have hr0 := hr r (by simp)
    have e : red (r :: rs) p = red rs (rStep p r) := rfl
    rw [e]
    refine red_val rs (fun r' q => hr r' (by simp [q])) (rStep p r) ?_ ?_
    · unfold rStep
      split
      · show p.1 ^^^ r.1 = asq (p.2 ^^^ r.2) ^^^ c
        rw [asq_xor, h, hr0.1, Nat.xor_assoc, Nat.xor_comm c, ← Nat.xor_assoc]
      · exact h
    · unfold rStep
      split
      · exact xor_lt h' hr0.2
      · exact h'
theorem log2_lt_of {a b : Nat} (ha : a ≠ 0) (hb : b ≠ 0) (h : b ≤ a) (n : b.log2 ≠ a.log2) : b.log2 < a.log2 := by
  have : b.log2 ≤ a.log2 := by
    have h1 := Nat.log2_self_le hb
    exact (Nat.le_log2 ha).mpr (Nat.le_trans h1 h)
  omega
theorem two_pow_lt_sz {L m : Nat} (h : m < 2 ^ L) : 2 ^ m < sz L := Nat.pow_lt_pow_right (by decide) h
theorem hinv_bit {L m : Nat} {rs : List (Nat × Nat)} (h : HInv L m rs) (hm : m < 2 ^ L) (hz : (red rs (asq (2 ^ m), 2 ^ m)).1 = 0) : HInv L (m + 1) rs := by
  refine ⟨h.ech, h.val, fun i hi => ?_⟩
  rcases Nat.lt_or_ge i m with q | q
  · exact h.all i q
  · have : i = m := by omega
    subst this
    have := red_spn rs (asq (2 ^ i), 2 ^ i)
    rw [hz, Nat.xor_zero] at this
    exact this
theorem hinv_new {L m : Nat} {rs rs' : List (Nat × Nat)} (h : HInv L m rs) (hm : m < 2 ^ L) (hz : (red rs (asq (2 ^ m), 2 ^ m)).1 ≠ 0) (hp : rs'.Perm (rs ++ [red rs (asq (2 ^ m), 2 ^ m)])) (hs : rs'.Pairwise (fun a b => b.1 ≤ a.1)) : HInv L (m + 1) rs' := by
  generalize hq : red rs (asq (2 ^ m), 2 ^ m) = p at hz hp
  have hbits := (red_bits rs h.ech (asq (2 ^ m), 2 ^ m)).1
  rw [hq] at hbits
  have hval := red_val rs h.val (asq (2 ^ m), 2 ^ m) (c := 0) (by simp) (two_pow_lt_sz hm)
  rw [hq, Nat.xor_zero] at hval
  have hspn := red_spn rs (asq (2 ^ m), 2 ^ m)
  rw [hq] at hspn
  have mem : ∀ r, r ∈ rs' ↔ r ∈ rs ∨ r = p := fun r => by rw [hp.mem_iff]; simp
  have nz : ∀ r ∈ rs', r.1 ≠ 0 := fun r hr => by
    rcases (mem r).mp hr with q | q
    · exact h.ech.2 r q
    · subst q; exact hz
  have dist : (rs ++ [p]).Pairwise (fun a b => a.1.log2 ≠ b.1.log2) := by
    rw [List.pairwise_append]
    refine ⟨h.ech.1.imp (fun q => by omega), List.pairwise_singleton _ _, fun a ha b hb => ?_⟩
    rw [List.mem_singleton] at hb
    subst hb
    intro q
    have h1 := hbits a ha
    rw [q, Nat.testBit_log2 hz] at h1
    cases h1
  have dist' : rs'.Pairwise (fun a b => a.1.log2 ≠ b.1.log2) := (hp.pairwise_iff (fun q => q.symm)).mpr dist
  refine ⟨⟨?_, nz⟩, fun r hr => ?_, fun i hi => ?_⟩
  · refine (hs.and dist').imp_of_mem ?_
    intro a b ha hb ⟨q1, q2⟩
    exact log2_lt_of (nz a ha) (nz b hb) q1 (fun z => q2 z.symm)
  · rcases (mem r).mp hr with q | q
    · exact h.val r q
    · subst q; exact hval
  · have up : ∀ {x}, Spn rs x → Spn rs' x := fun {x} q => spn_mono (fun r hr => (mem r).mpr (.inl hr)) q
    rcases Nat.lt_or_ge i m with q | q
    · exact up (h.all i q)
    · have : i = m := by omega
      subst this
      have h1 := up hspn
      have h2 := spn_row rs' ((mem p).mpr (.inr rfl))
      have := spn_xor rs' h1 h2
      rwa [x_cancel] at this
theorem top_off {m y : Nat} (h1 : 2 ^ m ≤ y) (h2 : y < 2 ^ (m + 1)) : y ^^^ 2 ^ m < 2 ^ m := by
  refine Nat.lt_pow_two_of_testBit _ fun i hi => ?_
  rw [Nat.testBit_xor, Nat.testBit_two_pow]
  rcases Nat.lt_or_ge m i with q | q
  · rw [Nat.testBit_lt_two_pow (Nat.lt_of_lt_of_le h2 (Nat.pow_le_pow_right (by decide) q)), _root_.decide_eq_false (by omega)]; rfl
  · have : i = m := by omega
    subst this
    have e : y.testBit i = true := by
      rw [Nat.testBit_eq_decide_div_mod_eq, decide_eq_true_iff]
      have : y / 2 ^ i < 2 := Nat.div_lt_of_lt_mul (by rw [← Nat.pow_succ]; exact h2)
      have : 0 < y / 2 ^ i := Nat.div_pos h1 (Nat.two_pow_pos i)
      omega
    rw [e]; simp
theorem hinv_all {L : Nat} {rs : List (Nat × Nat)} : ∀ (m : Nat), (∀ i, i < m → Spn rs (asq (2 ^ i))) → ∀ y, y < 2 ^ m → Spn rs (asq y)
  | 0, _, y, hy => by
    have : y = 0 := by simpa using hy
    subst this; rw [asq_zero]; exact spn_zero rs
  | m + 1, h, y, hy => by
    have ih := hinv_all (L := L) m (fun i hi => h i (by omega))
    rcases Nat.lt_or_ge y (2 ^ m) with q | q
    · exact ih y q
    · have h1 := ih _ (top_off q hy)
      have h2 := spn_xor rs h1 (h m (by omega))
      rw [asq_xor] at h2
      rwa [x_cancel] at h2
theorem halves {L : Nat} {rs : List (Nat × Nat)} (h : HInv L (2 ^ L) rs) {c : Nat} : ((red rs (c, 0)).1 = 0 ↔ ∃ y, y < sz L ∧ asq y = c) ∧ ((red rs (c, 0)).1 = 0 → asq (red rs (c, 0)).2 = c ∧ (red rs (c, 0)).2 < sz L) := by
  have hv := red_val rs h.val (c, 0) (c := c) (by rw [asq_zero, Nat.zero_xor]) (sz_pos L)
  have h2 : (red rs (c, 0)).1 = 0 → asq (red rs (c, 0)).2 = c ∧ (red rs (c, 0)).2 < sz L := fun z => by
    rw [z] at hv
    refine ⟨?_, hv.2⟩
    have := congrArg (· ^^^ c) hv.1
    simp only [x_cancel, Nat.zero_xor] at this
    exact this.symm
  refine ⟨⟨fun z => ⟨_, (h2 z).2, (h2 z).1⟩, fun ⟨y, hy, e⟩ => ?_⟩, h2⟩
  refine red_zero h.ech ?_
  show Spn rs c
  rw [← e]
  exact hinv_all (L := L) (2 ^ L) h.all y hy
/-! roots -/
theorem sq_inj {x y : Nat} (h : nm x x = nm y y) : x = y := by
  have h1 : (⟨x⟩ : N2) * ⟨x⟩ = ⟨y⟩ * ⟨y⟩ := N2.eq h
  have h2 : ((⟨x⟩ : N2) + ⟨y⟩) * (⟨x⟩ + ⟨y⟩) = 0 := by grind
  have h3 : (⟨x⟩ : N2) + ⟨y⟩ = 0 := by rcases n2_zero h2 with q | q <;> exact q
  have : (⟨x⟩ : N2) = ⟨y⟩ := by grind
  exact congrArg N2.v this
theorem root_sq {x : Nat} : pw (nm x x) (sz (lev (nm x x)) / 2) = x := by
  refine sq_inj ?_
  generalize nm x x = n
  have h1 : sz (lev n) / 2 * 2 = sz (lev n) := by
    unfold sz
    have hp := Nat.two_pow_pos (lev n)
    obtain ⟨e, he⟩ : ∃ e, 2 ^ lev n = e + 1 := ⟨2 ^ lev n - 1, by omega⟩
    rw [he, Nat.pow_succ]; omega
  have h2 : pw n (sz (lev n)) = n := by
    have := frN_full (lev_lt n)
    rw [frN_pw] at this
    exact this
  rw [← h1] at h2
  have e : nm (pw n (sz (lev n) / 2)) (pw n (sz (lev n) / 2)) = pw n (sz (lev n) / 2 * 2) := by
    have : ((⟨n⟩ : N2) ^ (sz (lev n) / 2)) * ((⟨n⟩ : N2) ^ (sz (lev n) / 2)) = (⟨n⟩ : N2) ^ (sz (lev n) / 2 * 2) := by
      rw [← pow_a]; congr 1; omega
    exact congrArg N2.v this
  rw [e, h2]
end NF

/-! Norm and trace over the level below; square equations. -/
namespace NF
open Lean.Grind
theorem inv_ok {a : Nat} (h0 : a ≠ 0) : nm a (pw a (sz (lev a) - 2)) = 1 := by
  have h := fermat (lev_lt a) h0
  have h2 := two_le_sz (lev a)
  have e : (⟨a⟩ : N2) * (⟨a⟩ : N2) ^ (sz (lev a) - 2) = 1 := by
    rw [← h]
    obtain ⟨m, hm⟩ : ∃ m, sz (lev a) - 2 = m := ⟨_, rfl⟩
    have e2 : sz (lev a) - 1 = m + 1 := by omega
    rw [hm, e2, pow_s]; grind
  exact congrArg N2.v e
/-- the line of leads -/
def trb (s n a : Nat) : Nat := (List.range n).foldl (fun f j => f ^^^ frN (j * 2 ^ s) a) 0
def nrb (s n a : Nat) : Nat := (List.range n).foldl (fun f j => nm f (frN (j * 2 ^ s) a)) 1
theorem trb_succ (s n a : Nat) : trb s (n + 1) a = trb s n a ^^^ frN (n * 2 ^ s) a := by unfold trb; rw [List.range_succ, List.foldl_append]; rfl
theorem nrb_succ (s n a : Nat) : nrb s (n + 1) a = nm (nrb s n a) (frN (n * 2 ^ s) a) := by unfold nrb; rw [List.range_succ, List.foldl_append]; rfl
theorem trb_lt {k a : Nat} (h : a < sz k) (s : Nat) : ∀ n, trb s n a < sz k
  | 0 => sz_pos k
  | n + 1 => by rw [trb_succ]; exact xor_lt (trb_lt h s n) (frN_lt h _)
theorem nrb_lt {k a : Nat} (h : a < sz k) (s : Nat) : ∀ n, nrb s n a < sz k
  | 0 => Nat.lt_of_lt_of_le (show 1 < 2 by decide) (two_le_sz k)
  | n + 1 => by rw [nrb_succ]; exact nm_lt (nrb_lt h s n) (frN_lt h _)
theorem nm_one (a : Nat) : nm 1 a = a := by
  have : (1 : N2) * ⟨a⟩ = ⟨a⟩ := by grind
  exact congrArg N2.v this
theorem nm_zero (a : Nat) : nm 0 a = 0 := by
  have : (0 : N2) * ⟨a⟩ = 0 := by grind
  exact congrArg N2.v this
theorem trb_two (s a : Nat) : trb s 2 a = a ^^^ frN (2 ^ s) a := by
  rw [trb_succ, trb_succ]
  show 0 ^^^ frN (0 * 2 ^ s) a ^^^ frN (1 * 2 ^ s) a = _
  rw [Nat.zero_mul, Nat.one_mul, frN_zero, Nat.zero_xor]
theorem nrb_two (s a : Nat) : nrb s 2 a = nm a (frN (2 ^ s) a) := by
  rw [nrb_succ, nrb_succ]
  show nm (nm 1 (frN (0 * 2 ^ s) a)) (frN (1 * 2 ^ s) a) = _
  rw [Nat.zero_mul, Nat.one_mul, frN_zero, nm_one]
section
variable {s a : Nat}
theorem far_far (h : a < sz (s + 1)) : frN (2 ^ s) (frN (2 ^ s) a) = a := by
  rw [frN_frN, ← Nat.two_mul, ← Nat.pow_succ']
  exact frN_full h
theorem tr_low (h : a < sz (s + 1)) : a ^^^ frN (2 ^ s) a < sz s := by
  refine fix_lt ?_
  rw [frN_xor, far_far h, Nat.xor_comm]
theorem nr_low (h : a < sz (s + 1)) : nm a (frN (2 ^ s) a) < sz s := by
  refine fix_lt ?_
  rw [frN_nm, far_far h]
  have : (⟨frN (2 ^ s) a⟩ : N2) * ⟨a⟩ = ⟨a⟩ * ⟨frN (2 ^ s) a⟩ := by grind
  exact congrArg N2.v this
theorem val_a (f : Nat) : nm (a ^^^ (a ^^^ f)) a ^^^ nm a f = 0 := by
  have : ((⟨a⟩ : N2) + (⟨a⟩ + ⟨f⟩)) * ⟨a⟩ + ⟨a⟩ * ⟨f⟩ = 0 := by grind
  exact congrArg N2.v this
theorem val_f (f : Nat) : nm (f ^^^ (a ^^^ f)) f ^^^ nm a f = 0 := by
  have : ((⟨f⟩ : N2) + (⟨a⟩ + ⟨f⟩)) * ⟨f⟩ + ⟨a⟩ * ⟨f⟩ = 0 := by grind
  exact congrArg N2.v this
theorem xor_eq0 {x y : Nat} : x ^^^ y = 0 ↔ x = y := by
  constructor
  · intro h
    have := congrArg (· ^^^ y) h
    simpa [x_cancel] using this
  · rintro rfl; exact Nat.xor_self _
theorem trz : a ^^^ frN (2 ^ s) a = 0 ↔ a < sz s := by
  rw [xor_eq0]
  exact ⟨fun h => fix_lt h.symm, fun h => (frN_full h).symm⟩
theorem nrz : nm a (frN (2 ^ s) a) = 0 ↔ a = 0 := by
  constructor
  · intro h
    have h1 : (⟨a⟩ : N2) * ⟨frN (2 ^ s) a⟩ = 0 := N2.eq h
    rcases n2_zero h1 with q | q
    · exact congrArg N2.v q
    · have q : frN (2 ^ s) a = 0 := congrArg N2.v q
      by_cases h0 : a = 0
      · exact h0
      · exact absurd q (frN_ne h0 _)
  · rintro rfl; exact nm_zero _
/-- the square equation of a number over the level below -/
theorem solves (f : Nat) : nm a a ^^^ nm (a ^^^ f) a = nm a f := by
  have : (⟨a⟩ : N2) * ⟨a⟩ + (⟨a⟩ + ⟨f⟩) * ⟨a⟩ = ⟨a⟩ * ⟨f⟩ := by grind
  exact congrArg N2.v this
theorem solves_only {f z : Nat} (h : nm z z ^^^ nm (a ^^^ f) z = nm a f) : z = a ∨ z = f := by
  have h1 : (⟨z⟩ : N2) * ⟨z⟩ + (⟨a⟩ + ⟨f⟩) * ⟨z⟩ = ⟨a⟩ * ⟨f⟩ := N2.eq h
  have h2 : ((⟨z⟩ : N2) + ⟨a⟩) * (⟨z⟩ + ⟨f⟩) = 0 := by grind
  rcases n2_zero h2 with q | q
  · left
    have : (⟨z⟩ : N2) = ⟨a⟩ := by grind
    exact congrArg N2.v this
  · right
    have : (⟨z⟩ : N2) = ⟨f⟩ := by grind
    exact congrArg N2.v this
theorem none_low (h : a < sz (s + 1)) (hn : ¬ a < sz s) : ∀ z, z < sz s → nm z z ^^^ nm (a ^^^ frN (2 ^ s) a) z ≠ nm a (frN (2 ^ s) a) := fun z hz e => by
  rcases solves_only e with q | q
  · subst q; exact hn hz
  · have h1 : frN (2 ^ s) z = z := frN_full hz
    have h2 := far_far h
    rw [← q, h1] at h2
    exact hn (h2 ▸ hz)
end
/-! a square equation by halves -/
theorem by_half {t n z : Nat} (ht : t ≠ 0) (h : nm z z ^^^ nm t z = n) : ∀ b, nm t b = 1 → asq (nm b z) = nm n (nm b b) ∧ nm t (nm b z) = z := fun b hb => by
  have hb : (⟨t⟩ : N2) * ⟨b⟩ = 1 := N2.eq hb
  have h : (⟨z⟩ : N2) * ⟨z⟩ + ⟨t⟩ * ⟨z⟩ = ⟨n⟩ := N2.eq h
  have e1 : (⟨b⟩ * ⟨z⟩) * ((⟨b⟩ : N2) * ⟨z⟩) + ⟨b⟩ * ⟨z⟩ = ⟨n⟩ * (⟨b⟩ * ⟨b⟩) := by rw [← h]; grind
  have e2 : (⟨t⟩ : N2) * (⟨b⟩ * ⟨z⟩) = ⟨z⟩ := by grind
  exact ⟨congrArg N2.v e1, congrArg N2.v e2⟩
theorem of_half {t n y b : Nat} (hb : nm t b = 1) (h : asq y = nm n (nm b b)) : nm (nm t y) (nm t y) ^^^ nm t (nm t y) = n := by
  have hb : (⟨t⟩ : N2) * ⟨b⟩ = 1 := N2.eq hb
  have h : (⟨y⟩ : N2) * ⟨y⟩ + ⟨y⟩ = ⟨n⟩ * (⟨b⟩ * ⟨b⟩) := N2.eq h
  have e : ((⟨t⟩ : N2) * ⟨y⟩) * (⟨t⟩ * ⟨y⟩) + ⟨t⟩ * (⟨t⟩ * ⟨y⟩) = ⟨n⟩ := by
    have e1 : ((⟨t⟩ : N2) * ⟨y⟩) * (⟨t⟩ * ⟨y⟩) + ⟨t⟩ * (⟨t⟩ * ⟨y⟩) = ⟨t⟩ * ⟨t⟩ * (⟨y⟩ * ⟨y⟩ + ⟨y⟩) := by grind
    rw [e1, h]; grind
  exact congrArg N2.v e
theorem nm_x1 (t y : Nat) : nm t (y ^^^ 1) = nm t y ^^^ t := by
  have : (⟨t⟩ : N2) * (⟨y⟩ + 1) = ⟨t⟩ * ⟨y⟩ + ⟨t⟩ := by grind
  exact congrArg N2.v this
end NF

/-! Words over the nim field: reduced rows, spans, what is upright on them. -/
namespace NF
open Lean.Grind
abbrev Wd := List Nat
abbrev Fn := Nat → N2
def fn (w : Wd) : Fn := fun i => ⟨w.getD i 0⟩
def lessW (w r : Wd) (c : Nat) : Wd := List.zipWith (fun a b => a ^^^ nm c b) w r
def leadW (w : Wd) : Nat := w.findIdx (fun x => x != 0)
def redW (fs : List Wd) (w : Wd) : Wd := fs.foldl (fun h r => lessW h r (h.getD (leadW r) 0)) w
def invN (a : Nat) : Nat := pw a (sz (lev a) - 2)
def nrmW (h : Wd) : Wd := h.map (nm (invN (h.getD (leadW h) 0)))
def stepW (fs : List Wd) (w : Wd) : List Wd :=
  if leadW (redW fs w) < (redW fs w).length then fs.map (fun r => lessW r (nrmW (redW fs w)) (r.getD (leadW (redW fs w)) 0)) ++ [nrmW (redW fs w)] else fs
def rowsW (rows : List Wd) : List Wd := rows.foldl stepW []

/-! functions -/
theorem n2v {a b : Nat} (h : (⟨a⟩ : N2) = ⟨b⟩) : a = b := congrArg N2.v h
theorem zero_eq : (⟨0⟩ : N2) = 0 := rfl
theorem one_eq : (⟨1⟩ : N2) = 1 := rfl
theorem xor_n2 (a b : Nat) : (⟨a ^^^ b⟩ : N2) = ⟨a⟩ + ⟨b⟩ := rfl
theorem nm_n2 (a b : Nat) : (⟨nm a b⟩ : N2) = ⟨a⟩ * ⟨b⟩ := rfl
theorem getD_zip {w r : Wd} {c : Nat} (h : w.length = r.length) (i : Nat) : (lessW w r c).getD i 0 = w.getD i 0 ^^^ nm c (r.getD i 0) := by
  unfold lessW
  by_cases hi : i < w.length
  · have h2 : i < r.length := by omega
    simp [List.getD_eq_getElem?_getD, hi, h2, List.getElem?_zipWith]
  · have h2 : ¬ i < r.length := by omega
    have e : nm c 0 = 0 := by
      have : (⟨c⟩ : N2) * 0 = 0 := by grind
      exact n2v this
    have g1 : w[i]? = none := by simp; omega
    have g2 : r[i]? = none := by simp; omega
    have g3 : (List.zipWith (fun a b => a ^^^ nm c b) w r)[i]? = none := by simp; omega
    simp only [List.getD_eq_getElem?_getD, g1, g2, g3, Option.getD_none, e, Nat.xor_zero]
theorem fn_less {w r : Wd} {c : Nat} (h : w.length = r.length) : fn (lessW w r c) = fun i => fn w i + ⟨c⟩ * fn r i := by
  funext i
  unfold fn
  rw [getD_zip h, xor_n2, nm_n2]
theorem less_len {w r : Wd} {c : Nat} (h : w.length = r.length) : (lessW w r c).length = w.length := by unfold lessW; rw [List.length_zipWith]; omega
theorem less_lt {w r : Wd} {c l : Nat} (hw : ∀ x ∈ w, x < sz l) (hr : ∀ x ∈ r, x < sz l) (hc : c < sz l) : ∀ x ∈ lessW w r c, x < sz l := fun x hx => by
  obtain ⟨i, hi, e⟩ := List.getElem_of_mem hx
  unfold lessW at hi e
  rw [List.getElem_zipWith] at e
  subst e
  exact xor_lt (hw _ (List.getElem_mem _)) (nm_lt hc (hr _ (List.getElem_mem _)))
theorem getD_lt {w : Wd} {l : Nat} (hw : ∀ x ∈ w, x < sz l) (i : Nat) : w.getD i 0 < sz l := by
  by_cases hi : i < w.length
  · simp only [List.getD_eq_getElem?_getD, List.getElem?_eq_getElem hi, Option.getD_some]
    exact hw _ (List.getElem_mem _)
  · have : w[i]? = none := by simp; omega
    simp only [List.getD_eq_getElem?_getD, this, Option.getD_none]
    exact sz_pos l
theorem fn_inj {w r : Wd} (h : w.length = r.length) (e : fn w = fn r) : w = r := by
  apply List.ext_getElem h
  intro i h1 h2
  have := n2v (congrFun e i)
  simpa [h1, h2] using this
theorem fn_out {w : Wd} {i : Nat} (h : w.length ≤ i) : fn w i = 0 := by
  unfold fn
  have : w[i]? = none := by simp; omega
  simp only [List.getD_eq_getElem?_getD, this, Option.getD_none]; rfl
/-! leads -/
theorem lead_le (w : Wd) : leadW w ≤ w.length := List.findIdx_le_length
theorem lead_at {w : Wd} (h : leadW w < w.length) : w.getD (leadW w) 0 ≠ 0 := by
  unfold leadW at h ⊢
  have := List.findIdx_getElem (w := h)
  simp only [List.getD_eq_getElem?_getD, List.getElem?_eq_getElem h, Option.getD_some]
  simpa using this
theorem lead_low {w : Wd} {i : Nat} (h : i < leadW w) : w.getD i 0 = 0 := by
  have hl := lead_le w
  have hi : i < w.length := by omega
  have := List.not_of_lt_findIdx h
  simp only [List.getD_eq_getElem?_getD, List.getElem?_eq_getElem hi, Option.getD_some]
  simpa using this
theorem lead_is {w : Wd} {l : Nat} (h : w.getD l 0 ≠ 0) (h2 : ∀ i, i < l → w.getD i 0 = 0) : leadW w = l := by
  rcases Nat.lt_trichotomy (leadW w) l with q | q | q
  · have hl : l < w.length := by
      by_cases hl : l < w.length
      · exact hl
      · exact absurd (by
          have : w[l]? = none := by simp; omega
          simp [List.getD_eq_getElem?_getD, this]) h
    exact absurd (h2 _ q) (lead_at (by omega))
  · exact q
  · exact absurd (lead_low q) h
theorem lead_none {w : Wd} (h : ¬ leadW w < w.length) : fn w = fun _ => 0 := by
  funext i
  by_cases hi : i < w.length
  · have := lead_le w
    unfold fn
    rw [lead_low (by omega)]; rfl
  · exact fn_out (by omega)
theorem lead_zero {w : Wd} (h : fn w = fun _ => 0) : ¬ leadW w < w.length := fun z => lead_at z (n2v (congrFun h _))

/-! spans of functions -/
def Spf : List Fn → Fn → Prop
  | [], f => f = fun _ => 0
  | g :: gs, f => ∃ c : N2, Spf gs fun i => f i + c * g i
theorem spf_zero : ∀ gs : List Fn, Spf gs fun _ => 0
  | [] => rfl
  | g :: gs => ⟨0, by
    have : (fun i => (0 : N2) + 0 * g i) = fun _ => 0 := by funext i; grind
    rw [this]; exact spf_zero gs⟩
theorem spf_lin : ∀ (gs : List Fn) {f h : Fn} (c : N2), Spf gs f → Spf gs h → Spf gs fun i => f i + c * h i
  | [], f, h, c, hf, hh => by
    have hf : f = fun _ => 0 := hf
    have hh : h = fun _ => 0 := hh
    show (fun i => f i + c * h i) = fun _ => 0
    funext i
    rw [hf, hh]; grind
  | g :: gs, f, h, c, ⟨c1, hf⟩, ⟨c2, hh⟩ => ⟨c1 + c * c2, by
    have := spf_lin gs c hf hh
    have e : (fun i => f i + c1 * g i + c * (h i + c2 * g i)) = fun i => f i + c * h i + (c1 + c * c2) * g i := by funext i; grind
    rw [e] at this; exact this⟩
theorem spf_row : ∀ (gs : List Fn) {g : Fn}, g ∈ gs → Spf gs g
  | g0 :: gs, g, h => by
    rcases List.mem_cons.mp h with q | q
    · subst q
      refine ⟨1, ?_⟩
      have e : (fun i => g i + 1 * g i) = fun _ => 0 := by funext i; grind
      rw [e]; exact spf_zero gs
    · refine ⟨0, ?_⟩
      have e : (fun i => g i + 0 * g0 i) = g := by funext i; grind
      rw [e]; exact spf_row gs q
theorem spf_sub {C : Fn → Prop} (h0 : C fun _ => 0) (hl : ∀ {f h : Fn} (c : N2), C f → C h → C fun i => f i + c * h i) : ∀ (gs : List Fn), (∀ g ∈ gs, C g) → ∀ {f}, Spf gs f → C f
  | [], _, f, hf => by have hf : f = fun _ => 0 := hf; rw [hf]; exact h0
  | g :: gs, hg, f, ⟨c, hf⟩ => by
    have h1 := spf_sub h0 hl gs (fun g hg' => hg g (by simp [hg'])) hf
    have h2 := hl c h1 (hg g (by simp))
    have e : (fun i => f i + c * g i + c * g i) = f := by funext i; grind
    rw [e] at h2; exact h2
theorem spf_mono {gs hs : List Fn} (h : ∀ g ∈ gs, Spf hs g) {f : Fn} (hf : Spf gs f) : Spf hs f := spf_sub (spf_zero hs) (fun c h1 h2 => spf_lin hs c h1 h2) gs h hf
theorem spf_eq {gs hs : List Fn} (h : ∀ g ∈ gs, Spf hs g) (h' : ∀ g ∈ hs, Spf gs g) {f : Fn} : Spf gs f ↔ Spf hs f := ⟨spf_mono h, spf_mono h'⟩
theorem spf_scale {gs : List Fn} {f : Fn} (c : N2) (h : Spf gs f) : Spf gs fun i => c * f i := by
  have := spf_lin gs c (spf_zero gs) h
  have e : (fun i => (0 : N2) + c * f i) = fun i => c * f i := by funext i; grind
  rw [e] at this; exact this
theorem spf_add {gs : List Fn} {f h : Fn} (hf : Spf gs f) (hh : Spf gs h) : Spf gs fun i => f i + h i := by
  have := spf_lin gs 1 hf hh
  have e : (fun i => f i + 1 * h i) = fun i => f i + h i := by funext i; grind
  rw [e] at this; exact this
/-! rows with places of their own -/
structure Ech2 (ps : List (Nat × Fn)) : Prop where
  one : ∀ p ∈ ps, p.2 p.1 = 1
  no : ps.Pairwise fun p q => p.2 q.1 = 0 ∧ q.2 p.1 = 0
theorem Ech2.tail {p : Nat × Fn} {ps : List (Nat × Fn)} (h : Ech2 (p :: ps)) : Ech2 ps := ⟨fun q hq => h.one q (by simp [hq]), (List.pairwise_cons.mp h.no).2⟩
theorem ech2_zero : ∀ (ps : List (Nat × Fn)), Ech2 ps → ∀ {f : Fn}, Spf (ps.map (·.2)) f → (∀ p ∈ ps, f p.1 = 0) → f = fun _ => 0
  | [], _, f, hf, _ => hf
  | p :: ps, he, f, ⟨c, hf⟩, hz => by
    have hn := (List.pairwise_cons.mp he.no).1
    have h1 := ech2_zero ps he.tail hf fun q hq => by
      show f q.1 + c * p.2 q.1 = 0
      rw [hz q (by simp [hq]), (hn q hq).1]; grind
    have h2 := congrFun h1 p.1
    have h2 : f p.1 + c * p.2 p.1 = 0 := h2
    rw [hz p (by simp), he.one p (by simp)] at h2
    have hc : c = 0 := by grind
    funext i
    have h3 : f i + c * p.2 i = 0 := congrFun h1 i
    rw [hc] at h3; grind
/-- taking away what stands at the places -/
theorem ech2_red : ∀ (ps : List (Nat × Fn)), Ech2 ps → ∀ (f : Fn), ∃ h : Fn, Spf (ps.map (·.2)) (fun i => f i + h i) ∧ (∀ p ∈ ps, h p.1 = 0)
  | [], _, f => ⟨f, by show (fun i => f i + f i) = fun _ => 0; funext i; grind, fun _ h => nomatch h⟩
  | p :: ps, he, f => by
    have hn := (List.pairwise_cons.mp he.no).1
    obtain ⟨h, h1, h2⟩ := ech2_red ps he.tail fun i => f i + f p.1 * p.2 i
    have e1 : (h p.1) = 0 := by
      have : ∀ (gs : List (Nat × Fn)), (∀ q ∈ gs, q.2 p.1 = 0) → ∀ k : Fn, Spf (gs.map (·.2)) k → k p.1 = 0 := fun gs hg k hk =>
        spf_sub (C := fun k => k p.1 = 0) rfl (fun c a b => by show _ + c * _ = _; rw [a, b]; grind) _ (fun g hg' => by
          obtain ⟨q, hq, rfl⟩ := List.mem_map.mp hg'
          exact hg q hq) hk
      have := this ps (fun q hq => (hn q hq).2) _ h1
      have this : f p.1 + f p.1 * p.2 p.1 + h p.1 = 0 := this
      rw [he.one p (by simp)] at this; grind
    refine ⟨h, ⟨f p.1, ?_⟩, fun q hq => ?_⟩
    · have e : (fun i => f i + h i + f p.1 * p.2 i) = fun i => f i + f p.1 * p.2 i + h i := by funext i; grind
      rw [e]; exact h1
    · rcases List.mem_cons.mp hq with z | z
      · subst z; exact e1
      · exact h2 q z

/-! reduced rows -/
def lf (r : Wd) : Nat × Fn := (leadW r, fn r)
structure Good (n l : Nat) (fs : List Wd) : Prop where
  len : ∀ r ∈ fs, r.length = n
  lt : ∀ r ∈ fs, ∀ x ∈ r, x < sz l
  ld : ∀ r ∈ fs, leadW r < n
  ech : Ech2 (fs.map lf)
theorem map_lf (fs : List Wd) : (fs.map lf).map (·.2) = fs.map fn := by rw [List.map_map]; rfl
theorem good_nil (n l : Nat) : Good n l [] := ⟨(fun _ h => nomatch h), (fun _ h => nomatch h), (fun _ h => nomatch h), ⟨(fun _ h => nomatch h), .nil⟩⟩
theorem red_len : ∀ (fs : List Wd) {w : Wd}, (∀ r ∈ fs, r.length = w.length) → (redW fs w).length = w.length
  | [], w, _ => rfl
  | r :: fs, w, h => by
    have h1 := less_len (c := w.getD (leadW r) 0) (h r (by simp)).symm
    show (redW fs (lessW w r (w.getD (leadW r) 0))).length = _
    rw [red_len fs fun s hs => by rw [h1]; exact h s (by simp [hs]), h1]
theorem red_lt {l : Nat} : ∀ (fs : List Wd) {w : Wd}, (∀ r ∈ fs, ∀ x ∈ r, x < sz l) → (∀ x ∈ w, x < sz l) → ∀ x ∈ redW fs w, x < sz l
  | [], w, _, hw => hw
  | r :: fs, w, h, hw => red_lt fs (fun s hs => h s (by simp [hs])) (less_lt hw (h r (by simp)) (getD_lt hw _))
theorem red_spf : ∀ (fs : List Wd) {w : Wd}, (∀ r ∈ fs, r.length = w.length) → Spf (fs.map fn) fun i => fn w i + fn (redW fs w) i
  | [], w, _ => by show (fun i => fn w i + fn w i) = fun _ => 0; funext i; grind
  | r :: fs, w, h => by
    have hl := (h r (by simp)).symm
    have h1 := less_len (c := w.getD (leadW r) 0) hl
    have := red_spf fs (w := lessW w r (w.getD (leadW r) 0)) fun s hs => by rw [h1]; exact h s (by simp [hs])
    rw [fn_less hl] at this
    refine ⟨⟨w.getD (leadW r) 0⟩, ?_⟩
    have e : (fun i => fn w i + fn (redW (r :: fs) w) i + ⟨w.getD (leadW r) 0⟩ * fn r i) = fun i => fn w i + ⟨w.getD (leadW r) 0⟩ * fn r i + fn (redW fs (lessW w r (w.getD (leadW r) 0))) i := by
      funext i
      show fn w i + fn (redW fs (lessW w r (w.getD (leadW r) 0))) i + _ = _
      grind
    rw [e]; exact this
theorem red_keep : ∀ (fs : List Wd) {w : Wd} {j : Nat}, (∀ r ∈ fs, r.length = w.length) → (∀ r ∈ fs, fn r j = 0) → fn (redW fs w) j = fn w j
  | [], w, j, _, _ => rfl
  | r :: fs, w, j, h, hz => by
    have hl := (h r (by simp)).symm
    have h1 := less_len (c := w.getD (leadW r) 0) hl
    show fn (redW fs (lessW w r (w.getD (leadW r) 0))) j = _
    rw [red_keep fs (fun s hs => by rw [h1]; exact h s (by simp [hs])) fun s hs => hz s (by simp [hs]), fn_less hl]
    show fn w j + _ * fn r j = fn w j
    rw [hz r (by simp)]; grind
theorem red_zero_at : ∀ (fs : List Wd) {w : Wd}, (∀ r ∈ fs, r.length = w.length) → Ech2 (fs.map lf) → ∀ r ∈ fs, fn (redW fs w) (leadW r) = 0
  | [], w, _, _, r, h => nomatch h
  | r0 :: fs, w, h, he, r, hr => by
    have hl := (h r0 (by simp)).symm
    have h1 := less_len (c := w.getD (leadW r0) 0) hl
    have h2 : ∀ s ∈ fs, s.length = (lessW w r0 (w.getD (leadW r0) 0)).length := fun s hs => by rw [h1]; exact h s (by simp [hs])
    have hn := (List.pairwise_cons.mp he.no).1
    rcases List.mem_cons.mp hr with q | q
    · subst q
      show fn (redW fs (lessW w r (w.getD (leadW r) 0))) (leadW r) = 0
      rw [red_keep fs (j := leadW r) h2 (fun s hs => show (lf s).2 (lf r).1 = 0 from (hn (lf s) (List.mem_map_of_mem hs)).2), fn_less hl]
      have e : fn r (leadW r) = 1 := he.one (lf r) (by simp)
      show fn w (leadW r) + fn w (leadW r) * fn r (leadW r) = 0
      rw [e]; grind
    · exact red_zero_at fs h2 he.tail r q
/-- a word is taken down to nothing just if it is in the span -/
theorem red_in {n l : Nat} {fs : List Wd} (g : Good n l fs) {w : Wd} (hw : w.length = n) : (¬ leadW (redW fs w) < (redW fs w).length) ↔ Spf (fs.map fn) (fn w) := by
  have hl : ∀ r ∈ fs, r.length = w.length := fun r hr => (g.len r hr).trans hw.symm
  have h1 := red_spf fs hl
  constructor
  · intro h
    have h2 := lead_none h
    rw [h2] at h1
    have e : (fun i => fn w i + 0) = fn w := by funext i; grind
    rw [e] at h1; exact h1
  · intro h
    refine lead_zero ?_
    refine ech2_zero (fs.map lf) g.ech ?_ ?_
    · rw [map_lf]
      have := spf_add h h1
      have e : (fun i => fn w i + (fn w i + fn (redW fs w) i)) = fn (redW fs w) := by funext i; grind
      rw [e] at this; exact this
    · intro p hp
      obtain ⟨r, hr, rfl⟩ := List.mem_map.mp hp
      exact red_zero_at fs hl g.ech r hr
theorem invN_ok {a : Nat} (h : a ≠ 0) : (⟨a⟩ : N2) * ⟨invN a⟩ = 1 := N2.eq (inv_ok h)
theorem invN_lt {a l : Nat} (h : a < sz l) : invN a < sz l := pw_lt h _
theorem fn_map (c : Nat) (h : Wd) : fn (h.map (nm c)) = fun i => ⟨c⟩ * fn h i := by
  funext i
  unfold fn
  by_cases hi : i < h.length
  · simp only [List.getD_eq_getElem?_getD, List.getElem?_map, List.getElem?_eq_getElem hi, Option.map_some, Option.getD_some]; rfl
  · have g1 : h[i]? = none := by simp; omega
    simp only [List.getD_eq_getElem?_getD, List.getElem?_map, g1, Option.map_none, Option.getD_none, zero_eq]; grind
theorem fn_nrm (h : Wd) : fn (nrmW h) = fun i => ⟨invN (h.getD (leadW h) 0)⟩ * fn h i := fn_map _ h
theorem nrm_len (h : Wd) : (nrmW h).length = h.length := by unfold nrmW; rw [List.length_map]
theorem nrm_one {h : Wd} (hl : leadW h < h.length) : fn (nrmW h) (leadW h) = 1 := by
  rw [fn_nrm]
  have := invN_ok (lead_at hl)
  show _ * (⟨h.getD (leadW h) 0⟩ : N2) = 1
  grind
theorem nrm_lead {h : Wd} (hl : leadW h < h.length) : leadW (nrmW h) = leadW h := by
  refine lead_is (fun z => ?_) fun i hi => ?_
  · have h1 := nrm_one hl
    have h2 : fn (nrmW h) (leadW h) = 0 := N2.eq z
    rw [h2] at h1
    exact absurd (congrArg N2.v h1) (by decide)
  · have h1 : fn (nrmW h) i = 0 := by
      rw [fn_nrm]
      have e : fn h i = 0 := N2.eq (lead_low hi)
      show _ * fn h i = 0
      rw [e]; grind
    exact n2v h1
theorem nrm_lt {h : Wd} {l : Nat} (hh : ∀ x ∈ h, x < sz l) : ∀ x ∈ nrmW h, x < sz l := fun x hx => by
  unfold nrmW at hx
  obtain ⟨y, hy, rfl⟩ := List.mem_map.mp hx
  exact nm_lt (invN_lt (getD_lt hh _)) (hh y hy)
section
variable {n l : Nat} {fs : List Wd} {w : Wd}
/-- a row, made nought at the new place -/
def dnW (h r : Wd) : Wd := lessW r (nrmW h) (r.getD (leadW h) 0)
theorem step_eq (fs : List Wd) (w : Wd) : stepW fs w = if leadW (redW fs w) < (redW fs w).length then fs.map (dnW (redW fs w)) ++ [nrmW (redW fs w)] else fs := rfl
theorem dn_lead {h r : Wd} (hl : r.length = h.length) (hh : leadW h < h.length) (hz : fn h (leadW r) = 0) (hr : fn r (leadW r) = 1) : leadW (dnW h r) = leadW r := by
  have hl2 : r.length = (nrmW h).length := by rw [nrm_len]; exact hl
  have hf : fn (dnW h r) = fun i => fn r i + ⟨r.getD (leadW h) 0⟩ * fn (nrmW h) i := fn_less hl2
  have hn : fn (nrmW h) (leadW r) = 0 := by
    rw [fn_nrm]; show _ * fn h (leadW r) = 0; rw [hz]; grind
  refine lead_is (fun z => ?_) fun i hi => ?_
  · have h1 : fn (dnW h r) (leadW r) = 0 := N2.eq z
    rw [hf] at h1
    have h1 : fn r (leadW r) + _ * fn (nrmW h) (leadW r) = 0 := h1
    rw [hn, hr] at h1
    have : (1 : N2) = 0 := by grind
    exact absurd (congrArg N2.v this) (by decide)
  · have h1 : fn (dnW h r) i = 0 := by
      rw [hf]
      have e : fn r i = 0 := N2.eq (lead_low hi)
      show fn r i + _ * fn (nrmW h) i = 0
      rcases Nat.lt_or_ge (leadW h) (leadW r) with q | q
      · have e2 : (⟨r.getD (leadW h) 0⟩ : N2) = 0 := N2.eq (lead_low q)
        rw [e, e2]; grind
      · have e2 : fn (nrmW h) i = 0 := by
          rw [fn_nrm]
          have e3 : fn h i = 0 := N2.eq (lead_low (by omega))
          show _ * fn h i = 0
          rw [e3]; grind
        rw [e, e2]; grind
    exact n2v h1
theorem step_good (g : Good n l fs) (hw : w.length = n) (hlt : ∀ x ∈ w, x < sz l) : Good n l (stepW fs w) := by
  rw [step_eq]
  split
  · rename_i hh
    have hrl : ∀ r ∈ fs, r.length = w.length := fun r hr => (g.len r hr).trans hw.symm
    have hlen := red_len fs hrl
    have hrz := red_zero_at fs hrl g.ech
    have hrlt := red_lt fs g.lt hlt
    generalize redW fs w = h at hh hlen hrz hrlt
    have h1 : ∀ r ∈ fs, fn r (leadW r) = 1 := fun r hr => g.ech.one (lf r) (List.mem_map_of_mem hr)
    have hdl : ∀ r ∈ fs, leadW (dnW h r) = leadW r := fun r hr => dn_lead (by rw [hlen]; exact hrl r hr) hh (hrz r hr) (h1 r hr)
    have hl2 : ∀ r ∈ fs, r.length = (nrmW h).length := fun r hr => by rw [nrm_len, hlen]; exact hrl r hr
    have hf : ∀ r ∈ fs, fn (dnW h r) = fun i => fn r i + ⟨r.getD (leadW h) 0⟩ * fn (nrmW h) i := fun r hr => fn_less (hl2 r hr)
    have hnz : ∀ r ∈ fs, fn (nrmW h) (leadW r) = 0 := fun r hr => by
      rw [fn_nrm]; show _ * fn h (leadW r) = 0; rw [hrz r hr]; grind
    have hn1 := nrm_one hh
    refine ⟨fun r hr => ?_, fun r hr => ?_, fun r hr => ?_, ⟨fun p hp => ?_, ?_⟩⟩
    · rcases List.mem_append.mp hr with q | q
      · obtain ⟨s, hs, rfl⟩ := List.mem_map.mp q
        exact (less_len (hl2 s hs)).trans (g.len s hs)
      · rw [List.mem_singleton.mp q, nrm_len, hlen, hw]
    · rcases List.mem_append.mp hr with q | q
      · obtain ⟨s, hs, rfl⟩ := List.mem_map.mp q
        exact less_lt (g.lt s hs) (nrm_lt hrlt) (getD_lt (g.lt s hs) _)
      · rw [List.mem_singleton.mp q]; exact nrm_lt hrlt
    · rcases List.mem_append.mp hr with q | q
      · obtain ⟨s, hs, rfl⟩ := List.mem_map.mp q
        rw [hdl s hs]; exact g.ld s hs
      · rw [List.mem_singleton.mp q, nrm_lead hh]; omega
    · obtain ⟨r, hr, rfl⟩ := List.mem_map.mp hp
      rcases List.mem_append.mp hr with q | q
      · obtain ⟨s, hs, rfl⟩ := List.mem_map.mp q
        show fn (dnW h s) (leadW (dnW h s)) = 1
        rw [hdl s hs, hf s hs]
        show fn s (leadW s) + _ * fn (nrmW h) (leadW s) = 1
        rw [h1 s hs, hnz s hs]; grind
      · rw [List.mem_singleton.mp q]
        show fn (nrmW h) (leadW (nrmW h)) = 1
        rw [nrm_lead hh]; exact hn1
    · rw [List.map_append, List.pairwise_append]
      refine ⟨?_, List.pairwise_singleton _ _, fun p hp q hq => ?_⟩
      · rw [List.map_map, List.pairwise_map]
        have := g.ech.no
        rw [List.pairwise_map] at this
        refine this.imp_of_mem fun {r s} hr hs hrs => ?_
        show fn (dnW h r) (leadW (dnW h s)) = 0 ∧ fn (dnW h s) (leadW (dnW h r)) = 0
        rw [hdl s hs, hdl r hr, hf r hr, hf s hs]
        show fn r (leadW s) + _ * fn (nrmW h) (leadW s) = 0 ∧ fn s (leadW r) + _ * fn (nrmW h) (leadW r) = 0
        have e1 : fn r (leadW s) = 0 := hrs.1
        have e2 : fn s (leadW r) = 0 := hrs.2
        rw [hnz s hs, hnz r hr, e1, e2]
        constructor <;> grind
      · obtain ⟨r', hr', rfl⟩ := List.mem_map.mp hp
        obtain ⟨r, hr, rfl⟩ := List.mem_map.mp hr'
        obtain ⟨s', hs', rfl⟩ := List.mem_map.mp hq
        rw [List.mem_singleton.mp hs']
        show fn (dnW h r) (leadW (nrmW h)) = 0 ∧ fn (nrmW h) (leadW (dnW h r)) = 0
        rw [nrm_lead hh, hdl r hr, hf r hr]
        refine ⟨?_, hnz r hr⟩
        show fn r (leadW h) + fn r (leadW h) * fn (nrmW h) (leadW h) = 0
        rw [hn1]; grind
  · exact g
theorem step_spf (g : Good n l fs) (hw : w.length = n) {f : Fn} : Spf ((stepW fs w).map fn) f ↔ Spf ((fs ++ [w]).map fn) f := by
  have hrl : ∀ r ∈ fs, r.length = w.length := fun r hr => (g.len r hr).trans hw.symm
  have hsp := red_spf fs hrl
  have up : ∀ {k : Fn}, Spf (fs.map fn) k → Spf ((fs ++ [w]).map fn) k := fun hk => spf_mono (fun x hx => spf_row _ (by rw [List.map_append]; simp [hx])) hk
  have hwin : Spf ((fs ++ [w]).map fn) (fn w) := spf_row _ (by simp)
  rw [step_eq]
  split
  · rename_i hh
    have hlen := red_len fs hrl
    generalize redW fs w = h at hh hlen hsp
    have hl2 : ∀ r ∈ fs, r.length = (nrmW h).length := fun r hr => by rw [nrm_len, hlen]; exact hrl r hr
    have hf : ∀ r ∈ fs, fn (dnW h r) = fun i => fn r i + ⟨r.getD (leadW h) 0⟩ * fn (nrmW h) i := fun r hr => fn_less (hl2 r hr)
    have hhin : Spf ((fs ++ [w]).map fn) (fn h) := by
      have := spf_add hwin (up hsp)
      have e : (fun i => fn w i + (fn w i + fn h i)) = fn h := by funext i; grind
      rw [e] at this; exact this
    have hnin : Spf ((fs ++ [w]).map fn) (fn (nrmW h)) := by rw [fn_nrm]; exact spf_scale _ hhin
    refine spf_eq (fun k hk => ?_) fun k hk => ?_
    · obtain ⟨r, hr, rfl⟩ := List.mem_map.mp hk
      rcases List.mem_append.mp hr with q | q
      · obtain ⟨s, hs, rfl⟩ := List.mem_map.mp q
        rw [hf s hs]
        exact spf_lin _ _ (spf_row _ (by simp; exact .inl ⟨s, hs, rfl⟩)) hnin
      · rw [List.mem_singleton.mp q]; exact hnin
    · have hN : Spf ((fs.map (dnW h) ++ [nrmW h]).map fn) (fn (nrmW h)) := spf_row _ (by simp)
      have hR : ∀ r ∈ fs, Spf ((fs.map (dnW h) ++ [nrmW h]).map fn) (fn r) := fun r hr => by
        have h1 : Spf ((fs.map (dnW h) ++ [nrmW h]).map fn) (fn (dnW h r)) := spf_row _ (by simp; exact .inl ⟨r, hr, rfl⟩)
        have := spf_lin _ ⟨r.getD (leadW h) 0⟩ h1 hN
        rw [hf r hr] at this
        have e : (fun i => fn r i + ⟨r.getD (leadW h) 0⟩ * fn (nrmW h) i + ⟨r.getD (leadW h) 0⟩ * fn (nrmW h) i) = fn r := by funext i; grind
        rw [e] at this; exact this
      have hH : Spf ((fs.map (dnW h) ++ [nrmW h]).map fn) (fn h) := by
        have := spf_scale ⟨h.getD (leadW h) 0⟩ hN
        have e : (fun i => ⟨h.getD (leadW h) 0⟩ * fn (nrmW h) i) = fn h := by
          rw [fn_nrm]
          funext i
          have := invN_ok (lead_at hh)
          show ⟨h.getD (leadW h) 0⟩ * (⟨invN (h.getD (leadW h) 0)⟩ * fn h i) = fn h i
          grind
        rw [e] at this; exact this
      obtain ⟨r, hr, rfl⟩ := List.mem_map.mp hk
      rcases List.mem_append.mp hr with q | q
      · exact hR r q
      · rw [List.mem_singleton.mp q]
        have h1 : Spf ((fs.map (dnW h) ++ [nrmW h]).map fn) (fun i => fn w i + fn h i) := spf_mono (fun x hx => by
          obtain ⟨r, hr, rfl⟩ := List.mem_map.mp hx
          exact hR r hr) hsp
        have := spf_add h1 hH
        have e : (fun i => fn w i + fn h i + fn h i) = fn w := by funext i; grind
        rw [e] at this; exact this
  · rename_i hh
    have hin := (red_in g hw).mp hh
    refine spf_eq (fun k hk => ?_) fun k hk => ?_
    · obtain ⟨r, hr, rfl⟩ := List.mem_map.mp hk
      exact spf_row _ (by simp; exact .inl ⟨r, hr, rfl⟩)
    · obtain ⟨r, hr, rfl⟩ := List.mem_map.mp hk
      rcases List.mem_append.mp hr with q | q
      · exact spf_row _ (List.mem_map_of_mem q)
      · rw [List.mem_singleton.mp q]; exact hin
end
theorem rowsW_snoc (rows : List Wd) (w : Wd) : rowsW (rows ++ [w]) = stepW (rowsW rows) w := by unfold rowsW; rw [List.foldl_append]; rfl
theorem fold_good {n l : Nat} : ∀ (rows : List Wd) {fs : List Wd}, Good n l fs → (∀ r ∈ rows, r.length = n) → (∀ r ∈ rows, ∀ x ∈ r, x < sz l) → Good n l (rows.foldl stepW fs) ∧ ∀ {f : Fn}, Spf ((rows.foldl stepW fs).map fn) f ↔ Spf ((fs ++ rows).map fn) f
  | [], fs, g, _, _ => ⟨g, by simp⟩
  | w :: rows, fs, g, hl, hx => by
    obtain ⟨h1, h2⟩ := fold_good rows (step_good g (hl w (by simp)) (hx w (by simp))) (fun r hr => hl r (by simp [hr])) fun r hr => hx r (by simp [hr])
    refine ⟨h1, fun {f} => ?_⟩
    show Spf ((rows.foldl stepW (stepW fs w)).map fn) f ↔ _
    rw [h2]
    have hs := fun {f : Fn} => step_spf (f := f) g (hl w (by simp))
    refine spf_eq (fun k hk => ?_) fun k hk => ?_
    · obtain ⟨r, hr, rfl⟩ := List.mem_map.mp hk
      rcases List.mem_append.mp hr with q | q
      · have := hs.mp (spf_row _ (List.mem_map_of_mem q))
        exact spf_mono (fun x hx => by
          obtain ⟨r, hr, rfl⟩ := List.mem_map.mp hx
          refine spf_row _ (List.mem_map_of_mem ?_)
          rcases List.mem_append.mp hr with z | z
          · simp [z]
          · rw [List.mem_singleton.mp z]; simp) this
      · exact spf_row _ (List.mem_map_of_mem (by simp [q]))
    · obtain ⟨r, hr, rfl⟩ := List.mem_map.mp hk
      have up : ∀ {k : Fn}, Spf ((stepW fs w).map fn) k → Spf ((stepW fs w ++ rows).map fn) k := fun hk => spf_mono (fun x hx => spf_row _ (by rw [List.map_append]; simp [hx])) hk
      rcases List.mem_append.mp hr with q | q
      · exact up (hs.mpr (spf_row _ (List.mem_map_of_mem (by simp [q]))))
      · rcases List.mem_cons.mp q with z | z
        · subst z; exact up (hs.mpr (spf_row _ (List.mem_map_of_mem (by simp))))
        · exact spf_row _ (List.mem_map_of_mem (by simp [z]))
theorem rows_good {n l : Nat} {rows : List Wd} (hl : ∀ r ∈ rows, r.length = n) (hx : ∀ r ∈ rows, ∀ x ∈ r, x < sz l) : Good n l (rowsW rows) := (fold_good rows (good_nil n l) hl hx).1
theorem rows_spf {n l : Nat} {rows : List Wd} (hl : ∀ r ∈ rows, r.length = n) (hx : ∀ r ∈ rows, ∀ x ∈ r, x < sz l) {f : Fn} : Spf ((rowsW rows).map fn) f ↔ Spf (rows.map fn) f := by
  have := (fold_good rows (good_nil n l) hl hx).2 (f := f)
  simpa [rowsW] using this
/-- one row more, or not -/
theorem rows_in {n l : Nat} {rows : List Wd} (hl : ∀ r ∈ rows, r.length = n) (hx : ∀ r ∈ rows, ∀ x ∈ r, x < sz l) {w : Wd} (hw : w.length = n) : (rowsW (rows ++ [w])).length = (rowsW rows).length ↔ Spf (rows.map fn) (fn w) := by
  rw [rowsW_snoc, ← rows_spf hl hx, ← red_in (rows_good hl hx) hw, step_eq]
  split
  · rename_i h
    simp [h]
  · rename_i h
    simp [h]
end NF

/-! Words: sorting by leads, all words of a code, weights, the dual, leads of numbers. -/
namespace NF
open Lean.Grind
/-! sorted by the lead -/
def insL (w : Wd) : List Wd → List Wd
  | [] => [w]
  | r :: rs => if leadW w ≤ leadW r then w :: r :: rs else r :: insL w rs
def srtL (fs : List Wd) : List Wd := fs.foldr insL []
theorem insL_perm (w : Wd) : ∀ fs : List Wd, (insL w fs).Perm (w :: fs)
  | [] => List.Perm.refl _
  | r :: rs => by
    unfold insL
    split
    · exact List.Perm.refl _
    · exact ((insL_perm w rs).cons r).trans (List.Perm.swap _ _ _)
theorem srtL_perm : ∀ fs : List Wd, (srtL fs).Perm fs
  | [] => List.Perm.refl _
  | r :: rs => (insL_perm r (srtL rs)).trans ((srtL_perm rs).cons r)
theorem insL_srt (w : Wd) : ∀ {fs : List Wd}, fs.Pairwise (fun a b => leadW a ≤ leadW b) → (insL w fs).Pairwise (fun a b => leadW a ≤ leadW b)
  | [], _ => List.pairwise_singleton _ _
  | r :: rs, h => by
    obtain ⟨h1, h2⟩ := List.pairwise_cons.mp h
    unfold insL
    split
    · rename_i q
      refine List.pairwise_cons.mpr ⟨fun y hy => ?_, h⟩
      rcases List.mem_cons.mp hy with z | z
      · subst z; exact q
      · have := h1 y z; omega
    · rename_i q
      refine List.pairwise_cons.mpr ⟨fun y hy => ?_, insL_srt w h2⟩
      rcases List.mem_cons.mp ((insL_perm w rs).mem_iff.mp hy) with z | z
      · subst z; omega
      · exact h1 y z
theorem srtL_srt : ∀ fs : List Wd, (srtL fs).Pairwise (fun a b => leadW a ≤ leadW b)
  | [] => .nil
  | r :: rs => insL_srt r (srtL_srt rs)
theorem sorted_eq {α : Type} (f : α → Nat) : ∀ {xs ys : List α}, xs.Perm ys → xs.Pairwise (fun a b => f a ≤ f b) → ys.Pairwise (fun a b => f a ≤ f b) → (∀ a ∈ xs, ∀ b ∈ xs, f a = f b → a = b) → xs = ys
  | [], ys, p, _, _, _ => (List.nil_perm.mp p).symm
  | x :: xs, [], p, _, _, _ => absurd p.length_eq (by simp)
  | x :: xs, y :: ys, p, h1, h2, inj => by
    have a1 := List.pairwise_cons.mp h1
    have a2 := List.pairwise_cons.mp h2
    have e : x = y := by
      have m1 : x ∈ y :: ys := p.mem_iff.mp (by simp)
      have m2 : y ∈ x :: xs := p.mem_iff.mpr (by simp)
      refine inj x (by simp) y m2 ?_
      rcases List.mem_cons.mp m1 with z | z
      · rw [z]
      · rcases List.mem_cons.mp m2 with u | u
        · rw [u]
        · have := a2.1 x z
          have := a1.1 y u
          omega
    subst e
    rw [sorted_eq f (List.perm_cons _ |>.mp p) a1.2 a2.2 fun a ha b hb => inj a (by simp [ha]) b (by simp [hb])]
section
variable {n l : Nat} {fs gs : List Wd}
theorem ech_leads (h : Ech2 (fs.map lf)) : (fs.map leadW).Nodup := by
  have h1 := h.no
  rw [List.pairwise_map] at h1
  unfold List.Nodup
  rw [List.pairwise_map]
  refine h1.imp_of_mem fun {r s} hr hs q e => ?_
  have h2 : fn r (leadW s) = 0 := q.1
  have h3 : fn r (leadW r) = 1 := h.one (lf r) (List.mem_map_of_mem hr)
  rw [← e, h3] at h2
  exact absurd (congrArg N2.v h2) (by decide)
theorem lead_inj (h : Ech2 (fs.map lf)) {r s : Wd} (hr : r ∈ fs) (hs : s ∈ fs) (e : leadW r = leadW s) : r = s := by
  have := ech_leads h
  induction fs with
  | nil => cases hr
  | cons a fs ih =>
    rw [List.map_cons] at this
    obtain ⟨h1, h2⟩ := List.nodup_cons.mp this
    rcases List.mem_cons.mp hr with z | z <;> rcases List.mem_cons.mp hs with u | u
    · rw [z, u]
    · subst z; exact absurd (e ▸ List.mem_map_of_mem u) h1
    · subst u; exact absurd (e ▸ List.mem_map_of_mem z) h1
    · exact ih h.tail z u h2
theorem Good.perm (g : Good n l fs) (p : gs.Perm fs) : Good n l gs := by
  refine ⟨fun r hr => g.len r (p.mem_iff.mp hr), fun r hr => g.lt r (p.mem_iff.mp hr), fun r hr => g.ld r (p.mem_iff.mp hr), ⟨fun q hq => ?_, ?_⟩⟩
  · exact g.ech.one q ((p.map lf).mem_iff.mp hq)
  · exact ((p.map lf).pairwise_iff fun {x y} h => ⟨h.2, h.1⟩).mpr g.ech.no
theorem spf_perm (p : gs.Perm fs) {f : Fn} : Spf (gs.map fn) f ↔ Spf (fs.map fn) f :=
  spf_eq (fun k hk => spf_row _ ((p.map fn).mem_iff.mp hk)) fun k hk => spf_row _ ((p.map fn).mem_iff.mpr hk)
theorem nodup_le : ∀ (n : Nat) {xs : List Nat}, xs.Nodup → (∀ x ∈ xs, x < n) → xs.length ≤ n
  | 0, [], _, _ => Nat.le_refl _
  | 0, x :: xs, _, h => absurd (h x (by simp)) (by omega)
  | n + 1, xs, hn, h => by
    by_cases hx : n ∈ xs
    · have h1 := nodup_le n (hn.erase n) fun x q => by
        obtain ⟨q1, q2⟩ := hn.mem_erase_iff.mp q
        have := h x q2
        omega
      rw [List.length_erase_of_mem hx] at h1
      omega
    · have := nodup_le n hn fun x q => by
        have := h x q
        have : x ≠ n := fun z => hx (z ▸ q)
        omega
      omega
theorem good_rank (g : Good n l fs) : fs.length ≤ n := by
  have := nodup_le n (ech_leads g.ech) fun x hx => by
    obtain ⟨r, hr, rfl⟩ := List.mem_map.mp hx
    exact g.ld r hr
  rwa [List.length_map] at this
end
def redRows (rows : List Wd) : List Wd := srtL (rowsW rows)
theorem redRows_good {n l : Nat} {rows : List Wd} (hl : ∀ r ∈ rows, r.length = n) (hx : ∀ r ∈ rows, ∀ x ∈ r, x < sz l) : Good n l (redRows rows) := (rows_good hl hx).perm (srtL_perm _)
theorem redRows_spf {n l : Nat} {rows : List Wd} (hl : ∀ r ∈ rows, r.length = n) (hx : ∀ r ∈ rows, ∀ x ∈ r, x < sz l) {f : Fn} : Spf ((redRows rows).map fn) f ↔ Spf (rows.map fn) f := (spf_perm (srtL_perm _)).trans (rows_spf hl hx)
theorem redRows_len (rows : List Wd) : (redRows rows).length = (rowsW rows).length := (srtL_perm _).length_eq

/-! products of words -/
def sumF : Nat → Fn → N2
  | 0, _ => 0
  | n + 1, f => sumF n f + f n
theorem sumF_zero : ∀ (n : Nat) {f : Fn}, (∀ i, i < n → f i = 0) → sumF n f = 0
  | 0, _, _ => rfl
  | n + 1, f, h => by show sumF n f + f n = 0; rw [sumF_zero n fun i hi => h i (by omega), h n (by omega)]; grind
theorem sumF_one : ∀ (n : Nat) {f : Fn} {k : Nat}, k < n → (∀ i, i < n → i ≠ k → f i = 0) → sumF n f = f k
  | 0, _, _, h, _ => absurd h (by omega)
  | n + 1, f, k, hk, h => by
    show sumF n f + f n = f k
    by_cases e : k = n
    · subst e
      rw [sumF_zero k fun i hi => h i (by omega) (by omega)]; grind
    · rw [sumF_one n (k := k) (by omega) fun i hi ne => h i (by omega) ne, h n (by omega) (fun z => e z.symm)]; grind
theorem sumF_lin : ∀ (n : Nat) (f h : Fn) (c : N2), sumF n (fun i => f i + c * h i) = sumF n f + c * sumF n h
  | 0, _, _, _ => by show (0 : N2) = 0 + _ * 0; grind
  | n + 1, f, h, c => by show sumF n _ + _ = sumF n f + f n + c * (sumF n h + h n); rw [sumF_lin n f h c]; grind
theorem sumF_two {n : Nat} {f : Fn} {j k : Nat} (hj : j < n) (hk : k < n) (ne : j ≠ k) (h : ∀ i, i < n → i ≠ j → i ≠ k → f i = 0) : sumF n f = f j + f k := by
  have h1 := sumF_lin n f (fun i => if i = k then f k else 0) 1
  have h2 : sumF n (fun i => f i + 1 * (if i = k then f k else 0)) = f j := by
    rw [sumF_one n (k := j) hj fun i hi q => ?_]
    · rw [if_neg ne]; grind
    · by_cases z : i = k
      · subst z; rw [if_pos rfl]; grind
      · rw [if_neg z, h i hi q z]; grind
  have h3 : sumF n (fun i => if i = k then f k else 0) = f k := by
    rw [sumF_one n (k := k) hk fun i hi q => if_neg q]
    exact if_pos rfl
  rw [h2, h3] at h1
  grind
def dotF (n : Nat) (f h : Fn) : N2 := sumF n fun i => f i * h i
theorem dotF_lin (n : Nat) (u f h : Fn) (c : N2) : dotF n u (fun i => f i + c * h i) = dotF n u f + c * dotF n u h := by
  unfold dotF
  have e : (fun i => u i * (f i + c * h i)) = fun i => u i * f i + c * (u i * h i) := by funext i; grind
  rw [e, sumF_lin]
theorem dotF_lin1 (n : Nat) (u f h : Fn) (c : N2) : dotF n (fun i => f i + c * h i) u = dotF n f u + c * dotF n h u := by
  unfold dotF
  have e : (fun i => (f i + c * h i) * u i) = fun i => f i * u i + c * (h i * u i) := by funext i; grind
  rw [e, sumF_lin]
theorem dotF_zero (n : Nat) (u : Fn) : dotF n u (fun _ => 0) = 0 := sumF_zero n fun i _ => by show _ * (0 : N2) = 0; grind
theorem dotF_zero1 (n : Nat) (u : Fn) : dotF n (fun _ => 0) u = 0 := sumF_zero n fun i _ => by show (0 : N2) * _ = 0; grind
/-- upright on all rows is upright on their span -/
theorem perp_spf {n : Nat} {u : Fn} {gs : List Fn} (h : ∀ g ∈ gs, dotF n u g = 0) {f : Fn} (hf : Spf gs f) : dotF n u f = 0 :=
  spf_sub (C := fun f => dotF n u f = 0) (dotF_zero n u) (fun {f h} c a b => by rw [dotF_lin, a, b]; grind) gs h hf
theorem perp_spf1 {n : Nat} {u : Fn} {gs : List Fn} (h : ∀ g ∈ gs, dotF n g u = 0) {f : Fn} (hf : Spf gs f) : dotF n f u = 0 :=
  spf_sub (C := fun f => dotF n f u = 0) (dotF_zero1 n u) (fun {f h} c a b => by rw [dotF_lin1, a, b]; grind) gs h hf

/-! the dual -/
def dwW (fs : List Wd) (n f : Nat) : Wd := fs.foldl (fun w r => w.set (leadW r) (r.getD f 0)) ((List.replicate n 0).set f 1)
def freeW (fs : List Wd) (n : Nat) : List Nat := (List.range n).filter fun i => !(fs.map leadW).contains i
def dualW (fs : List Wd) (n : Nat) : List Wd := (freeW fs n).map (dwW fs n)
theorem getD_set (w : Wd) (j i x : Nat) : (w.set j x).getD i 0 = if i = j ∧ j < w.length then x else w.getD i 0 := by
  simp only [List.getD_eq_getElem?_getD, List.getElem?_set]
  by_cases h : j = i
  · subst h
    by_cases h2 : j < w.length
    · simp [h2]
    · simp [h2]
  · have : ¬ i = j := fun z => h z.symm
    simp [h, this]
theorem dw_len (f : Nat) : ∀ (fs : List Wd) (b : Wd), (fs.foldl (fun w r => w.set (leadW r) (r.getD f 0)) b).length = b.length
  | [], b => rfl
  | r :: fs, b => by
    show (fs.foldl _ (b.set (leadW r) (r.getD f 0))).length = _
    rw [dw_len f fs, List.length_set]
theorem dw_no (f : Nat) {i : Nat} : ∀ (fs : List Wd) (b : Wd), (∀ r ∈ fs, leadW r ≠ i) → (fs.foldl (fun w r => w.set (leadW r) (r.getD f 0)) b).getD i 0 = b.getD i 0
  | [], b, _ => rfl
  | r :: fs, b, h => by
    show (fs.foldl _ (b.set (leadW r) (r.getD f 0))).getD i 0 = _
    rw [dw_no f fs _ fun s hs => h s (by simp [hs]), getD_set, if_neg fun z => h r (by simp) z.1.symm]
theorem dw_at (f : Nat) : ∀ (fs : List Wd) (b : Wd), (fs.map leadW).Nodup → ∀ r ∈ fs, leadW r < b.length → (fs.foldl (fun w r => w.set (leadW r) (r.getD f 0)) b).getD (leadW r) 0 = r.getD f 0
  | s :: fs, b, hn, r, hr, hl => by
    rw [List.map_cons] at hn
    obtain ⟨h1, h2⟩ := List.nodup_cons.mp hn
    show (fs.foldl _ (b.set (leadW s) (s.getD f 0))).getD (leadW r) 0 = _
    rcases List.mem_cons.mp hr with z | z
    · subst z
      rw [dw_no f (i := leadW r) fs _ (fun t ht e => h1 (List.mem_map.mpr ⟨t, ht, e⟩)), getD_set, if_pos ⟨rfl, hl⟩]
    · exact dw_at f fs _ h2 r z (by rw [List.length_set]; exact hl)
theorem mem_free {fs : List Wd} {n f : Nat} : f ∈ freeW fs n ↔ f < n ∧ ∀ r ∈ fs, leadW r ≠ f := by
  unfold freeW
  simp [List.mem_filter]
section
variable {n l : Nat} {fs : List Wd}
theorem dwW_len (fs : List Wd) (n f : Nat) : (dwW fs n f).length = n := by unfold dwW; rw [dw_len, List.length_set, List.length_replicate]
theorem base_at {n f i : Nat} (hf : f < n) : ((List.replicate n 0).set f 1).getD i 0 = if i = f then 1 else 0 := by
  rw [getD_set, List.length_replicate]
  by_cases h : i = f
  · rw [if_pos ⟨h, hf⟩, if_pos h]
  · rw [if_neg (fun z => h z.1), if_neg h]
    by_cases h2 : i < n <;> simp [List.getD_eq_getElem?_getD, List.getElem?_replicate, h2]
theorem dw_free {f i : Nat} (hf : f ∈ freeW fs n) (hi : ∀ r ∈ fs, leadW r ≠ i) : fn (dwW fs n f) i = if i = f then 1 else 0 := by
  unfold fn dwW
  rw [dw_no f fs _ hi, base_at (mem_free.mp hf).1]
  split <;> rfl
theorem dw_lead (g : Good n l fs) {f : Nat} {r : Wd} (hr : r ∈ fs) : fn (dwW fs n f) (leadW r) = fn r f := by
  unfold fn dwW
  rw [dw_at f fs _ (ech_leads g.ech) r hr (by rw [List.length_set, List.length_replicate]; exact g.ld r hr)]
theorem dw_lt (g : Good n l fs) {f : Nat} : ∀ x ∈ dwW fs n f, x < sz l := fun x hx => by
  obtain ⟨i, hi, e⟩ := List.getElem_of_mem hx
  rw [dwW_len] at hi
  have e : (dwW fs n f).getD i 0 = x := by
    simp [List.getD_eq_getElem?_getD, dwW_len, hi, e]
  subst e
  by_cases h : ∃ r ∈ fs, leadW r = i
  · obtain ⟨r, hr, rfl⟩ := h
    unfold dwW
    rw [dw_at f fs _ (ech_leads g.ech) r hr (by rw [List.length_set, List.length_replicate]; exact g.ld r hr)]
    exact getD_lt (g.lt r hr) f
  · unfold dwW
    rw [dw_no f fs _ fun r hr z => h ⟨r, hr, z⟩, getD_set]
    have h2 := two_le_sz l
    split
    · omega
    · by_cases h3 : i < n <;> simp [List.getD_eq_getElem?_getD, List.getElem?_replicate, h3] <;> omega
theorem dw_perp (g : Good n l fs) {f : Nat} (hf : f ∈ freeW fs n) {r : Wd} (hr : r ∈ fs) : dotF n (fn (dwW fs n f)) (fn r) = 0 := by
  obtain ⟨h1, h2⟩ := mem_free.mp hf
  have hz : ∀ i, i < n → i ≠ leadW r → i ≠ f → fn (dwW fs n f) i * fn r i = 0 := fun i hi q1 q2 => by
    by_cases h : ∃ s ∈ fs, leadW s = i
    · obtain ⟨s, hs, rfl⟩ := h
      have ne : s ≠ r := fun z => q1 (by rw [z])
      have e : fn r (leadW s) = 0 := by
        have hp := g.ech.no
        rw [List.pairwise_map] at hp
        have : ∀ {xs : List Wd}, xs.Pairwise (fun a b => (lf a).2 (lf b).1 = 0 ∧ (lf b).2 (lf a).1 = 0) → r ∈ xs → s ∈ xs → fn r (leadW s) = 0 := fun {xs} => by
          induction xs with
          | nil => intro _ h; cases h
          | cons a xs ih =>
            intro hp m1 m2
            obtain ⟨p1, p2⟩ := List.pairwise_cons.mp hp
            rcases List.mem_cons.mp m1 with z | z <;> rcases List.mem_cons.mp m2 with u | u
            · exact absurd (u.trans z.symm) ne
            · subst z; exact (p1 s u).1
            · subst u; exact (p1 r z).2
            · exact ih p2 z u
        exact this hp hr hs
      rw [e]; grind
    · rw [dw_free hf fun s hs z => h ⟨s, hs, z⟩, if_neg q2]; grind
  unfold dotF
  rw [sumF_two (j := leadW r) (k := f) (g.ld r hr) h1 (h2 r hr) hz, dw_lead g hr, dw_free hf h2, if_pos rfl]
  have e : fn r (leadW r) = 1 := g.ech.one (lf r) (List.mem_map_of_mem hr)
  rw [e]; grind
theorem dual_ech (hf : ∀ f ∈ freeW fs n, f < n) : Ech2 ((freeW fs n).map fun f => (f, fn (dwW fs n f))) := by
  refine ⟨fun p hp => ?_, ?_⟩
  · obtain ⟨f, hf, rfl⟩ := List.mem_map.mp hp
    show fn (dwW fs n f) f = 1
    rw [dw_free hf (mem_free.mp hf).2, if_pos rfl]
  · rw [List.pairwise_map]
    have hn : (freeW fs n).Nodup := List.Pairwise.filter _ List.nodup_range
    refine List.Pairwise.imp_of_mem (fun {a b} ha hb ne => ?_) hn
    show fn (dwW fs n a) b = 0 ∧ fn (dwW fs n b) a = 0
    rw [dw_free ha (mem_free.mp hb).2, dw_free hb (mem_free.mp ha).2, if_neg fun z => ne z.symm, if_neg ne]
    exact ⟨rfl, rfl⟩
theorem dual_fns (fs : List Wd) (n : Nat) : ((freeW fs n).map fun f => (f, fn (dwW fs n f))).map (·.2) = (dualW fs n).map fn := by
  unfold dualW
  rw [List.map_map, List.map_map]; rfl
/-- what is upright on the rows is in the span of the dual -/
theorem dual_spf (g : Good n l fs) {w : Wd} (hw : w.length = n) : Spf ((dualW fs n).map fn) (fn w) ↔ ∀ r ∈ fs, dotF n (fn w) (fn r) = 0 := by
  constructor
  · intro h r hr
    refine perp_spf1 (fun k hk => ?_) h
    obtain ⟨d, hd, rfl⟩ := List.mem_map.mp hk
    unfold dualW at hd
    obtain ⟨f, hf, rfl⟩ := List.mem_map.mp hd
    exact dw_perp g hf hr
  · intro h
    have he := dual_ech (fs := fs) (n := n) fun f hf => (mem_free.mp hf).1
    obtain ⟨v, h1, h2⟩ := ech2_red _ he (fn w)
    rw [dual_fns] at h1
    have hv0 : ∀ i, n ≤ i → v i = 0 := fun i hi => by
      have : ∀ k : Fn, Spf ((dualW fs n).map fn) k → k i = 0 := fun k hk => spf_sub (C := fun k => k i = 0) rfl (fun c a b => by show _ + c * _ = _; rw [a, b]; grind) _ (fun k hk => by
        obtain ⟨d, hd, rfl⟩ := List.mem_map.mp hk
        unfold dualW at hd
        obtain ⟨f, _, rfl⟩ := List.mem_map.mp hd
        exact fn_out (by rw [dwW_len]; exact hi)) hk
      have h3 : fn w i + v i = 0 := this _ h1
      rw [fn_out (by omega)] at h3; grind
    have hd : ∀ r ∈ fs, dotF n v (fn r) = 0 := fun r hr => by
      have h3 : dotF n (fun i => fn w i + v i) (fn r) = 0 := perp_spf1 (fun k hk => by
        obtain ⟨d, hd, rfl⟩ := List.mem_map.mp hk
        unfold dualW at hd
        obtain ⟨f, hf, rfl⟩ := List.mem_map.mp hd
        exact dw_perp g hf hr) h1
      have h4 := dotF_lin1 n (fn r) (fn w) v 1
      have e : (fun i => fn w i + 1 * v i) = fun i => fn w i + v i := by funext i; grind
      rw [e, h3, h r hr] at h4; grind
    have hvl : ∀ r ∈ fs, v (leadW r) = 0 := fun r hr => by
      have h3 := hd r hr
      unfold dotF at h3
      rw [sumF_one n (k := leadW r) (g.ld r hr) fun i hi q => ?_] at h3
      · have e : fn r (leadW r) = 1 := g.ech.one (lf r) (List.mem_map_of_mem hr)
        rw [e] at h3; grind
      · by_cases z : ∃ s ∈ fs, leadW s = i
        · obtain ⟨s, hs, rfl⟩ := z
          have ne : s ≠ r := fun z => q (by rw [z])
          have e : fn r (leadW s) = 0 := by
            have hp := g.ech.no
            rw [List.pairwise_map] at hp
            have : ∀ {xs : List Wd}, xs.Pairwise (fun a b => (lf a).2 (lf b).1 = 0 ∧ (lf b).2 (lf a).1 = 0) → r ∈ xs → s ∈ xs → fn r (leadW s) = 0 := fun {xs} => by
              induction xs with
              | nil => intro _ h; cases h
              | cons a xs ih =>
                intro hp m1 m2
                obtain ⟨p1, p2⟩ := List.pairwise_cons.mp hp
                rcases List.mem_cons.mp m1 with z | z <;> rcases List.mem_cons.mp m2 with u | u
                · exact absurd (u.trans z.symm) ne
                · subst z; exact (p1 s u).1
                · subst u; exact (p1 r z).2
                · exact ih p2 z u
            exact this hp hr hs
          rw [e]; grind
        · have : v i = 0 := h2 (i, fn (dwW fs n i)) (List.mem_map_of_mem (mem_free.mpr ⟨hi, fun s hs e => z ⟨s, hs, e⟩⟩))
          rw [this]; grind
    have hv : ∀ i, v i = 0 := fun i => by
      rcases Nat.lt_or_ge i n with q | q
      · by_cases z : ∃ s ∈ fs, leadW s = i
        · obtain ⟨s, hs, rfl⟩ := z; exact hvl s hs
        · exact h2 (i, fn (dwW fs n i)) (List.mem_map_of_mem (mem_free.mpr ⟨q, fun s hs e => z ⟨s, hs, e⟩⟩))
      · exact hv0 i q
    have e : (fun i => fn w i + v i) = fn w := by funext i; rw [hv i]; grind
    rw [e] at h1; exact h1
end
def dualRows (rows : List Wd) (n : Nat) : List Wd := redRows (dualW (redRows rows) n)
theorem dualW_len (fs : List Wd) (n : Nat) : ∀ r ∈ dualW fs n, r.length = n := fun r hr => by
  unfold dualW at hr
  obtain ⟨f, _, rfl⟩ := List.mem_map.mp hr
  exact dwW_len fs n f
theorem dualW_lt {n l : Nat} {fs : List Wd} (g : Good n l fs) : ∀ r ∈ dualW fs n, ∀ x ∈ r, x < sz l := fun r hr => by
  unfold dualW at hr
  obtain ⟨f, _, rfl⟩ := List.mem_map.mp hr
  exact dw_lt g
theorem dualRows_good {n l : Nat} {rows : List Wd} (hl : ∀ r ∈ rows, r.length = n) (hx : ∀ r ∈ rows, ∀ x ∈ r, x < sz l) : Good n l (dualRows rows n) :=
  redRows_good (dualW_len _ n) (dualW_lt (redRows_good hl hx))
theorem dualRows_spf {n l : Nat} {rows : List Wd} (hl : ∀ r ∈ rows, r.length = n) (hx : ∀ r ∈ rows, ∀ x ∈ r, x < sz l) {w : Wd} (hw : w.length = n) : Spf ((dualRows rows n).map fn) (fn w) ↔ ∀ r ∈ rows, dotF n (fn w) (fn r) = 0 := by
  have g := redRows_good hl hx
  unfold dualRows
  rw [redRows_spf (dualW_len _ n) (dualW_lt g), dual_spf g hw]
  constructor
  · intro h r hr
    refine perp_spf (gs := (redRows rows).map fn) (fun k hk => ?_) ((redRows_spf hl hx).mpr (spf_row _ (List.mem_map_of_mem hr)))
    obtain ⟨s, hs, rfl⟩ := List.mem_map.mp hk
    exact h s hs
  · intro h r hr
    refine perp_spf (gs := rows.map fn) (fun k hk => ?_) ((redRows_spf hl hx).mp (spf_row _ (List.mem_map_of_mem hr)))
    obtain ⟨s, hs, rfl⟩ := List.mem_map.mp hk
    exact h s hs

/-! the product of two words -/
def dotW (w r : Wd) : Nat := (List.zipWith nm w r).foldl (· ^^^ ·) 0
theorem foldl_x : ∀ (xs : List Nat) (a : Nat), xs.foldl (· ^^^ ·) a = a ^^^ xs.foldl (· ^^^ ·) 0
  | [], a => by simp
  | x :: xs, a => by
    rw [List.foldl_cons, List.foldl_cons, foldl_x xs (a ^^^ x), foldl_x xs (0 ^^^ x), Nat.zero_xor, Nat.xor_assoc]
theorem sumF_shift : ∀ (n : Nat) (f : Fn), sumF (n + 1) f = f 0 + sumF n fun i => f (i + 1)
  | 0, f => by show (0 : N2) + f 0 = f 0 + 0; grind
  | n + 1, f => by show sumF (n + 1) f + f (n + 1) = f 0 + (sumF n (fun i => f (i + 1)) + f (n + 1)); rw [sumF_shift n f]; grind
theorem dot_n2 : ∀ (w r : Wd), w.length = r.length → (⟨dotW w r⟩ : N2) = dotF w.length (fn w) (fn r)
  | [], [], _ => rfl
  | [], _ :: _, h => by simp at h
  | _ :: _, [], h => by simp at h
  | a :: w, b :: r, h => by
    have ih := dot_n2 w r (by simpa using h)
    unfold dotF at ih ⊢
    rw [List.length_cons, sumF_shift]
    have e : (fun i => fn (a :: w) (i + 1) * fn (b :: r) (i + 1)) = fun i => fn w i * fn r i := rfl
    rw [e, ← ih]
    unfold dotW
    rw [List.zipWith_cons_cons, List.foldl_cons, Nat.zero_xor, foldl_x]
    rfl
theorem dot_zero {n : Nat} {w r : Wd} (hw : w.length = n) (hr : r.length = n) : dotW w r = 0 ↔ dotF n (fn w) (fn r) = 0 := by
  have := dot_n2 w r (hw.trans hr.symm)
  rw [hw] at this
  rw [← this]
  exact ⟨fun h => N2.eq h, fun h => n2v h⟩
theorem dot_lt {l : Nat} : ∀ {w r : Wd}, (∀ x ∈ w, x < sz l) → (∀ x ∈ r, x < sz l) → dotW w r < sz l
  | [], r, _, _ => sz_pos l
  | _ :: _, [], _, _ => sz_pos l
  | a :: w, b :: r, h1, h2 => by
    have ih := dot_lt (w := w) (r := r) (fun x hx => h1 x (by simp [hx])) fun x hx => h2 x (by simp [hx])
    unfold dotW at ih ⊢
    rw [List.zipWith_cons_cons, List.foldl_cons, Nat.zero_xor, foldl_x]
    exact xor_lt (nm_lt (h1 a (by simp)) (h2 b (by simp))) ih
/-- traces of all multiples are 0 just if the number is 0 (levels to 2) -/
theorem trace_all {l c : Nat} (hl : l ≤ 2) (hc : c < sz l) : (∀ a, a < sz l → trb 0 (2 ^ l) (nm a c) = 0) ↔ c = 0 := by
  constructor
  · intro h
    refine Classical.byContradiction fun h0 => ?_
    have ht : ∃ t, t < sz l ∧ trb 0 (2 ^ l) t ≠ 0 := by
      have : l = 0 ∨ l = 1 ∨ l = 2 := by omega
      rcases this with rfl | rfl | rfl
      · exact ⟨1, by decide, by decide +kernel⟩
      · exact ⟨2, by decide, by decide +kernel⟩
      · exact ⟨8, by decide, by decide +kernel⟩
    obtain ⟨t, h1, h2⟩ := ht
    have h3 := h (nm t (invN c)) (nm_lt h1 (invN_lt hc))
    have e : nm (nm t (invN c)) c = t := by
      have := invN_ok h0
      have h4 : (⟨t⟩ : N2) * ⟨invN c⟩ * ⟨c⟩ = ⟨t⟩ := by grind
      exact n2v h4
    rw [e] at h3
    exact h2 h3
  · rintro rfl a ha
    have e : nm a 0 = 0 := by
      have : (⟨a⟩ : N2) * 0 = 0 := by grind
      exact n2v this
    rw [e]
    have : l = 0 ∨ l = 1 ∨ l = 2 := by omega
    rcases this with rfl | rfl | rfl <;> decide +kernel

/-! all words of a code -/
def wordsW (l n : Nat) (fs : List Wd) : List Wd := fs.foldl (fun found row => (List.range (sz l)).flatMap fun k => found.map fun w => lessW w row k) [List.replicate n 0]
theorem wordsW_snoc (l n : Nat) (fs : List Wd) (r : Wd) : wordsW l n (fs ++ [r]) = (List.range (sz l)).flatMap fun k => (wordsW l n fs).map fun w => lessW w r k := by unfold wordsW; rw [List.foldl_append]; rfl
theorem words_len (l n : Nat) : ∀ (fs : List Wd) (bs : List Wd), (∀ r ∈ fs, r.length = n) → (∀ r ∈ bs, r.length = n) → ∀ r ∈ fs.foldl (fun found row => (List.range (sz l)).flatMap fun k => found.map fun w => lessW w row k) bs, r.length = n
  | [], bs, _, hb => hb
  | f :: fs, bs, hf, hb => words_len l n fs _ (fun r hr => hf r (by simp [hr])) fun r hr => by
    obtain ⟨k, _, h2⟩ := List.mem_flatMap.mp hr
    obtain ⟨w, hw, rfl⟩ := List.mem_map.mp h2
    rw [less_len ((hb w hw).trans (hf f (by simp)).symm), hb w hw]
theorem words_lt (l : Nat) : ∀ (fs : List Wd) (bs : List Wd), (∀ r ∈ fs, ∀ x ∈ r, x < sz l) → (∀ r ∈ bs, ∀ x ∈ r, x < sz l) → ∀ r ∈ fs.foldl (fun found row => (List.range (sz l)).flatMap fun k => found.map fun w => lessW w row k) bs, ∀ x ∈ r, x < sz l
  | [], bs, _, hb => hb
  | f :: fs, bs, hf, hb => words_lt l fs _ (fun r hr => hf r (by simp [hr])) fun r hr => by
    obtain ⟨k, h1, h2⟩ := List.mem_flatMap.mp hr
    obtain ⟨w, hw, rfl⟩ := List.mem_map.mp h2
    exact less_lt (hb w hw) (hf f (by simp)) (List.mem_range.mp h1)
theorem wordsW_len {l n : Nat} {fs : List Wd} (h : ∀ r ∈ fs, r.length = n) : ∀ w ∈ wordsW l n fs, w.length = n := words_len l n fs _ h fun r hr => by rw [List.mem_singleton.mp hr, List.length_replicate]
theorem wordsW_lt {l n : Nat} {fs : List Wd} (h : ∀ r ∈ fs, ∀ x ∈ r, x < sz l) : ∀ w ∈ wordsW l n fs, ∀ x ∈ w, x < sz l := words_lt l fs _ h fun r hr x hx => by
  rw [List.mem_singleton.mp hr] at hx
  rw [List.eq_of_mem_replicate hx]; exact sz_pos l
theorem words_count (l n : Nat) : ∀ (fs : List Wd) (bs : List Wd), (fs.foldl (fun found row => (List.range (sz l)).flatMap fun k => found.map fun w => lessW w row k) bs).length = sz l ^ fs.length * bs.length
  | [], bs => by simp
  | f :: fs, bs => by
    have h1 : ∀ (ks : List Nat), (ks.flatMap fun k => bs.map fun w => lessW w f k).length = ks.length * bs.length := fun ks => by
      induction ks with
      | nil => simp
      | cons k ks ih => rw [List.flatMap_cons, List.length_append, ih, List.length_map, List.length_cons, Nat.add_mul, Nat.one_mul, Nat.add_comm]
    rw [List.foldl_cons, words_count l n fs, h1, List.length_range, List.length_cons, Nat.pow_succ, Nat.mul_assoc]
def wtW (w : Wd) : Nat := (w.filter fun x => x != 0).length
def wtsW (ws : List Wd) (n : Nat) : List Nat := (List.range (n + 1)).map fun t => ws.countP fun w => wtW w == t
theorem wtsW_perm {ws vs : List Wd} (p : ws.Perm vs) (n : Nat) : wtsW ws n = wtsW vs n := by
  unfold wtsW
  exact List.map_congr_left fun t _ => p.countP_eq _
end NF

/-! Leads of numbers go through all that is made of words. -/
namespace NF
open Lean.Grind
structure Hom (φ : Nat → Nat) : Prop where
  z : φ 0 = 0
  x : ∀ a b, φ (a ^^^ b) = φ a ^^^ φ b
  m : ∀ a b, φ (nm a b) = nm (φ a) (φ b)
  i : ∀ a, φ a = 0 → a = 0
  s : ∀ {a l}, a < sz l → φ a < sz l
  r : ∀ {a l}, a < sz l → ∃ b, b < sz l ∧ φ b = a
theorem Hom.inj {φ : Nat → Nat} (h : Hom φ) {a b : Nat} (e : φ a = φ b) : a = b := by
  have : φ (a ^^^ b) = 0 := by rw [h.x, e, Nat.xor_self]
  exact xor_eq0.mp (h.i _ this)
theorem Hom.one {φ : Nat → Nat} (h : Hom φ) : φ 1 = 1 := by
  have h1 := h.m 1 1
  rw [nm_one] at h1
  have h2 : φ 1 ≠ 0 := fun z => absurd (h.i 1 z) (by decide)
  have h3 : (⟨φ 1⟩ : N2) * 1 = ⟨φ 1⟩ * ⟨φ 1⟩ := by
    have : (⟨φ 1⟩ : N2) = ⟨φ 1⟩ * ⟨φ 1⟩ := N2.eq h1
    grind
  exact n2v (n2_cancel (ne0 h2) h3).symm
theorem frN_z (t : Nat) : frN t 0 = 0 := by
  induction t with
  | zero => rfl
  | succ t ih => rw [frN_succ, ih]; exact nm_zero 0
theorem frN_back {l a : Nat} (h : a < sz l) (t : Nat) : frN (2 ^ l * t) a = a := by
  have h1 : fr (2 ^ l) (⟨a⟩ : N2) = ⟨a⟩ := N2.eq (frN_full h)
  exact congrArg N2.v (fr_mulp h1 t)
theorem hom_fr (t : Nat) : Hom (frN t) := by
  refine ⟨frN_z t, frN_xor t, frN_nm t, fun a h => ?_, fun {a l} h => frN_lt h t, fun {a l} h => ⟨frN (2 ^ l * t - t) a, frN_lt h _, ?_⟩⟩
  · refine Classical.byContradiction fun h0 => ?_
    rw [frN_pw] at h
    exact pow_ne (ne0 h0) (2 ^ t) (N2.eq h)
  · have hp := Nat.two_pow_pos l
    have : t ≤ 2 ^ l * t := Nat.le_mul_of_pos_left t hp
    rw [frN_frN, show 2 ^ l * t - t + t = 2 ^ l * t by omega]
    exact frN_back h t
section
variable {φ : Nat → Nat} (h : Hom φ)
include h
theorem hom_less (w r : Wd) (c : Nat) : (lessW w r c).map φ = lessW (w.map φ) (r.map φ) (φ c) := by
  unfold lessW
  rw [List.map_zipWith, List.zipWith_map]
  congr 1
  funext a b
  rw [h.x, h.m]
theorem hom_lead (w : Wd) : leadW (w.map φ) = leadW w := by
  unfold leadW
  rw [List.findIdx_map]
  congr 1
  funext a
  show (φ a != 0) = (a != 0)
  by_cases e : a = 0
  · subst e; rw [h.z]
  · have : φ a ≠ 0 := fun z => e (h.i a z)
    rw [show (φ a != 0) = true from bne_iff_ne.mpr this, show (a != 0) = true from bne_iff_ne.mpr e]
theorem hom_getD (w : Wd) (i : Nat) : (w.map φ).getD i 0 = φ (w.getD i 0) := by
  simp only [List.getD_eq_getElem?_getD, List.getElem?_map]
  cases w[i]? with
  | none => exact h.z.symm
  | some a => rfl
theorem hom_red : ∀ (fs : List Wd) (w : Wd), redW (fs.map (List.map φ)) (w.map φ) = (redW fs w).map φ
  | [], w => rfl
  | r :: fs, w => by
    show redW (fs.map (List.map φ)) (lessW (w.map φ) (r.map φ) ((w.map φ).getD (leadW (r.map φ)) 0)) = (redW fs (lessW w r (w.getD (leadW r) 0))).map φ
    rw [← hom_red fs, hom_less h, hom_lead h, hom_getD h]
theorem hom_inv {a : Nat} (h0 : a ≠ 0) : invN (φ a) = φ (invN a) := by
  have h1 := invN_ok h0
  have h2 : φ a ≠ 0 := fun z => h0 (h.i a z)
  have h3 := invN_ok h2
  have h4 : (⟨φ a⟩ : N2) * ⟨φ (invN a)⟩ = 1 := by
    have : nm (φ a) (φ (invN a)) = 1 := by rw [← h.m, n2v (h1 : (⟨nm a (invN a)⟩ : N2) = ⟨1⟩), h.one]
    exact N2.eq this
  exact n2v (n2_cancel (ne0 h2) (h3.trans h4.symm))
theorem hom_nrm {w : Wd} (hl : leadW w < w.length) : nrmW (w.map φ) = (nrmW w).map φ := by
  unfold nrmW
  rw [hom_lead h, hom_getD h, hom_inv h (lead_at hl), List.map_map, List.map_map]
  refine List.map_congr_left fun x _ => ?_
  exact (h.m _ _).symm
theorem hom_step (fs : List Wd) (w : Wd) : stepW (fs.map (List.map φ)) (w.map φ) = (stepW fs w).map (List.map φ) := by
  rw [step_eq, step_eq, hom_red h, hom_lead h, List.length_map]
  split
  · rename_i hl
    rw [List.map_append, List.map_map, List.map_map, hom_nrm h hl]
    congr 1
    refine List.map_congr_left fun r _ => ?_
    show dnW ((redW fs w).map φ) (r.map φ) = (dnW (redW fs w) r).map φ
    unfold dnW
    rw [hom_nrm h hl, hom_less h, hom_lead h, hom_getD h]
  · rfl
theorem hom_fold : ∀ (rows fs : List Wd), (rows.map (List.map φ)).foldl stepW (fs.map (List.map φ)) = (rows.foldl stepW fs).map (List.map φ)
  | [], fs => rfl
  | w :: rows, fs => by
    show (rows.map (List.map φ)).foldl stepW (stepW (fs.map (List.map φ)) (w.map φ)) = (rows.foldl stepW (stepW fs w)).map (List.map φ)
    rw [hom_step h, hom_fold rows]
theorem hom_rows (rows : List Wd) : rowsW (rows.map (List.map φ)) = (rowsW rows).map (List.map φ) := hom_fold h rows []
theorem hom_ins (w : Wd) : ∀ fs : List Wd, insL (w.map φ) (fs.map (List.map φ)) = (insL w fs).map (List.map φ)
  | [] => rfl
  | r :: fs => by
    show (if leadW (w.map φ) ≤ leadW (r.map φ) then w.map φ :: r.map φ :: fs.map (List.map φ) else r.map φ :: insL (w.map φ) (fs.map (List.map φ))) = (if leadW w ≤ leadW r then w :: r :: fs else r :: insL w fs).map (List.map φ)
    rw [hom_lead h, hom_lead h]
    split
    · rfl
    · rw [hom_ins w fs]; rfl
theorem hom_srt : ∀ fs : List Wd, srtL (fs.map (List.map φ)) = (srtL fs).map (List.map φ)
  | [] => rfl
  | r :: fs => by
    show insL (r.map φ) (srtL (fs.map (List.map φ))) = _
    rw [hom_srt fs, hom_ins h]; rfl
theorem hom_redRows (rows : List Wd) : redRows (rows.map (List.map φ)) = (redRows rows).map (List.map φ) := by unfold redRows; rw [hom_rows h, hom_srt h]
theorem hom_dw (f n : Nat) (fs : List Wd) : dwW (fs.map (List.map φ)) n f = (dwW fs n f).map φ := by
  have : ∀ (fs : List Wd) (b : Wd), (fs.map (List.map φ)).foldl (fun w r => w.set (leadW r) (r.getD f 0)) (b.map φ) = (fs.foldl (fun w r => w.set (leadW r) (r.getD f 0)) b).map φ := fun fs => by
    induction fs with
    | nil => intro b; rfl
    | cons r fs ih =>
      intro b
      show (fs.map (List.map φ)).foldl _ ((b.map φ).set (leadW (r.map φ)) ((r.map φ).getD f 0)) = (fs.foldl _ (b.set (leadW r) (r.getD f 0))).map φ
      rw [← ih, hom_lead h, hom_getD h, List.map_set]
  unfold dwW
  rw [← this]
  congr 1
  rw [List.map_set, List.map_replicate, h.z, h.one]
theorem hom_dual (fs : List Wd) (n : Nat) : dualW (fs.map (List.map φ)) n = (dualW fs n).map (List.map φ) := by
  have e : (fs.map (List.map φ)).map leadW = fs.map leadW := by
    rw [List.map_map]
    exact List.map_congr_left fun r _ => hom_lead h r
  unfold dualW freeW
  rw [e, List.map_map]
  exact List.map_congr_left fun f _ => hom_dw h f n fs
theorem hom_dualRows (rows : List Wd) (n : Nat) : dualRows (rows.map (List.map φ)) n = (dualRows rows n).map (List.map φ) := by unfold dualRows; rw [hom_redRows h, hom_dual h, hom_redRows h]
theorem hom_range (l : Nat) : ((List.range (sz l)).map φ).Perm (List.range (sz l)) := by
  refine (List.perm_ext_iff_of_nodup ?_ List.nodup_range).mpr fun a => ?_
  · unfold List.Nodup
    rw [List.pairwise_map]
    exact List.nodup_range.imp fun {a b} ne e => ne (h.inj e)
  · rw [List.mem_range, List.mem_map]
    constructor
    · rintro ⟨b, hb, rfl⟩
      exact h.s (List.mem_range.mp hb)
    · intro ha
      obtain ⟨b, hb, e⟩ := h.r ha
      exact ⟨b, List.mem_range.mpr hb, e⟩
omit h in
theorem flat_perm {α β : Type} {f g : α → List β} (hp : ∀ a, (f a).Perm (g a)) : ∀ xs : List α, (xs.flatMap f).Perm (xs.flatMap g)
  | [] => List.Perm.refl _
  | x :: xs => by
    rw [List.flatMap_cons, List.flatMap_cons]
    exact (hp x).append (flat_perm hp xs)
theorem hom_wordsA (l : Nat) : ∀ (fs bs bs' : List Wd), bs'.Perm (bs.map (List.map φ)) →
    ((fs.map (List.map φ)).foldl (fun found row => (List.range (sz l)).flatMap fun k => found.map fun w => lessW w row k) bs').Perm ((fs.foldl (fun found row => (List.range (sz l)).flatMap fun k => found.map fun w => lessW w row k) bs).map (List.map φ))
  | [], bs, bs', p => p
  | f :: fs, bs, bs', p => by
    refine hom_wordsA l fs _ _ ?_
    rw [List.map_flatMap]
    have e : (fun k => (bs.map fun w => lessW w f k).map (List.map φ)) = fun k => (fun c => (bs.map (List.map φ)).map fun w => lessW w (f.map φ) c) (φ k) := by
      funext k
      show (bs.map fun w => lessW w f k).map (List.map φ) = (bs.map (List.map φ)).map fun w => lessW w (f.map φ) (φ k)
      rw [List.map_map, List.map_map]
      exact List.map_congr_left fun w _ => hom_less h w f k
    rw [e, ← List.flatMap_map φ (fun c => (bs.map (List.map φ)).map fun w => lessW w (f.map φ) c)]
    exact (flat_perm (fun k => p.map _) _).trans ((hom_range h l).symm.flatMap_right _)
theorem hom_words (l n : Nat) (fs : List Wd) : (wordsW l n (fs.map (List.map φ))).Perm ((wordsW l n fs).map (List.map φ)) := by
  refine hom_wordsA h l fs _ _ ?_
  rw [List.map_cons, List.map_nil, List.map_replicate, h.z]
theorem hom_wt (w : Wd) : wtW (w.map φ) = wtW w := by
  unfold wtW
  rw [List.filter_map, List.length_map]
  congr 2
  funext a
  show (φ a != 0) = (a != 0)
  by_cases e : a = 0
  · subst e; rw [h.z]
  · have : φ a ≠ 0 := fun z => e (h.i a z)
    rw [show (φ a != 0) = true from bne_iff_ne.mpr this, show (a != 0) = true from bne_iff_ne.mpr e]
theorem hom_wts (ws : List Wd) (n : Nat) : wtsW (ws.map (List.map φ)) n = wtsW ws n := by
  unfold wtsW
  refine List.map_congr_left fun t _ => ?_
  rw [List.countP_map]
  congr 1
  funext w
  show (wtW (w.map φ) == t) = _
  rw [hom_wt h]
end
/-! square roots -/
def rtN (a : Nat) : Nat := pw a (sz (lev a) / 2)
theorem rt_fr {a : Nat} (h : a < sz 6) : rtN a = frN 63 a := by
  have h1 : nm (frN 63 a) (frN 63 a) = a := by rw [← frN_succ]; exact frN_full (k := 6) h
  have h2 := root_sq (x := frN 63 a)
  rw [h1] at h2
  exact h2
theorem rt_sq {a : Nat} (h : a < sz 6) : nm (frN 63 a) (frN 63 a) = a := by rw [← frN_succ]; exact frN_full (k := 6) h
def apW (w v : Wd) : Nat := ((w.zip v).filter fun p => p.1 != p.2).length
theorem hom_ap {φ : Nat → Nat} (h : Hom φ) (w v : Wd) : apW (w.map φ) (v.map φ) = apW w v := by
  unfold apW
  rw [List.zip_map, List.filter_map, List.length_map]
  congr 2
  funext p
  show (φ p.1 != φ p.2) = (p.1 != p.2)
  by_cases e : p.1 = p.2
  · rw [e]; simp
  · have : φ p.1 ≠ φ p.2 := fun z => e (h.inj z)
    rw [show (φ p.1 != φ p.2) = true from bne_iff_ne.mpr this, show (p.1 != p.2) = true from bne_iff_ne.mpr e]
end NF

/-! Data as data: what a value is worth, whatever heap it lies in; readings over data. -/
namespace DL
open PySem PySem.Spec L2

inductive D where
  | non | bl (b : Bool) | int (i : Int) | str (s : Str)
  | fz (ns : List Int) | lst (xs : List D) | tup (xs : List D) | dct (ks : List Key) (vs : List D)

/-- the heap without what is avoided -/
noncomputable def cl (W : Addr → Prop) (H : Hp) : Hp := fun a => open Classical in if W a then none else H a
abbrev Sub (H H' : Hp) : Prop := ∀ a o, H a = some o → H' a = some o
theorem Sub.refl (H : Hp) : Sub H H := fun _ _ h => h
theorem Sub.trans {H H1 H2 : Hp} (a : Sub H H1) (b : Sub H1 H2) : Sub H H2 := fun x o h => b x o (a x o h)
theorem Sub.new {H : Hp} {p : Addr} {o : HO} (h : H p = none) : Sub H (upd H p o) := fun a u e => by rw [upd_ne (ne_of_none e h)]; exact e
theorem cl_of {W : Addr → Prop} {H : Hp} {a : Addr} {o : HO} (h : H a = some o) (n : ¬ W a) : cl W H a = some o := by unfold cl; rw [if_neg n]; exact h
theorem of_cl {W : Addr → Prop} {H : Hp} {a : Addr} {o : HO} (h : cl W H a = some o) : H a = some o ∧ ¬ W a := by
  unfold cl at h
  split at h
  · cases h
  · exact ⟨h, by assumption⟩
theorem cl_sub {W : Addr → Prop} {H : Hp} : Sub (cl W H) H := fun _ _ h => (of_cl h).1
theorem cl_mono {W W' : Addr → Prop} {H H' : Hp} (h : ∀ a o, H a = some o → ¬ W a → H' a = some o ∧ ¬ W' a) : Sub (cl W H) (cl W' H') := fun a o e => by
  obtain ⟨e1, e2⟩ := of_cl e
  obtain ⟨e3, e4⟩ := h a o e1 e2
  exact cl_of e3 e4
theorem cl_grow {W : Addr → Prop} {H H' : Hp} (h : Sub H H') : Sub (cl W H) (cl W H') := cl_mono fun a o e n => ⟨h a o e, n⟩

section
variable (K : PySem.W.Frag)
mutual
/-- v is the datum d, all of it in C -/
def rep (C : Hp) : D → V → Prop
  | .non, v => v = .non
  | .bl b, v => v = .bl b
  | .int i, v => v = .int i
  | .str s, v => v = .str s
  | .fz ns, v => ∃ a, v = .ref a ∧ SqL K C a (ns.map V.int)
  | .lst ds, v => ∃ a xs, v = .ref a ∧ C a = some (.lst xs) ∧ reps C ds xs
  | .tup ds, v => ∃ a xs, v = .ref a ∧ SqT K C a xs ∧ reps C ds xs
  | .dct ks ds, v => ∃ a xs, v = .ref a ∧ C a = some (.dK (ks.zip xs)) ∧ ks.length = xs.length ∧ reps C ds xs
def reps (C : Hp) : List D → List V → Prop
  | [], xs => xs = []
  | d :: ds, xs => ∃ x r, xs = x :: r ∧ rep C d x ∧ reps C ds r
end
end
section
variable {K : PySem.W.Frag}
theorem rd_sub {H H' : Hp} {a : Addr} {u : HO} (e : Sub H H') (h : Rd H a u) : Rd H' a u := by
  rcases h with h | ⟨o, h⟩
  · exact .inl (e _ _ h)
  · exact .inr ⟨o, e _ _ h⟩
theorem sl_sub {H H' : Hp} {a : Addr} {xs : List V} (e : Sub H H') (h : SqL K H a xs) : SqL K H' a xs := by
  rcases h with h | h
  · exact .inl (rd_sub e h)
  · exact .inr h
theorem st_sub {H H' : Hp} {a : Addr} {xs : List V} (e : Sub H H') (h : SqT K H a xs) : SqT K H' a xs := by
  rcases h with h | h
  · exact .inl (rd_sub e h)
  · exact .inr h
mutual
theorem rep_sub {C C' : Hp} (e : Sub C C') : ∀ (d : D) (v : V), rep K C d v → rep K C' d v
  | .non, v, h => by simpa only [rep] using h
  | .bl b, v, h => by simpa only [rep] using h
  | .int i, v, h => by simpa only [rep] using h
  | .str s, v, h => by simpa only [rep] using h
  | .fz ns, v, h => by
    simp only [rep] at h ⊢
    obtain ⟨a, h1, h2⟩ := h
    exact ⟨a, h1, sl_sub e h2⟩
  | .lst ds, v, h => by
    simp only [rep] at h ⊢
    obtain ⟨a, xs, h1, h2, h3⟩ := h
    exact ⟨a, xs, h1, e _ _ h2, reps_sub e ds xs h3⟩
  | .tup ds, v, h => by
    simp only [rep] at h ⊢
    obtain ⟨a, xs, h1, h2, h3⟩ := h
    exact ⟨a, xs, h1, st_sub e h2, reps_sub e ds xs h3⟩
  | .dct ks ds, v, h => by
    simp only [rep] at h ⊢
    obtain ⟨a, xs, h1, h2, hl, h3⟩ := h
    exact ⟨a, xs, h1, e _ _ h2, hl, reps_sub e ds xs h3⟩
theorem reps_sub {C C' : Hp} (e : Sub C C') : ∀ (ds : List D) (xs : List V), reps K C ds xs → reps K C' ds xs
  | [], xs, h => by simpa only [reps] using h
  | d :: ds, xs, h => by
    simp only [reps] at h ⊢
    obtain ⟨x, r, h1, h2, h3⟩ := h
    exact ⟨x, r, h1, rep_sub e d x h2, reps_sub e ds r h3⟩
end
theorem reps_nil {C : Hp} : reps K C [] [] := by simp only [reps]
theorem reps_cons {C : Hp} {d : D} {ds : List D} {x : V} {xs : List V} (h : rep K C d x) (t : reps K C ds xs) : reps K C (d :: ds) (x :: xs) := by
  simp only [reps]; exact ⟨x, xs, rfl, h, t⟩
theorem reps_one {C : Hp} {d : D} {x : V} (h : rep K C d x) : reps K C [d] [x] := reps_cons h reps_nil
theorem reps_len {C : Hp} : ∀ {ds : List D} {xs : List V}, reps K C ds xs → xs.length = ds.length
  | [], xs, h => by simp only [reps] at h; subst h; rfl
  | d :: ds, xs, h => by
    simp only [reps] at h
    obtain ⟨x, r, rfl, _, h3⟩ := h
    simp only [List.length_cons, reps_len h3]
theorem reps_get {C : Hp} : ∀ {ds : List D} {xs : List V} {i : Nat} {d : D}, reps K C ds xs → ds[i]? = some d → ∃ x, xs[i]? = some x ∧ rep K C d x
  | [], xs, i, d, h, e => by simp at e
  | d' :: ds, xs, i, d, h, e => by
    simp only [reps] at h
    obtain ⟨x, r, rfl, h2, h3⟩ := h
    cases i with
    | zero => simp at e; subst e; exact ⟨x, rfl, h2⟩
    | succ i => simp at e; obtain ⟨y, h4, h5⟩ := reps_get h3 e; exact ⟨y, by simpa using h4, h5⟩
theorem reps_getV {C : Hp} {ds : List D} {xs : List V} {i : Nat} {x : V} (h : reps K C ds xs) (e : xs[i]? = some x) : ∃ d, ds[i]? = some d ∧ rep K C d x := by
  have hl := reps_len h
  have hi : i < ds.length := by rw [← hl]; exact (List.getElem?_eq_some_iff.mp e).1
  obtain ⟨y, h1, h2⟩ := reps_get (i := i) (d := ds[i]) h (by simp [hi])
  rw [e] at h1; cases h1
  exact ⟨ds[i], by simp [hi], h2⟩
theorem reps_append {C : Hp} : ∀ {ds es : List D} {xs ys : List V}, reps K C ds xs → reps K C es ys → reps K C (ds ++ es) (xs ++ ys)
  | [], es, xs, ys, h, h' => by simp only [reps] at h; subst h; exact h'
  | d :: ds, es, xs, ys, h, h' => by
    simp only [reps] at h
    obtain ⟨x, r, rfl, h2, h3⟩ := h
    exact reps_cons h2 (reps_append h3 h')
theorem reps_split {C : Hp} : ∀ {ds es : List D} {zs : List V}, reps K C (ds ++ es) zs → ∃ xs ys, zs = xs ++ ys ∧ reps K C ds xs ∧ reps K C es ys
  | [], es, zs, h => ⟨[], zs, rfl, reps_nil, h⟩
  | d :: ds, es, zs, h => by
    simp only [List.cons_append, reps] at h
    obtain ⟨x, r, rfl, h2, h3⟩ := h
    obtain ⟨xs, ys, rfl, h4, h5⟩ := reps_split h3
    exact ⟨x :: xs, ys, rfl, reps_cons h2 h4, h5⟩
theorem reps_take {C : Hp} {ds : List D} {xs : List V} (n : Nat) (h : reps K C ds xs) : reps K C (ds.take n) (xs.take n) := by
  have e := List.take_append_drop n ds
  rw [← e] at h
  obtain ⟨ys, zs, rfl, h1, h2⟩ := reps_split h
  have l := reps_len h1
  have l2 := reps_len h2
  have : (ys ++ zs).take n = ys := by
    by_cases hn : n ≤ ds.length
    · rw [List.take_append_of_le_length (by rw [l, List.length_take]; omega), List.take_of_length_le (by rw [l, List.length_take]; omega)]
    · have hz : zs = [] := by
        apply List.eq_nil_of_length_eq_zero
        rw [l2, List.length_drop]; omega
      rw [hz, List.append_nil, List.take_of_length_le (by rw [l, List.length_take]; omega)]
  rw [this]
  exact h1
theorem reps_drop {C : Hp} {ds : List D} {xs : List V} (n : Nat) (h : reps K C ds xs) : reps K C (ds.drop n) (xs.drop n) := by
  have e := List.take_append_drop n ds
  have h' := h
  rw [← e] at h
  obtain ⟨ys, zs, rfl, h1, h2⟩ := reps_split h
  have l := reps_len h1
  have l2 := reps_len h2
  by_cases hn : n ≤ ds.length
  · have hy : ys.length = n := by rw [l, List.length_take]; omega
    rw [← hy, List.drop_left, hy]; exact h2
  · have hl := reps_len h'
    rw [List.drop_of_length_le (by omega), List.drop_of_length_le (by omega)]
    exact reps_nil
theorem reps_set {C : Hp} : ∀ {ds : List D} {xs : List V} (i : Nat) {d : D} {x : V}, reps K C ds xs → rep K C d x → reps K C (ds.set i d) (xs.set i x)
  | [], xs, i, d, x, h, h' => by simp only [reps] at h; subst h; exact reps_nil
  | d' :: ds, xs, i, d, x, h, h' => by
    simp only [reps] at h
    obtain ⟨y, r, rfl, h2, h3⟩ := h
    cases i with
    | zero => exact reps_cons h' h3
    | succ i => exact reps_cons h2 (reps_set i h3 h')
theorem reps_dropLast {C : Hp} {ds : List D} {xs : List V} (h : reps K C ds xs) : reps K C ds.dropLast xs.dropLast := by
  rw [List.dropLast_eq_take, List.dropLast_eq_take, reps_len h]; exact reps_take _ h
theorem reps_ints {C : Hp} : ∀ {ns : List Int} {xs : List V}, reps K C (ns.map D.int) xs → xs = ns.map V.int
  | [], xs, h => by simpa only [reps, List.map_nil] using h
  | n :: ns, xs, h => by
    simp only [List.map_cons, reps, rep] at h
    obtain ⟨x, r, rfl, h2, h3⟩ := h
    rw [h2, List.map_cons, reps_ints h3]
theorem ints_reps {C : Hp} : ∀ (ns : List Int), reps K C (ns.map D.int) (ns.map V.int)
  | [] => reps_nil
  | n :: ns => reps_cons (by simp only [rep]) (ints_reps ns)
theorem reps_bls {C : Hp} : ∀ {ns : List Bool} {xs : List V}, reps K C (ns.map D.bl) xs → xs = ns.map V.bl
  | [], xs, h => by simpa only [reps, List.map_nil] using h
  | n :: ns, xs, h => by
    simp only [List.map_cons, reps, rep] at h
    obtain ⟨x, r, rfl, h2, h3⟩ := h
    rw [h2, List.map_cons, reps_bls h3]
theorem rep_int {C : Hp} {i : Int} {v : V} (h : rep K C (.int i) v) : v = .int i := by simpa only [rep] using h
theorem rep_bl {C : Hp} {i : Bool} {v : V} (h : rep K C (.bl i) v) : v = .bl i := by simpa only [rep] using h
theorem rep_str {C : Hp} {i : Str} {v : V} (h : rep K C (.str i) v) : v = .str i := by simpa only [rep] using h
theorem rep_non {C : Hp} {v : V} (h : rep K C .non v) : v = .non := by simpa only [rep] using h
theorem int_rep {C : Hp} {i : Int} : rep K C (.int i) (.int i) := by simp only [rep]
theorem bl_rep {C : Hp} {i : Bool} : rep K C (.bl i) (.bl i) := by simp only [rep]
theorem str_rep {C : Hp} {i : Str} : rep K C (.str i) (.str i) := by simp only [rep]
theorem non_rep {C : Hp} : rep K C .non .non := by simp only [rep]
theorem rep_lst {C : Hp} {ds : List D} {v : V} (h : rep K C (.lst ds) v) : ∃ a xs, v = .ref a ∧ C a = some (.lst xs) ∧ reps K C ds xs := by simpa only [rep] using h
theorem rep_tup {C : Hp} {ds : List D} {v : V} (h : rep K C (.tup ds) v) : ∃ a xs, v = .ref a ∧ SqT K C a xs ∧ reps K C ds xs := by simpa only [rep] using h
theorem lst_rep {C : Hp} {ds : List D} {a : Addr} {xs : List V} (h : C a = some (.lst xs)) (h2 : reps K C ds xs) : rep K C (.lst ds) (.ref a) := by simp only [rep]; exact ⟨a, xs, rfl, h, h2⟩
theorem tup_rep {C : Hp} {ds : List D} {a : Addr} {xs : List V} (h : SqT K C a xs) (h2 : reps K C ds xs) : rep K C (.tup ds) (.ref a) := by simp only [rep]; exact ⟨a, xs, rfl, h, h2⟩

/-- scalars need no heap -/
def D.sc : D → Bool
  | .non | .bl _ | .int _ | .str _ => true
  | _ => false
theorem rep_sc {C C' : Hp} {d : D} {v : V} (h : D.sc d = true) (r : rep K C d v) : rep K C' d v := by
  cases d <;> first | (simp only [rep] at r ⊢; exact r) | cases h
end

/-! ### names' contents -/
inductive Sl where
  | no | da (d : D) | ol (a : Addr) (ds : List D) | od (a : Addr) (ks : List Key) (ds : List D) | dr (a c : Addr)
def Sl.addr : Sl → Option Addr
  | .ol a _ => some a
  | .od a _ _ => some a
  | .dr a _ => some a
  | _ => none
def Av (W : Addr → Prop) (ρ : List Sl) (a : Addr) : Prop := W a ∨ ∃ s ∈ ρ, s.addr = some a
/-- the state of the draws -/
def DrawOk (K : PySem.W.Frag) (C H : Hp) (p c : Addr) : Prop := ∃ (w n : Int) (ns : List Int), C c = some (.lst (ns.map V.int)) ∧ ns.length ≤ 63 ∧
  H p = some (.dK [(Sum.inr "whole", .int w), (Sum.inr "cells", .ref c), (Sum.inr "count", .int n)])
def SlOk (K : PySem.W.Frag) (C H : Hp) (x : Option (Option V)) : Sl → Prop
  | .no => True
  | .da d => ∃ v, x = some (some v) ∧ rep K C d v
  | .ol a ds => x = some (some (.ref a)) ∧ ∃ xs, H a = some (.lst xs) ∧ reps K C ds xs
  | .od a ks ds => x = some (some (.ref a)) ∧ ∃ xs, H a = some (.dK (ks.zip xs)) ∧ ks.length = xs.length ∧ reps K C ds xs
  | .dr a c => x = some (some (.ref a)) ∧ DrawOk K C H a c
structure At (K : PySem.W.Frag) (W : Addr → Prop) (B : Hp) (ρ : List Sl) (σ : St) (H : Hp) : Prop where
  kp : Sub B H
  wd : ∀ a, W a → ∃ o, B a = some o
  sl : ∀ (i : Nat) s, ρ[i]? = some s → SlOk K (cl (Av W ρ) H) H σ[i]? s
  ob : ∀ (i : Nat) s a, ρ[i]? = some s → s.addr = some a → B a = none
  oj : ∀ (i j : Nat) s t a, ρ[i]? = some s → ρ[j]? = some t → s.addr = some a → t.addr = some a → i = j
  len : σ.length = ρ.length
/-- all but the draws' states stays -/
def Dv (ρ : List Sl) (a : Addr) : Prop := ∃ c, Sl.dr a c ∈ ρ
def Gr (ρ : List Sl) (H H' : Hp) : Prop := ∀ a o, ¬ Dv ρ a → H a = some o → H' a = some o
theorem Gr.refl {ρ : List Sl} (H : Hp) : Gr ρ H H := fun _ _ _ h => h
theorem Gr.trans {ρ : List Sl} {H H1 H2 : Hp} (a : Gr ρ H H1) (b : Gr ρ H1 H2) : Gr ρ H H2 := fun x o n h => b x o n (a x o n h)
theorem Gr.of {ρ : List Sl} {H H' : Hp} (h : Sub H H') : Gr ρ H H' := fun a o _ e => h a o e
theorem dr_av {W : Addr → Prop} {ρ : List Sl} {a : Addr} (h : Dv ρ a) : Av W ρ a := let ⟨_, h⟩ := h; .inr ⟨_, h, rfl⟩
theorem Gr_cl {W : Addr → Prop} {ρ : List Sl} {H H' : Hp} (h : Gr ρ H H') : Sub (cl (Av W ρ) H) (cl (Av W ρ) H') :=
  cl_mono fun a o e n => ⟨h a o (fun z => n (dr_av z)) e, n⟩
theorem DrawOk.sub {K : PySem.W.Frag} {C C' H H' : Hp} {p c : Addr} (h : DrawOk K C H p c) (e : Sub C C') (e2 : H' p = H p) : DrawOk K C' H' p c := by
  obtain ⟨w, n, ns, h3, h4, h5⟩ := h
  exact ⟨w, n, ns, e _ _ h3, h4, e2.trans h5⟩
theorem SlOk.some {K : PySem.W.Frag} {C H : Hp} {x : Option (Option V)} {s : Sl} {a : Addr} (h : SlOk K C H x s) (e : s.addr = some a) : ∃ o, H a = some o := by
  cases s with
  | ol b ds => cases e; obtain ⟨_, xs, h2, _⟩ := h; exact ⟨_, h2⟩
  | od b ks ds => cases e; obtain ⟨_, xs, h2, _⟩ := h; exact ⟨_, h2⟩
  | dr b c => cases e; obtain ⟨_, _, _, _, _, _, h2⟩ := h; exact ⟨_, h2⟩
  | no => cases e
  | da _ => cases e
theorem mem_get {α : Type} {l : List α} {x : α} (h : x ∈ l) : ∃ i : Nat, l[i]? = some x := by
  obtain ⟨i, hi, e⟩ := List.getElem_of_mem h
  exact ⟨i, by simp [hi, e]⟩
section
variable {K : PySem.W.Frag} {W : Addr → Prop} {B : Hp} {ρ : List Sl} {σ : St} {H H' : Hp}
theorem At.av_dom (a : At K W B ρ σ H) {x : Addr} (h : Av W ρ x) : ∃ o, H x = some o := by
  rcases h with h | ⟨s, hs, e⟩
  · obtain ⟨o, h⟩ := a.wd x h
    exact ⟨o, a.kp x o h⟩
  · obtain ⟨i, hi⟩ := mem_get hs
    exact (a.sl i s hi).some e
theorem At.new_av (a : At K W B ρ σ H) {p : Addr} (h : H p = none) : ¬ Av W ρ p := fun z => by
  obtain ⟨o, e⟩ := a.av_dom z
  rw [h] at e; cases e
/-- the heap has grown -/
theorem At.grow (a : At K W B ρ σ H) (g : Sub H H') : At K W B ρ σ H' where
  kp := a.kp.trans g
  wd := a.wd
  sl := fun i s h => by
    have q := a.sl i s h
    have m : Sub (cl (Av W ρ) H) (cl (Av W ρ) H') := cl_grow g
    cases s with
    | no => trivial
    | da d => obtain ⟨v, h1, h2⟩ := q; exact ⟨v, h1, rep_sub m d v h2⟩
    | ol b ds => obtain ⟨h1, xs, h2, h3⟩ := q; exact ⟨h1, xs, g _ _ h2, reps_sub m ds xs h3⟩
    | od b ks ds => obtain ⟨h1, xs, h2, hl, h3⟩ := q; exact ⟨h1, xs, g _ _ h2, hl, reps_sub m ds xs h3⟩
    | dr b c =>
      obtain ⟨h1, h2⟩ := q
      have := h2
      obtain ⟨w, n, ns, _, _, h5⟩ := this
      exact ⟨h1, h2.sub m ((g _ _ h5).trans h5.symm)⟩
  ob := a.ob
  oj := a.oj
  len := a.len
/-- the base raised to all that is not owned -/
noncomputable def lift (ρ : List Sl) (H : Hp) : Hp := cl (Av (fun _ => False) ρ) H
theorem lift_own {s : Sl} {x : Addr} (hs : s ∈ ρ) (e : s.addr = some x) : lift ρ H x = none := by
  unfold lift cl
  rw [if_pos (.inr ⟨s, hs, e⟩)]
theorem At.rebase (a : At K W B ρ σ H) : At K W (lift ρ H) ρ σ H where
  kp := cl_sub
  wd := fun x h => by
    obtain ⟨o, e⟩ := a.wd x h
    refine ⟨o, cl_of (a.kp x o e) ?_⟩
    rintro (z | ⟨s, hs, z⟩)
    · exact z
    · obtain ⟨i, hi⟩ := mem_get hs
      rw [a.ob i s x hi z] at e; cases e
  sl := a.sl
  ob := fun i s x h e => lift_own (List.mem_of_getElem? h) e
  oj := a.oj
  len := a.len
theorem At.base_lift (a : At K W B ρ σ H) : Sub B (lift ρ H) := fun x o e => cl_of (a.kp x o e) (by
  rintro (z | ⟨s, hs, z⟩)
  · exact z
  · obtain ⟨i, hi⟩ := mem_get hs
    rw [a.ob i s x hi z] at e; cases e)
theorem At.unbase {ρ' : List Sl} {σ' : St} (a : At K W B ρ σ H) (b : At K W (lift ρ H) ρ' σ' H') : At K W B ρ' σ' H' where
  kp := a.base_lift.trans b.kp
  wd := a.wd
  sl := b.sl
  ob := fun i s x h e => by
    cases q : B x with
    | none => rfl
    | some o =>
      have := b.ob i s x h e
      rw [a.base_lift x o q] at this; cases this
  oj := b.oj
  len := b.len
/-- what is clean stays so, whatever becomes of the names -/
theorem At.later {ρ' : List Sl} {σ' : St} (b : At K W (lift ρ H) ρ' σ' H') : Sub (cl (Av W ρ) H) (cl (Av W ρ') H') := fun x o e => by
  obtain ⟨e1, n⟩ := of_cl e
  have q : lift ρ H x = some o := cl_of e1 (by
    rintro (z | z)
    · exact z
    · exact n (.inr z))
  refine cl_of (b.kp x o q) ?_
  rintro (z | ⟨s, hs, z⟩)
  · exact n (.inl z)
  · obtain ⟨i, hi⟩ := mem_get hs
    rw [b.ob i s x hi z] at q; cases q
end
end DL

namespace DL
open PySem PySem.Spec L2

def D.seq : D → Option (List D)
  | .fz ns => some (ns.map D.int)
  | .lst ds => some ds
  | .tup ds => some ds
  | _ => none
def Sl.look : Sl → Option D
  | .da d => some d
  | .ol _ ds => some (.lst ds)
  | .od _ ks ds => some (.dct ks ds)
  | _ => none
def Sl.seq : Sl → Option (List D)
  | .da d => d.seq
  | .ol _ ds => some ds
  | _ => none

abbrev DE := List Sl → (D → Prop) → Prop
abbrev DL := List Sl → (List D → Prop) → Prop
abbrev DT := List Sl → (Bool → Prop) → Prop
structure DEnds where
  nx : List Sl → Prop
  rt : D → List Sl → Prop
  bk : List Sl → Prop := fun _ => False
  ct : List Sl → Prop := fun _ => False
abbrev DS := DEnds → List Sl → Prop
abbrev DG := D → List Sl → (List Sl → Prop) → Prop

section
variable (K : PySem.W.Frag)
/-- clean: the value may be kept -/
def EOk (te : TE) (de : DE) : Prop := ∀ (W : Addr → Prop) (B : Hp) (ρ : List Sl) (σ : L2.St) (H : Hp) (k : D → Prop) (Q : VK), At K W B ρ σ H → de ρ k →
  (∀ d v H', At K W B ρ σ H' → Gr ρ H H' → rep K (cl (Av W ρ) H') d v → k d → Q v H') → te σ H Q
/-- borrowed: the value is only looked at -/
def BOk (te : TE) (de : DE) : Prop := ∀ (W : Addr → Prop) (B : Hp) (ρ : List Sl) (σ : L2.St) (H : Hp) (k : D → Prop) (Q : VK), At K W B ρ σ H → de ρ k →
  (∀ d v H', At K W B ρ σ H' → Gr ρ H H' → rep K (cl (Dv ρ) H') d v → k d → Q v H') → te σ H Q
/-- a sequence that is looked at, its items clean -/
def SeqV (H' : Hp) (W : Addr → Prop) (ρ : List Sl) (ds : List D) (v : V) : Prop := ∃ a xs, v = .ref a ∧ (SqL K (cl (Dv ρ) H') a xs ∨ SqT K (cl (Av W ρ) H') a xs) ∧ reps K (cl (Av W ρ) H') ds xs
def LOk (te : TE) (dl : DL) : Prop := ∀ (W : Addr → Prop) (B : Hp) (ρ : List Sl) (σ : L2.St) (H : Hp) (k : List D → Prop) (Q : VK), At K W B ρ σ H → dl ρ k →
  (∀ ds v H', At K W B ρ σ H' → Gr ρ H H' → SeqV K H' W ρ ds v → k ds → Q v H') → te σ H Q
/-- a new list -/
def FOk (te : TE) (dl : DL) : Prop := ∀ (W : Addr → Prop) (B : Hp) (ρ : List Sl) (σ : L2.St) (H : Hp) (k : List D → Prop) (Q : VK), At K W B ρ σ H → dl ρ k →
  (∀ ds p xs H', At K W B ρ σ H' → Gr ρ H H' → H p = none → H' p = some (.lst xs) → reps K (cl (fun a => Av W ρ a ∨ a = p) H') ds xs → k ds → Q (.ref p) H') → te σ H Q
def TOk (tt : TT) (dt : DT) : Prop := ∀ (W : Addr → Prop) (B : Hp) (ρ : List Sl) (σ : L2.St) (H : Hp) (k : Bool → Prop) (Q : Bool → Hp → Prop), At K W B ρ σ H → dt ρ k →
  (∀ b H', At K W B ρ σ H' → Gr ρ H H' → k b → Q b H') → tt σ H Q
def AOk (ta : TA) (da : DL) : Prop := ∀ (W : Addr → Prop) (B : Hp) (ρ : List Sl) (σ : L2.St) (H : Hp) (k : List D → Prop) (Q : List V → Hp → Prop), At K W B ρ σ H → da ρ k →
  (∀ ds vs H', At K W B ρ σ H' → Gr ρ H H' → reps K (cl (Av W ρ) H') ds vs → k ds → Q vs H') → ta σ H Q
def ABOk (ta : TA) (da : DL) : Prop := ∀ (W : Addr → Prop) (B : Hp) (ρ : List Sl) (σ : L2.St) (H : Hp) (k : List D → Prop) (Q : List V → Hp → Prop), At K W B ρ σ H → da ρ k →
  (∀ ds vs H', At K W B ρ σ H' → Gr ρ H H' → reps K (cl (Dv ρ) H') ds vs → k ds → Q vs H') → ta σ H Q
def SOk (ts : TS) (ds : DS) : Prop := ∀ (W : Addr → Prop) (B : Hp) (ρ : List Sl) (σ : L2.St) (H : Hp) (E : DEnds) (G : Ends), At K W B ρ σ H → ds E ρ →
  (∀ ρ' σ' H', At K W B ρ' σ' H' → E.nx ρ' → G.nx σ' H') →
  (∀ ρ' σ' H' d v, At K W B ρ' σ' H' → rep K (cl (Av W ρ') H') d v → E.rt d ρ' → G.rt v H') →
  (∀ ρ' σ' H', At K W B ρ' σ' H' → E.bk ρ' → G.bk σ' H') →
  (∀ ρ' σ' H', At K W B ρ' σ' H' → E.ct ρ' → G.ct σ' H') → ts G σ H
def GOk (g : TG) (dg : DG) : Prop := ∀ (W : Addr → Prop) (B : Hp) (ρ : List Sl) (σ : L2.St) (H : Hp) (d : D) (v : V) (nx : List Sl → Prop) (Q : L2.St → Hp → Prop), At K W B ρ σ H → rep K (cl (Av W ρ) H) d v → dg d ρ nx →
  (∀ ρ' σ', At K W B ρ' σ' H → nx ρ' → Q σ' H) → g v σ H Q
end

structure XE (X : Cx) (e : Expr) (te : TE) (de : DE) : Prop where
  pe : PE X e te
  ok : EOk X.K te de
structure XB (X : Cx) (e : Expr) (te : TE) (de : DE) : Prop where
  pe : PE X e te
  ok : BOk X.K te de
structure XL (X : Cx) (e : Expr) (te : TE) (dl : DL) : Prop where
  pe : PE X e te
  ok : LOk X.K te dl
structure XF (X : Cx) (e : Expr) (te : TE) (dl : DL) : Prop where
  pe : PE X e te
  ok : FOk X.K te dl
structure XT (X : Cx) (e : Expr) (tt : TT) (dt : DT) : Prop where
  pt : PT X e tt
  ok : TOk X.K tt dt
structure XW (X : Cx) (e : Expr) (tt : TT) (dt : DT) : Prop where
  pw : PW X e tt
  ok : TOk X.K tt dt
structure XA (X : Cx) (es : List Expr) (ta : TA) (da : DL) : Prop where
  pa : PA X es ta
  ok : AOk X.K ta da
structure XAB (X : Cx) (es : List Expr) (ta : TA) (da : DL) : Prop where
  pa : PA X es ta
  ok : ABOk X.K ta da
structure XS (X : Cx) (st : Stmt) (ts : TS) (ds : DS) : Prop where
  ps : PS X st ts
  ok : SOk X.K ts ds
structure XSs (X : Cx) (sts : List Stmt) (ts : TS) (ds : DS) : Prop where
  ps : PSs X sts ts
  ok : SOk X.K ts ds
structure XG (X : Cx) (tg : Expr) (g : TG) (dg : DG) : Prop where
  pg : PG X tg g
  ok : GOk X.K g dg

section
variable {K : PySem.W.Frag} {W : Addr → Prop} {B : Hp} {ρ : List Sl} {σ : L2.St} {H H' : Hp}
theorem av_dv {a : Addr} (h : Dv ρ a) : Av W ρ a := dr_av h
theorem cl_av_dv : Sub (cl (Av W ρ) H) (cl (Dv ρ) H) := cl_mono fun a o e n => ⟨e, fun z => n (av_dv z)⟩
theorem Gr_dv (h : Gr ρ H H') : Sub (cl (Dv ρ) H) (cl (Dv ρ) H') := cl_mono fun a o e n => ⟨h a o n e, n⟩
theorem EOk.b {te : TE} {de : DE} (h : EOk K te de) : BOk K te de := fun W B ρ σ H k Q a d c => h W B ρ σ H k Q a d fun d v H' a' g r q => c d v H' a' g (rep_sub cl_av_dv d v r) q
theorem AOk.b {ta : TA} {da : DL} (h : AOk K ta da) : ABOk K ta da := fun W B ρ σ H k Q a d c => h W B ρ σ H k Q a d fun d v H' a' g r q => c d v H' a' g (reps_sub cl_av_dv d v r) q
def deSc (de : DE) : DE := fun ρ k => de ρ fun d => d.sc = true ∧ k d
theorem BOk.sc {te : TE} {de : DE} (h : BOk K te de) : EOk K te (deSc de) := fun W B ρ σ H k Q a d c => h W B ρ σ H _ Q a d fun d v H' a' g r q => c d v H' a' g (rep_sc q.1 r) q.2
def deSeq (de : DE) : DL := fun ρ k => de ρ fun d => ∃ ds, d.seq = some ds ∧ k ds
theorem seq_rep {d : D} {ds : List D} {v : V} (e : d.seq = some ds) (r : rep K (cl (Av W ρ) H) d v) : SeqV K H W ρ ds v := by
  cases d with
  | fz ns => cases e; simp only [rep] at r; obtain ⟨a, h1, h2⟩ := r; exact ⟨a, _, h1, .inl (sl_sub cl_av_dv h2), ints_reps ns⟩
  | lst xs => cases e; obtain ⟨a, xs, h1, h2, h3⟩ := rep_lst r; exact ⟨a, xs, h1, .inl (.inl (.inl (cl_av_dv _ _ h2))), h3⟩
  | tup xs => cases e; obtain ⟨a, xs, h1, h2, h3⟩ := rep_tup r; exact ⟨a, xs, h1, .inr h2, h3⟩
  | _ => cases e
theorem EOk.l {te : TE} {de : DE} (h : EOk K te de) : LOk K te (deSeq de) := fun W B ρ σ H k Q a d c => h W B ρ σ H _ Q a d fun d v H' a' g r ⟨ds, e, q⟩ => c ds v H' a' g (seq_rep e r) q
def deLst (dl : DL) : DE := fun ρ k => dl ρ fun ds => k (.lst ds)
theorem FOk.e {te : TE} {dl : DL} (h : FOk K te dl) : EOk K te (deLst dl) := fun W B ρ σ H k Q a d c => h W B ρ σ H _ Q a d fun ds p xs H' a' g hp hp' r q =>
  c _ _ H' a' g (lst_rep (cl_of hp' (a.new_av hp)) (reps_sub (cl_mono fun b o e n => ⟨e, fun z => n (.inl z)⟩) ds xs r)) q
theorem FOk.l {te : TE} {dl : DL} (h : FOk K te dl) : LOk K te dl := fun W B ρ σ H k Q a d c => h W B ρ σ H _ Q a d fun ds p xs H' a' g hp hp' r q =>
  c _ _ H' a' g ⟨p, xs, rfl, .inl (.inl (.inl (cl_of hp' fun z => a.new_av hp (av_dv z)))), reps_sub (cl_mono fun b o e n => ⟨e, fun z => n (.inl z)⟩) ds xs r⟩ q
theorem SeqV.gr {ds : List D} {v : V} (h : SeqV K H W ρ ds v) (g : Gr ρ H H') : SeqV K H' W ρ ds v := by
  obtain ⟨a, xs, h1, h2, h3⟩ := h
  exact ⟨a, xs, h1, h2.imp (sl_sub (Gr_dv g)) (st_sub (Gr_cl g)), reps_sub (Gr_cl g) ds xs h3⟩
theorem SeqV.out {ds : List D} {v : V} (h : SeqV K H W ρ ds v) : ∃ a xs, v = .ref a ∧ (SqL K H a xs ∨ SqT K H a xs) ∧ reps K (cl (Av W ρ) H) ds xs := by
  obtain ⟨a, xs, h1, h2, h3⟩ := h
  exact ⟨a, xs, h1, h2.imp (sl_sub cl_sub) (st_sub cl_sub), h3⟩
end

section
variable {X : Cx} {ex : Expr} {te : TE} {de : DE} {dl : DL}
theorem XE.b (h : XE X ex te de) : XB X ex te de := ⟨h.pe, h.ok.b⟩
theorem XB.sc (h : XB X ex te de) : XE X ex te (deSc de) := ⟨h.pe, h.ok.sc⟩
theorem XE.l (h : XE X ex te de) : XL X ex te (deSeq de) := ⟨h.pe, h.ok.l⟩
theorem XF.e (h : XF X ex te dl) : XE X ex te (deLst dl) := ⟨h.pe, h.ok.e⟩
theorem XF.l (h : XF X ex te dl) : XL X ex te dl := ⟨h.pe, h.ok.l⟩

/-! ### names, constants -/
def dVar (i : Nat) : DE := fun ρ k => ∃ d, ρ[i]? = some (.da d) ∧ k d
def dBVar (i : Nat) : DE := fun ρ k => ∃ s d, ρ[i]? = some s ∧ s.look = some d ∧ k d
def dLVar (i : Nat) : DL := fun ρ k => ∃ s ds, ρ[i]? = some s ∧ s.seq = some ds ∧ k ds
theorem e_var {i : Nat} (h : PE X ex (tVar i)) : XE X ex (tVar i) (dVar i) := ⟨h, fun W B ρ σ H k Q a ⟨d, hd, q⟩ c => by
  obtain ⟨v, h1, h2⟩ := a.sl i _ hd
  exact ⟨v, h1, c d v H a (Gr.refl H) h2 q⟩⟩
theorem b_var {i : Nat} (h : PE X ex (tVar i)) : XB X ex (tVar i) (dBVar i) := ⟨h, fun W B ρ σ H k Q a ⟨s, d, hd, hl, q⟩ c => by
  have h0 := a.sl i _ hd
  cases s with
  | da d' => cases hl; obtain ⟨v, h1, h2⟩ := h0; exact ⟨v, h1, c d v H a (Gr.refl H) (rep_sub cl_av_dv d v h2) q⟩
  | ol b ds =>
    cases hl
    obtain ⟨h1, xs, h2, h3⟩ := h0
    refine ⟨_, h1, c _ _ H a (Gr.refl H) (lst_rep (cl_of h2 fun z => ?_) (reps_sub cl_av_dv ds xs h3)) q⟩
    obtain ⟨c', z⟩ := z
    obtain ⟨j, hj⟩ := mem_get z
    have := a.oj i j _ _ b hd hj rfl rfl
    subst this
    rw [hd] at hj; cases hj
  | od b ks ds =>
    cases hl
    obtain ⟨h1, xs, h2, hk, h3⟩ := h0
    refine ⟨_, h1, c _ _ H a (Gr.refl H) ?_ q⟩
    simp only [rep]
    refine ⟨b, xs, rfl, cl_of h2 fun z => ?_, hk, reps_sub cl_av_dv ds xs h3⟩
    obtain ⟨c', z⟩ := z
    obtain ⟨j, hj⟩ := mem_get z
    have := a.oj i j _ _ b hd hj rfl rfl
    subst this
    rw [hd] at hj; cases hj
  | no => cases hl
  | dr _ _ => cases hl⟩
theorem l_var {i : Nat} (h : PE X ex (tVar i)) : XL X ex (tVar i) (dLVar i) := ⟨h, fun W B ρ σ H k Q a ⟨s, ds, hd, hl, q⟩ c => by
  have h0 := a.sl i _ hd
  cases s with
  | da d' => obtain ⟨v, h1, h2⟩ := h0; exact ⟨v, h1, c ds v H a (Gr.refl H) (seq_rep hl h2) q⟩
  | ol b ds =>
    cases hl
    obtain ⟨h1, xs, h2, h3⟩ := h0
    refine ⟨_, h1, c _ _ H a (Gr.refl H) ⟨b, xs, rfl, .inl (.inl (.inl (cl_of h2 fun z => ?_))), h3⟩ q⟩
    obtain ⟨c', z⟩ := z
    obtain ⟨j, hj⟩ := mem_get z
    have := a.oj i j _ _ b hd hj rfl rfl
    subst this
    rw [hd] at hj; cases hj
  | od b ks ds => cases hl
  | no => cases hl
  | dr _ _ => cases hl⟩
def dC (d : D) : DE := fun _ k => k d
theorem c_int {i : Int} (h : PE X ex (tC (.int i))) : XE X ex (tC (.int i)) (dC (.int i)) := ⟨h, fun W B ρ σ H k Q a q c => c _ _ H a (Gr.refl H) int_rep q⟩
theorem c_bl {i : Bool} (h : PE X ex (tC (.bl i))) : XE X ex (tC (.bl i)) (dC (.bl i)) := ⟨h, fun W B ρ σ H k Q a q c => c _ _ H a (Gr.refl H) bl_rep q⟩
theorem c_str {i : Str} (h : PE X ex (tC (.str i))) : XE X ex (tC (.str i)) (dC (.str i)) := ⟨h, fun W B ρ σ H k Q a q c => c _ _ H a (Gr.refl H) str_rep q⟩
theorem c_non (h : PE X ex (tC .non)) : XE X ex (tC .non) (dC .non) := ⟨h, fun W B ρ σ H k Q a q c => c _ _ H a (Gr.refl H) non_rep q⟩
/-- a constant of the module: a tuple of ints -/
theorem c_tup {a : Addr} {ns : List Int} {its : List V} (h : PE X ex (tC (.ref a))) (hs : SqT X.K (fun _ => none) a (ns.map V.int)) : XE X ex (tC (.ref a)) (dC (.tup (ns.map D.int))) :=
  ⟨h, fun W B ρ σ H k Q at' q c => c _ _ H at' (Gr.refl H) (tup_rep (st_sub (fun _ _ z => by cases z) hs) (ints_reps ns)) q⟩
end
end DL

namespace DL
open PySem PySem.Spec L2

section
variable {X : Cx} {a b c : Expr} {ta tb tc : TE} {da db dc : DE} {pos : Pos}

/-- two borrowed values, then a reading of both -/
theorem two {K : PySem.W.Frag} {te te' : TE} {de de' : DE} (ha : BOk K te de) (hb : BOk K te' de') {W : Addr → Prop} {B : Hp} {ρ : List Sl} {σ : L2.St} {H : Hp} {k : D → D → Prop} {Q : V → V → Hp → Prop}
    (at' : At K W B ρ σ H) (d : de ρ fun x => de' ρ fun y => k x y)
    (q : ∀ x y v u H', At K W B ρ σ H' → Gr ρ H H' → rep K (cl (Dv ρ) H') x v → rep K (cl (Dv ρ) H') y u → k x y → Q v u H') : te σ H fun v H1 => te' σ H1 fun u H2 => Q v u H2 :=
  ha W B ρ σ H _ _ at' d fun x v H1 a1 g1 r1 k1 => hb W B ρ σ H1 _ _ a1 k1 fun y u H2 a2 g2 r2 k2 => q x y v u H2 a2 (g1.trans g2) (rep_sub (Gr_dv g2) x v r1) r2 k2

/-! ### ints -/
def dI (C : Int → Int → Prop) (g : Int → Int → D) (da db : DE) : DE := fun ρ k => da ρ fun x => db ρ fun y => ∃ i j, x = .int i ∧ y = .int j ∧ C i j ∧ k (g i j)
def dI0 (g : Int → Int → D) (da db : DE) : DE := fun ρ k => da ρ fun x => db ρ fun y => ∃ i j, x = .int i ∧ y = .int j ∧ k (g i j)
theorem okI {K : PySem.W.Frag} {C : Int → Int → Prop} {g : Int → Int → V} {g' : Int → Int → D} (hg : ∀ i j C', rep K C' (g' i j) (g i j)) (ha : BOk K ta da) (hb : BOk K tb db) : EOk K (tOp (rI C g) ta tb) (dI C g' da db) := fun W B ρ σ H k Q at' d q =>
  two ha hb at' d fun x y v u H' a' gr r1 r2 ⟨i, j, e1, e2, hc, kk⟩ => by
    subst e1; subst e2
    obtain rfl := rep_int r1
    obtain rfl := rep_int r2
    exact ⟨i, j, rfl, rfl, hc, q _ _ _ a' gr (hg i j _) kk⟩
theorem okI0 {K : PySem.W.Frag} {g : Int → Int → V} {g' : Int → Int → D} (hg : ∀ i j C', rep K C' (g' i j) (g i j)) (ha : BOk K ta da) (hb : BOk K tb db) : EOk K (tOp (rI0 g) ta tb) (dI0 g' da db) := fun W B ρ σ H k Q at' d q =>
  two ha hb at' d fun x y v u H' a' gr r1 r2 ⟨i, j, e1, e2, kk⟩ => by
    subst e1; subst e2
    obtain rfl := rep_int r1
    obtain rfl := rep_int r2
    exact ⟨i, j, rfl, rfl, q _ _ _ a' gr (hg i j _) kk⟩
theorem rI_int {K : PySem.W.Frag} {C : Hp} {i : Int} : rep K C (.int i) (.int i) := int_rep
abbrev gI (f : Int → Int → Int) : Int → Int → D := fun i j => .int (f i j)
abbrev gB (f : Int → Int → Bool) : Int → Int → D := fun i j => .bl (f i j)
theorem x_add (ha : XB X a ta da) (hb : XB X b tb db) : XE X (.BinOp a .Add b pos) (tOp (rI0 fun i j => .int (i + j)) ta tb) (dI0 (gI fun i j => i + j) da db) := ⟨pe_op op_add ha.pe hb.pe, okI0 (fun _ _ _ => int_rep) ha.ok hb.ok⟩
theorem x_sub (ha : XB X a ta da) (hb : XB X b tb db) : XE X (.BinOp a .Sub b pos) (tOp (rI0 fun i j => .int (i - j)) ta tb) (dI0 (gI fun i j => i - j) da db) := ⟨pe_op op_sub ha.pe hb.pe, okI0 (fun _ _ _ => int_rep) ha.ok hb.ok⟩
theorem x_mul (ha : XB X a ta da) (hb : XB X b tb db) : XE X (.BinOp a .Mult b pos) (tOp (rI CMul fun i j => .int (i * j)) ta tb) (dI CMul (gI fun i j => i * j) da db) := ⟨pe_op op_mul ha.pe hb.pe, okI (fun _ _ _ => int_rep) ha.ok hb.ok⟩
theorem x_xor (ha : XB X a ta da) (hb : XB X b tb db) : XE X (.BinOp a .BitXor b pos) (tOp (rI0 fun i j => .int (Builtin.bitXor i j)) ta tb) (dI0 (gI fun i j => Builtin.bitXor i j) da db) := ⟨pe_op op_xor ha.pe hb.pe, okI0 (fun _ _ _ => int_rep) ha.ok hb.ok⟩
theorem x_mod (ha : XB X a ta da) (hb : XB X b tb db) : XE X (.BinOp a .Mod b pos) (tOp (rI (fun _ j => j ≠ 0) fun i j => .int (i.fmod j)) ta tb) (dI (fun _ j => j ≠ 0) (gI fun i j => i.fmod j) da db) := ⟨pe_op op_modN ha.pe hb.pe, okI (fun _ _ _ => int_rep) ha.ok hb.ok⟩
theorem x_div (ha : XB X a ta da) (hb : XB X b tb db) : XE X (.BinOp a .FloorDiv b pos) (tOp (rI CDivW fun i j => .int (i / j)) ta tb) (dI CDivW (gI fun i j => i / j) da db) := ⟨pe_op op_fdivW ha.pe hb.pe, okI (fun _ _ _ => int_rep) ha.ok hb.ok⟩
theorem x_pow (ha : XB X a ta da) (hb : XB X b tb db) : XE X (.BinOp a .Pow b pos) (tOp (rI CPow fun i j => .int (i ^ j.toNat)) ta tb) (dI CPow (gI fun i j => i ^ j.toNat) da db) := ⟨pe_op op_pow ha.pe hb.pe, okI (fun _ _ _ => int_rep) ha.ok hb.ok⟩
theorem x_shl (ha : XB X a ta da) (hb : XB X b tb db) : XE X (.BinOp a .LShift b pos) (tOp (rI CPow fun i j => .int (i * 2 ^ j.toNat)) ta tb) (dI CPow (gI fun i j => i * 2 ^ j.toNat) da db) := ⟨pe_op op_shl ha.pe hb.pe, okI (fun _ _ _ => int_rep) ha.ok hb.ok⟩
theorem x_neg (ha : XB X a ta da) : XE X (.UnaryOp .USub a pos) (tUn (rU fun i => .int (-i)) ta) (fun ρ k => da ρ fun x => ∃ i, x = .int i ∧ k (.int (-i))) := ⟨pe_un un_neg ha.pe, fun W B ρ σ H k Q at' d q => ha.ok W B ρ σ H _ _ at' d fun x v H' a' gr r ⟨i, e, kk⟩ => by
  subst e
  obtain rfl := rep_int r
  exact ⟨i, rfl, q _ _ _ a' gr int_rep kk⟩⟩

/-! ### comparisons of ints, as values and as tests -/
def dTest (de : DE) : DT := fun ρ k => de ρ fun d => ∃ b, d = .bl b ∧ k b
theorem okTest {K : PySem.W.Frag} {te : TE} {de : DE} (h : BOk K te de) : TOk K (tTest te) (dTest de) := fun W B ρ σ H k Q at' d q => h W B ρ σ H _ _ at' d fun x v H' a' gr r ⟨b, e, kk⟩ => by
  subst e
  obtain rfl := rep_bl r
  exact ⟨b, rfl, q b H' a' gr kk⟩
theorem okB {K : PySem.W.Frag} {te : TE} {de : DE} (h : BOk K te de) : TOk K (tB te) (dTest de) := fun W B ρ σ H k Q at' d q => h W B ρ σ H _ _ at' d fun x v H' a' gr r ⟨b, e, kk⟩ => by
  subst e
  obtain rfl := rep_bl r
  exact ⟨b, rfl, q b H' a' gr kk⟩
abbrev dCmp (f : Int → Int → Bool) : DE → DE → DE := dI0 (gB f)
theorem x_lt (ha : XB X a ta da) (hb : XB X b tb db) : XE X (.Compare a [.Lt] [b] pos) (tOp (rI0 fun i j => .bl (decide (i < j))) ta tb) (dCmp (fun i j => decide (i < j)) da db) := ⟨pe_cmpR op_lt ha.pe hb.pe (nomark _), okI0 (fun _ _ _ => bl_rep) ha.ok hb.ok⟩
theorem x_le (ha : XB X a ta da) (hb : XB X b tb db) : XE X (.Compare a [.LtE] [b] pos) (tOp (rI0 fun i j => .bl (decide (i ≤ j))) ta tb) (dCmp (fun i j => decide (i ≤ j)) da db) := ⟨pe_cmpR op_le ha.pe hb.pe (nomark _), okI0 (fun _ _ _ => bl_rep) ha.ok hb.ok⟩
theorem x_gt (ha : XB X a ta da) (hb : XB X b tb db) : XE X (.Compare a [.Gt] [b] pos) (tOp (rI0 fun i j => .bl (decide (j < i))) ta tb) (dCmp (fun i j => decide (j < i)) da db) := ⟨pe_cmpR op_gt ha.pe hb.pe (nomark _), okI0 (fun _ _ _ => bl_rep) ha.ok hb.ok⟩
theorem x_ge (ha : XB X a ta da) (hb : XB X b tb db) : XE X (.Compare a [.GtE] [b] pos) (tOp (rI0 fun i j => .bl (decide (j ≤ i))) ta tb) (dCmp (fun i j => decide (j ≤ i)) da db) := ⟨pe_cmpR op_ge ha.pe hb.pe (nomark _), okI0 (fun _ _ _ => bl_rep) ha.ok hb.ok⟩
theorem t_lt (ha : XB X a ta da) (hb : XB X b tb db) : XT X (.Compare a [.Lt] [b] pos) (tTest (tOp (rI0 fun i j => .bl (decide (i < j))) ta tb)) (dTest (dCmp (fun i j => decide (i < j)) da db)) := ⟨pt_cmpR op_lt ha.pe hb.pe (nomark _), okTest (okI0 (fun _ _ _ => bl_rep) ha.ok hb.ok).b⟩
theorem t_le (ha : XB X a ta da) (hb : XB X b tb db) : XT X (.Compare a [.LtE] [b] pos) (tTest (tOp (rI0 fun i j => .bl (decide (i ≤ j))) ta tb)) (dTest (dCmp (fun i j => decide (i ≤ j)) da db)) := ⟨pt_cmpR op_le ha.pe hb.pe (nomark _), okTest (okI0 (fun _ _ _ => bl_rep) ha.ok hb.ok).b⟩
theorem t_gt (ha : XB X a ta da) (hb : XB X b tb db) : XT X (.Compare a [.Gt] [b] pos) (tTest (tOp (rI0 fun i j => .bl (decide (j < i))) ta tb)) (dTest (dCmp (fun i j => decide (j < i)) da db)) := ⟨pt_cmpR op_gt ha.pe hb.pe (nomark _), okTest (okI0 (fun _ _ _ => bl_rep) ha.ok hb.ok).b⟩
theorem t_ge (ha : XB X a ta da) (hb : XB X b tb db) : XT X (.Compare a [.GtE] [b] pos) (tTest (tOp (rI0 fun i j => .bl (decide (j ≤ i))) ta tb)) (dTest (dCmp (fun i j => decide (j ≤ i)) da db)) := ⟨pt_cmpR op_ge ha.pe hb.pe (nomark _), okTest (okI0 (fun _ _ _ => bl_rep) ha.ok hb.ok).b⟩

/-! ### == and != at any depth -/
mutual
def D.py : D → PyData
  | .non => .none
  | .bl b => .bool b
  | .int i => .int i
  | .str s => .str s
  | .fz ns => .list (ns.map PyData.int)
  | .lst ds => .list (D.pys ds)
  | .tup ds => .tuple (D.pys ds)
  | .dct _ _ => .dict []
def D.pys : List D → List PyData
  | [] => []
  | d :: ds => d.py :: D.pys ds
end
mutual
/-- plain data of a depth -/
def D.pl : Nat → D → Bool
  | _, .non => true
  | _, .bl _ => true
  | _, .int _ => true
  | _, .str s => PyData.strOk s
  | 0, _ => false
  | n + 1, .fz _ => true
  | n + 1, .lst ds => D.pls n ds
  | n + 1, .tup ds => D.pls n ds
  | n + 1, .dct _ _ => false
def D.pls : Nat → List D → Bool
  | _, [] => true
  | n, d :: ds => d.pl n && D.pls n ds
end
theorem ints_Dp {K : PySem.W.Frag} {H : Hp} : ∀ ns : List Int, DpAll K H (ns.map V.int) (ns.map PyData.int)
  | [] => .nil
  | n :: ns => .cons (.int n) (ints_Dp ns)
mutual
theorem rep_Dp {K : PySem.W.Frag} {C H : Hp} (s : Sub C H) : ∀ (d : D) (n : Nat) (v : V), d.pl n = true → rep K C d v → Dp K H v d.py
  | .non, n, v, h, r => by obtain rfl := rep_non r; unfold D.py; exact .non
  | .bl b, n, v, h, r => by obtain rfl := rep_bl r; unfold D.py; exact .bl b
  | .int i, n, v, h, r => by obtain rfl := rep_int r; unfold D.py; exact .int i
  | .str x, n, v, h, r => by obtain rfl := rep_str r; unfold D.py; exact .str x
  | .fz ns, n, v, h, r => by
    simp only [rep] at r
    obtain ⟨a, rfl, h2⟩ := r
    unfold D.py
    exact .lst (sl_sub s h2) (ints_Dp ns)
  | .lst ds, n, v, h, r => by
    obtain ⟨a, xs, rfl, h2, h3⟩ := rep_lst r
    cases n with
    | zero => simp [D.pl] at h
    | succ n => unfold D.py; exact .lst (.inl (.inl (s _ _ h2))) (reps_Dp s ds n xs (by simpa [D.pl] using h) h3)
  | .tup ds, n, v, h, r => by
    obtain ⟨a, xs, rfl, h2, h3⟩ := rep_tup r
    cases n with
    | zero => simp [D.pl] at h
    | succ n => unfold D.py; exact .tup (st_sub s h2) (reps_Dp s ds n xs (by simpa [D.pl] using h) h3)
  | .dct _ _, n, v, h, r => by cases n <;> simp [D.pl] at h
theorem reps_Dp {K : PySem.W.Frag} {C H : Hp} (s : Sub C H) : ∀ (ds : List D) (n : Nat) (xs : List V), D.pls n ds = true → reps K C ds xs → DpAll K H xs (D.pys ds)
  | [], n, xs, h, r => by simp only [reps] at r; subst r; unfold D.pys; exact .nil
  | d :: ds, n, xs, h, r => by
    simp only [reps] at r
    obtain ⟨x, r, rfl, h2, h3⟩ := r
    have h' : d.pl n = true ∧ D.pls n ds = true := by simpa [D.pls] using h
    unfold D.pys
    exact .cons (rep_Dp s d n x h'.1 h2) (reps_Dp s ds n r h'.2 h3)
end
theorem ints_lay : ∀ ns : List Int, PyData.canLayAll0 (ns.map PyData.int) = true
  | [] => by simp [PyData.canLayAll0]
  | n :: ns => by simp [PyData.canLayAll0, PyData.canLay0, ints_lay ns]
theorem ints_depth : ∀ ns : List Int, PyData.depthAll (ns.map PyData.int) = 0
  | [] => by simp [PyData.depthAll]
  | n :: ns => by simp [PyData.depthAll, PyData.depth, ints_depth ns]
mutual
theorem pl_shaped : ∀ (d : D) (n : Nat), d.pl n = true → d.py.canLay0 = true ∧ d.py.depth ≤ n
  | .non, n, h => by simp [D.py, PyData.canLay0, PyData.depth]
  | .bl b, n, h => by simp [D.py, PyData.canLay0, PyData.depth]
  | .int i, n, h => by simp [D.py, PyData.canLay0, PyData.depth]
  | .str x, n, h => by simpa [D.py, PyData.canLay0, PyData.depth, D.pl] using h
  | .fz ns, n, h => by
    cases n with
    | zero => simp [D.pl] at h
    | succ n => simp [D.py, PyData.canLay0, PyData.depth, ints_lay, ints_depth]
  | .lst ds, n, h => by
    cases n with
    | zero => simp [D.pl] at h
    | succ n =>
      have := pls_shaped ds n (by simpa [D.pl] using h)
      simp only [D.py, PyData.canLay0, PyData.depth]
      exact ⟨this.1, Nat.succ_le_succ this.2⟩
  | .tup ds, n, h => by
    cases n with
    | zero => simp [D.pl] at h
    | succ n =>
      have := pls_shaped ds n (by simpa [D.pl] using h)
      simp only [D.py, PyData.canLay0, PyData.depth]
      exact ⟨this.1, Nat.succ_le_succ this.2⟩
  | .dct _ _, n, h => by cases n <;> simp [D.pl] at h
theorem pls_shaped : ∀ (ds : List D) (n : Nat), D.pls n ds = true → PyData.canLayAll0 (D.pys ds) = true ∧ PyData.depthAll (D.pys ds) ≤ n
  | [], n, h => by simp [D.pys, PyData.canLayAll0, PyData.depthAll]
  | d :: ds, n, h => by
    have h' : d.pl n = true ∧ D.pls n ds = true := by simpa [D.pls] using h
    have h1 := pl_shaped d n h'.1
    have h2 := pls_shaped ds n h'.2
    simp only [D.pys, PyData.canLayAll0, PyData.depthAll, Bool.and_eq_true]
    exact ⟨⟨h1.1, h2.1⟩, Nat.max_le.mpr ⟨h1.2, h2.2⟩⟩
end
theorem shaped_of {d : D} (h : d.pl 60 = true) : SeqAt.shaped d.py = true := by
  obtain ⟨h1, h2⟩ := pl_shaped d 60 h
  unfold SeqAt.shaped
  rw [h1, Bool.true_and]
  exact decide_eq_true (by omega)
def D.eqv (x y : D) : Bool := PyData.eqv x.py y.py
def dEq (n : Bool) (da db : DE) : DE := fun ρ k => da ρ fun x => db ρ fun y => x.pl 60 = true ∧ y.pl 60 = true ∧ k (.bl (n ^^ D.eqv x y))
theorem okEq {K : PySem.W.Frag} (ha : BOk K ta da) (hb : BOk K tb db) : EOk K (tOp (rEqD K) ta tb) (dEq false da db) := fun W B ρ σ H k Q at' d q =>
  two ha hb at' d fun x y v u H' a' gr r1 r2 ⟨h1, h2, kk⟩ => ⟨x.py, y.py, rep_Dp cl_sub x 60 v h1 r1, rep_Dp cl_sub y 60 u h2 r2, shaped_of h1, shaped_of h2, q _ _ _ a' gr bl_rep (by simpa [D.eqv] using kk)⟩
theorem okNe {K : PySem.W.Frag} (ha : BOk K ta da) (hb : BOk K tb db) : EOk K (tOp (rNeD K) ta tb) (dEq true da db) := fun W B ρ σ H k Q at' d q =>
  two ha hb at' d fun x y v u H' a' gr r1 r2 ⟨h1, h2, kk⟩ => ⟨x.py, y.py, rep_Dp cl_sub x 60 v h1 r1, rep_Dp cl_sub y 60 u h2 r2, shaped_of h1, shaped_of h2, q _ _ _ a' gr bl_rep (by simpa [D.eqv] using kk)⟩
theorem x_eq (hu : X.A.units + 64 < cLine) (ha : XB X a ta da) (hb : XB X b tb db) : XE X (.Compare a [.Eq] [b] pos) (tOp (rEqD X.K) ta tb) (dEq false da db) := ⟨pe_cmpR (op_eqD hu) ha.pe hb.pe (nomark _), okEq ha.ok hb.ok⟩
theorem x_ne (hu : X.A.units + 64 < cLine) (ha : XB X a ta da) (hb : XB X b tb db) : XE X (.Compare a [.NotEq] [b] pos) (tOp (rNeD X.K) ta tb) (dEq true da db) := ⟨pe_cmpR (op_neD hu) ha.pe hb.pe (nomark _), okNe ha.ok hb.ok⟩
theorem t_eq (hu : X.A.units + 64 < cLine) (ha : XB X a ta da) (hb : XB X b tb db) : XT X (.Compare a [.Eq] [b] pos) (tTest (tOp (rEqD X.K) ta tb)) (dTest (dEq false da db)) := ⟨pt_cmpR (op_eqD hu) ha.pe hb.pe (nomark _), okTest (okEq ha.ok hb.ok).b⟩
theorem t_ne (hu : X.A.units + 64 < cLine) (ha : XB X a ta da) (hb : XB X b tb db) : XT X (.Compare a [.NotEq] [b] pos) (tTest (tOp (rNeD X.K) ta tb)) (dTest (dEq true da db)) := ⟨pt_cmpR (op_neD hu) ha.pe hb.pe (nomark _), okTest (okNe ha.ok hb.ok).b⟩

/-! ### a op b op c of ints -/
def dChain (f g : Int → Int → Bool) (da db dc : DE) : DE := fun ρ k => da ρ fun x => db ρ fun y => ∃ i j, x = .int i ∧ y = .int j ∧ if f i j = true then dc ρ fun z => ∃ l, z = .int l ∧ k (.bl (g j l)) else k (.bl false)
theorem okChain {K : PySem.W.Frag} {f g : Int → Int → Bool} (ha : BOk K ta da) (hb : BOk K tb db) (hc : BOk K tc dc) : EOk K (tChain (rI0 fun i j => .bl (f i j)) (rI0 fun i j => .bl (g i j)) ta tb tc) (dChain f g da db dc) := fun W B ρ σ H k Q at' d q =>
  two ha hb at' d fun x y v u H' a' gr r1 r2 ⟨i, j, e1, e2, kk⟩ => by
    subst e1; subst e2
    obtain rfl := rep_int r1
    obtain rfl := rep_int r2
    refine ⟨i, j, rfl, rfl, f i j, rfl, ?_⟩
    split
    · rename_i hf
      rw [if_pos hf] at kk
      exact hc W B ρ σ H' _ _ a' kk fun z w H2 a2 g2 r3 ⟨l, e3, k3⟩ => by
        subst e3
        obtain rfl := rep_int r3
        exact ⟨j, l, rfl, rfl, q _ _ _ a2 (gr.trans g2) bl_rep k3⟩
    · rename_i hf
      rw [if_neg hf] at kk
      exact q _ _ _ a' gr bl_rep kk
theorem x_chain {op op' : CmpOp} {f g : Int → Int → Bool} (ho : OpR X (compareOp op) (rI0 fun i j => .bl (f i j))) (ho' : OpR X (compareOp op') (rI0 fun i j => .bl (g i j))) (ha : XB X a ta da) (hb : XB X b tb db) (hc : XB X c tc dc)
    (hm : lastMarks [op, op'] [b, c] = false := by with_unfolding_all rfl) : XE X (.Compare a [op, op'] [b, c] pos) (tChain (rI0 fun i j => .bl (f i j)) (rI0 fun i j => .bl (g i j)) ta tb tc) (dChain f g da db dc) := ⟨pe_chain ho ho' ha.pe hb.pe hc.pe hm, okChain ha.ok hb.ok hc.ok⟩
theorem t_chain {op op' : CmpOp} {f g : Int → Int → Bool} (ho : OpR X (compareOp op) (rI0 fun i j => .bl (f i j))) (ho' : OpR X (compareOp op') (rI0 fun i j => .bl (g i j))) (ha : XB X a ta da) (hb : XB X b tb db) (hc : XB X c tc dc)
    (hm : lastMarks [op, op'] [b, c] = false := by with_unfolding_all rfl) : XT X (.Compare a [op, op'] [b, c] pos) (tTest (tChain (rI0 fun i j => .bl (f i j)) (rI0 fun i j => .bl (g i j)) ta tb tc)) (dTest (dChain f g da db dc)) := ⟨pt_chain ho ho' ha.pe hb.pe hc.pe hm, okTest (okChain ha.ok hb.ok hc.ok).b⟩

/-! ### tests, and, or, not -/
theorem t_val {e : Expr} {te : TE} {de : DE} (h : XB X e te de) (he : ∀ whole, isTrue e X.env whole = (do let v ← whole; standAt e.pos; holding [v] (truthy v)) := by intro _; rfl) : XT X e (tB te) (dTest de) := ⟨pt_val h.pe he, okB h.ok⟩
def dNot (dt : DT) : DT := fun ρ k => dt ρ fun b => k (!b)
theorem t_not {e : Expr} {tt : TT} {dt : DT} (h : XT X e tt dt) : XT X (.UnaryOp .Not e pos) (tNot tt) (dNot dt) := ⟨pt_not h.pt, fun W B ρ σ H k Q at' d q => h.ok W B ρ σ H _ _ at' d fun b H' a' gr kk => q (!b) H' a' gr kk⟩
def dAnd (dt du : DT) : DT := fun ρ k => dt ρ fun b => if b = true then du ρ k else k false
def dOr (dt du : DT) : DT := fun ρ k => dt ρ fun b => if b = true then k true else du ρ k
theorem okAnd {K : PySem.W.Frag} {t u : TT} {dt du : DT} (h : TOk K t dt) (h' : TOk K u du) : TOk K (tAnd t u) (dAnd dt du) := fun W B ρ σ H k Q at' d q => h W B ρ σ H _ _ at' d fun b H' a' gr kk => by
  cases b with
  | true => exact iteT (h' W B ρ σ H' _ _ a' (by simpa using kk) fun b H2 a2 g2 k2 => q b H2 a2 (gr.trans g2) k2)
  | false => exact iteF (q false H' a' gr (by simpa using kk))
theorem okOr {K : PySem.W.Frag} {t u : TT} {dt du : DT} (h : TOk K t dt) (h' : TOk K u du) : TOk K (tOr t u) (dOr dt du) := fun W B ρ σ H k Q at' d q => h W B ρ σ H _ _ at' d fun b H' a' gr kk => by
  cases b with
  | false => exact iteF (h' W B ρ σ H' _ _ a' (by simpa using kk) fun b H2 a2 g2 k2 => q b H2 a2 (gr.trans g2) k2)
  | true => exact iteT (q true H' a' gr (by simpa using kk))
theorem w_and1 {e : Expr} {tt : TT} {dt : DT} (h : XT X e tt dt) : XW X (.BoolOp .And [e] pos) tt dt := ⟨pw_and1 h.pt, h.ok⟩
theorem w_or1 {e : Expr} {tt : TT} {dt : DT} (h : XT X e tt dt) : XW X (.BoolOp .Or [e] pos) tt dt := ⟨pw_or1 h.pt, h.ok⟩
theorem w_and {e f : Expr} {r : List Expr} {tt tu : TT} {dt du : DT} (h : XT X e tt dt) (h' : XW X (.BoolOp .And (f :: r) pos) tu du) : XW X (.BoolOp .And (e :: f :: r) pos) (tAnd tt tu) (dAnd dt du) := ⟨pw_and h.pt h'.pw, okAnd h.ok h'.ok⟩
theorem w_or {e f : Expr} {r : List Expr} {tt tu : TT} {dt du : DT} (h : XT X e tt dt) (h' : XW X (.BoolOp .Or (f :: r) pos) tu du) : XW X (.BoolOp .Or (e :: f :: r) pos) (tOr tt tu) (dOr dt du) := ⟨pw_or h.pt h'.pw, okOr h.ok h'.ok⟩
theorem XW.t {e : Expr} {tt : TT} {dt : DT} (h : XW X e tt dt) : XT X e tt dt := ⟨h.pw.pt, h.ok⟩
/-! and, or, not as values: all but the last truths -/
def dAndV (da db : DE) : DE := fun ρ k => da ρ fun x => ∃ b, x = .bl b ∧ if b = true then db ρ k else k (.bl false)
def dOrV (da db : DE) : DE := fun ρ k => da ρ fun x => ∃ b, x = .bl b ∧ if b = true then k (.bl true) else db ρ k
def dNotV (da : DE) : DE := fun ρ k => da ρ fun x => ∃ b, x = .bl b ∧ k (.bl (!b))
theorem x_one {op : BoolOp} {e : Expr} {te : TE} {de : DE} (h : XE X e te de) : XE X (.BoolOp op [e] pos) te de := ⟨pe_one h.pe, h.ok⟩
theorem x_and {e f : Expr} {r : List Expr} {te tf : TE} {de df : DE} (h : XB X e te de) (h' : XE X (.BoolOp .And (f :: r) pos) tf df) : XE X (.BoolOp .And (e :: f :: r) pos) (tAndV te tf) (dAndV de df) := ⟨pe_and h.pe h'.pe, fun W B ρ σ H k Q at' d q =>
  h.ok W B ρ σ H _ _ at' d fun x v H' a' gr r ⟨b, e, kk⟩ => by
    subst e
    obtain rfl := rep_bl r
    refine ⟨b, rfl, ?_⟩
    cases b with
    | true => exact iteT (h'.ok W B ρ σ H' _ _ a' (by simpa using kk) fun x v H2 a2 g2 r2 k2 => q x v H2 a2 (gr.trans g2) r2 k2)
    | false => exact iteF (q _ _ H' a' gr bl_rep (by simpa using kk))⟩
theorem x_or {e f : Expr} {r : List Expr} {te tf : TE} {de df : DE} (h : XB X e te de) (h' : XE X (.BoolOp .Or (f :: r) pos) tf df) : XE X (.BoolOp .Or (e :: f :: r) pos) (tOrV te tf) (dOrV de df) := ⟨pe_or h.pe h'.pe, fun W B ρ σ H k Q at' d q =>
  h.ok W B ρ σ H _ _ at' d fun x v H' a' gr r ⟨b, e, kk⟩ => by
    subst e
    obtain rfl := rep_bl r
    refine ⟨b, rfl, ?_⟩
    cases b with
    | false => exact iteF (h'.ok W B ρ σ H' _ _ a' (by simpa using kk) fun x v H2 a2 g2 r2 k2 => q x v H2 a2 (gr.trans g2) r2 k2)
    | true => exact iteT (q _ _ H' a' gr bl_rep (by simpa using kk))⟩
theorem x_not {e : Expr} {te : TE} {de : DE} (h : XB X e te de) : XE X (.UnaryOp .Not e pos) (tNotV te) (dNotV de) := ⟨pe_not h.pe, fun W B ρ σ H k Q at' d q =>
  h.ok W B ρ σ H _ _ at' d fun x v H' a' gr r ⟨b, e, kk⟩ => by
    subst e
    obtain rfl := rep_bl r
    exact ⟨b, rfl, q _ _ H' a' gr bl_rep kk⟩⟩
def dIfE (dt : DT) (da db : DE) : DE := fun ρ k => dt ρ fun b => if b = true then da ρ k else db ρ k
theorem x_if {e : Expr} {tt : TT} {dt : DT} (h : XT X e tt dt) (ha : XE X a ta da) (hb : XE X b tb db) : XE X (.IfExp e a b pos) (tIf tt ta tb) (dIfE dt da db) := ⟨pe_ifExp h.pt ha.pe hb.pe, fun W B ρ σ H k Q at' d q =>
  h.ok W B ρ σ H _ _ at' d fun b H' a' gr kk => by
    cases b with
    | true => exact iteT (ha.ok W B ρ σ H' _ _ a' (by simpa using kk) fun x v H2 a2 g2 r2 k2 => q x v H2 a2 (gr.trans g2) r2 k2)
    | false => exact iteF (hb.ok W B ρ σ H' _ _ a' (by simpa using kk) fun x v H2 a2 g2 r2 k2 => q x v H2 a2 (gr.trans g2) r2 k2)⟩

/-! ### argument lists, displays -/
def dNil : DL := fun _ k => k []
def dCons (de : DE) (dl : DL) : DL := fun ρ k => de ρ fun x => dl ρ fun xs => k (x :: xs)
theorem a_nil : XA X [] tNil dNil := ⟨pa_nil, fun W B ρ σ H k Q at' d q => q [] [] H at' (Gr.refl H) reps_nil d⟩
theorem a_cons {e : Expr} {es : List Expr} {te : TE} {t : TA} {de : DE} {dl : DL} (h : XE X e te de) (h' : XA X es t dl) (hs : starEach (e :: es) X.env = (false, eval e X.env) :: starEach es X.env := by rfl) : XA X (e :: es) (tCons te t) (dCons de dl) :=
  ⟨pa_cons h.pe h'.pa hs, fun W B ρ σ H k Q at' d q => h.ok W B ρ σ H _ _ at' d fun x v H1 a1 g1 r1 k1 => h'.ok W B ρ σ H1 _ _ a1 k1 fun xs vs H2 a2 g2 r2 k2 => q (x :: xs) (v :: vs) H2 a2 (g1.trans g2) (reps_cons (rep_sub (Gr_cl g2) x v r1) r2) k2⟩
theorem ab_nil : XAB X [] tNil dNil := ⟨pa_nil, fun W B ρ σ H k Q at' d q => q [] [] H at' (Gr.refl H) reps_nil d⟩
theorem ab_cons {e : Expr} {es : List Expr} {te : TE} {t : TA} {de : DE} {dl : DL} (h : XB X e te de) (h' : XAB X es t dl) (hs : starEach (e :: es) X.env = (false, eval e X.env) :: starEach es X.env := by rfl) : XAB X (e :: es) (tCons te t) (dCons de dl) :=
  ⟨pa_cons h.pe h'.pa hs, fun W B ρ σ H k Q at' d q => h.ok W B ρ σ H _ _ at' d fun x v H1 a1 g1 r1 k1 => h'.ok W B ρ σ H1 _ _ a1 k1 fun xs vs H2 a2 g2 r2 k2 => q (x :: xs) (v :: vs) H2 a2 (g1.trans g2) (reps_cons (rep_sub (Gr_dv g2) x v r1) r2) k2⟩
/-- a new object -/
theorem At.alloc {K : PySem.W.Frag} {W : Addr → Prop} {B : Hp} {ρ : List Sl} {σ : L2.St} {H : Hp} {p : Addr} {o : HO} (at' : At K W B ρ σ H) (h : H p = none) : At K W B ρ σ (upd H p o) := at'.grow (Sub.new h)
theorem cl_new {W : Addr → Prop} {ρ : List Sl} {H : Hp} {p : Addr} {o : HO} (h : H p = none) (n : ¬ Av W ρ p) : cl (Av W ρ) (upd H p o) p = some o := cl_of upd_same n
def dTup (dl : DL) : DE := fun ρ k => dl ρ fun ds => ds.length ≤ 10000000 ∧ k (.tup ds)
theorem sl7 {n : Nat} (h : n ≤ 10000000) : n ≤ sizeLine := Nat.le_trans h (by rw [sizeLine_eq]; decide)
theorem x_tup {es : List Expr} {x1} {t : TA} {dl : DL} (h : XA X es t dl) : XE X (.Tuple es x1 pos) (tTup t) (dTup dl) := ⟨pe_tup h.pa, fun W B ρ σ H k Q at' d q => h.ok W B ρ σ H _ _ at' d fun ds vs H1 a1 g1 r1 ⟨hl, k1⟩ =>
  ⟨by rw [reps_len r1]; exact sl7 hl, fun p hp => q _ _ _ (a1.alloc hp) (g1.trans (Gr.of (Sub.new hp))) (tup_rep (.inl (.inl (cl_new hp (a1.new_av hp)))) (reps_sub (cl_grow (Sub.new hp)) ds vs r1)) k1⟩⟩
def dLst (dl : DL) : DL := fun ρ k => dl ρ fun ds => ds.length ≤ 10000000 ∧ k ds
theorem cl_more {W : Addr → Prop} {ρ : List Sl} {H : Hp} {p : Addr} {o : HO} (h : H p = none) : Sub (cl (Av W ρ) H) (cl (fun a => Av W ρ a ∨ a = p) (upd H p o)) := cl_mono fun a u e n => by
  have np : a ≠ p := ne_of_none e h
  exact ⟨by rw [upd_ne np]; exact e, fun z => z.elim n np⟩
theorem f_lst {es : List Expr} {t : TA} {dl : DL} (h : XA X es t dl) : XF X (.List es pos) (tLst t) (dLst dl) := ⟨pe_lst h.pa, fun W B ρ σ H k Q at' d q => h.ok W B ρ σ H _ _ at' d fun ds vs H1 a1 g1 r1 ⟨hl, k1⟩ =>
  ⟨by rw [reps_len r1]; exact sl7 hl, fun p hp => q ds p vs _ (a1.alloc hp) (g1.trans (Gr.of (Sub.new hp))) (by
    cases e : H p with
    | none => rfl
    | some o =>
      by_cases z : Dv ρ p
      · obtain ⟨u, hu⟩ := a1.av_dom (W := W) (dr_av z)
        rw [hp] at hu; cases hu
      · rw [g1 p o z e] at hp; cases hp) upd_same (reps_sub (cl_more hp) ds vs r1) k1⟩⟩
/-- a heap that has grown: what is new now was new then -/
theorem Gr.back {K : PySem.W.Frag} {W : Addr → Prop} {B : Hp} {ρ : List Sl} {σ : L2.St} {H H1 : Hp} {p : Addr} (a1 : At K W B ρ σ H1) (g : Gr ρ H H1) (hp : H1 p = none) : H p = none := by
  cases e : H p with
  | none => rfl
  | some o =>
    by_cases z : Dv ρ p
    · obtain ⟨u, hu⟩ := a1.av_dom (dr_av z)
      rw [hp] at hu; cases hu
    · rw [g p o z e] at hp; cases hp
end
end DL

namespace DL
open PySem PySem.Spec L2

section
variable {K : PySem.W.Frag}
/-! ### an item -/
theorem reps_at {C : Hp} {ds : List D} {xs : List V} {i : Int} {d : D} (h : reps K C ds xs) (e : atI ds i = some d) : ∃ x, atI xs i = some x ∧ rep K C d x := by
  have hl := reps_len h
  unfold atI at e ⊢
  rw [hl]
  cases q : ixN ds.length i with
  | none => rw [q] at e; cases e
  | some j => rw [q] at e; exact reps_get h e
def dIx (dl : DL) (di : DE) : DE := fun ρ k => dl ρ fun ds => di ρ fun y => ∃ i d, y = .int i ∧ atI ds i = some d ∧ k d
theorem okIx {ta tb : TE} {dl : DL} {di : DE} (ha : LOk K ta dl) (hb : BOk K tb di) : EOk K (tOp (rIx K) ta tb) (dIx dl di) := fun W B ρ σ H k Q at' d q =>
  ha W B ρ σ H _ _ at' d fun ds v H1 a1 g1 s1 k1 => hb W B ρ σ H1 _ _ a1 k1 fun y u H2 a2 g2 r2 ⟨i, d, e1, e2, kk⟩ => by
    subst e1
    obtain rfl := rep_int r2
    obtain ⟨a, xs, rfl, h1, h2⟩ := (s1.gr g2).out
    obtain ⟨x, h3, h4⟩ := reps_at h2 e2
    rcases h1 with h1 | h1
    · exact .inl ⟨a, xs, i, x, rfl, rfl, h1, h3, q d x H2 a2 (g1.trans g2) h4 kk⟩
    · exact .inr (.inl ⟨a, xs, i, x, rfl, rfl, h1, h3, q d x H2 a2 (g1.trans g2) h4 kk⟩)

/-! ### built-ins on a sequence -/
def rSeqLen (K : PySem.W.Frag) : List V → Hp → VK → Prop := fun xs H Q => ∃ p ys, xs = [.ref p] ∧ (SqL K H p ys ∨ SqT K H p ys) ∧ Q (.int ys.length) H
def dLen (dl : DL) : DE := fun ρ k => dl ρ fun ds => k (.int ds.length)
theorem okLen {te : TE} {dl : DL} (h : LOk K te dl) : EOk K (tCB (rSeqLen K) (tCons te tNil)) (dLen dl) := fun W B ρ σ H k Q at' d q =>
  h W B ρ σ H _ _ at' d fun ds v H1 a1 g1 s1 k1 => by
    obtain ⟨a, xs, rfl, h1, h2⟩ := s1.out
    refine ⟨a, xs, rfl, h1, q _ _ _ a1 g1 (by rw [reps_len h2]; exact int_rep) k1⟩
def rTupOf (K : PySem.W.Frag) : List V → Hp → VK → Prop := fun xs H Q => ∃ p ys, xs = [.ref p] ∧ ((SqL K H p ys ∧ ∀ l, H l = none → Q (.ref l) (upd H l (.tup ys))) ∨ (SqT K H p ys ∧ Q (.ref p) H))
def dTupOf (dl : DL) : DE := fun ρ k => dl ρ fun ds => k (.tup ds)
theorem okTupOf {te : TE} {dl : DL} (h : LOk K te dl) : EOk K (tCB (rTupOf K) (tCons te tNil)) (dTupOf dl) := fun W B ρ σ H k Q at' d q =>
  h W B ρ σ H _ _ at' d fun ds v H1 a1 g1 s1 k1 => by
    obtain ⟨a, xs, rfl, h1, h2⟩ := s1
    rcases h1 with h1 | h1
    · exact ⟨a, xs, rfl, .inl ⟨sl_sub cl_sub h1, fun l hl => q _ _ _ (a1.alloc hl) (g1.trans (Gr.of (Sub.new hl))) (tup_rep (.inl (.inl (cl_new hl (a1.new_av hl)))) (reps_sub (cl_grow (Sub.new hl)) ds xs h2)) k1⟩⟩
    · exact ⟨a, xs, rfl, .inr ⟨st_sub cl_sub h1, q _ _ _ a1 g1 (tup_rep h1 h2) k1⟩⟩
def rLstOf (K : PySem.W.Frag) : List V → Hp → VK → Prop := fun xs H Q => ∃ p ys, xs = [.ref p] ∧ (SqL K H p ys ∨ SqT K H p ys) ∧ ∀ l, H l = none → Q (.ref l) (upd H l (.lst ys))
theorem okLstOf {te : TE} {dl : DL} (h : LOk K te dl) : FOk K (tCB (rLstOf K) (tCons te tNil)) dl := fun W B ρ σ H k Q at' d q =>
  h W B ρ σ H _ _ at' d fun ds v H1 a1 g1 s1 k1 => by
    obtain ⟨a, xs, rfl, h1, h2⟩ := s1.out
    exact ⟨a, xs, rfl, h1, fun l hl => q ds l xs _ (a1.alloc hl) (g1.trans (Gr.of (Sub.new hl))) (Gr.back (W := W) a1 g1 hl) upd_same (reps_sub (cl_more hl) ds xs h2) k1⟩
/-- sorted of ints -/
def dSortI (de : DE) : DL := fun ρ k => de ρ fun x => ∃ ns : List Int, x = .lst (ns.map D.int) ∧ ∀ ns' : List Int, ns'.Perm ns → ns'.Pairwise (· ≤ ·) → k (ns'.map D.int)
theorem rep_ints {C : Hp} {ns : List Int} {v : V} (h : rep K C (.lst (ns.map D.int)) v) : ∃ a, v = .ref a ∧ C a = some (.lst (ns.map V.int)) := by
  obtain ⟨a, xs, h1, h2, h3⟩ := rep_lst h
  rw [reps_ints h3] at h2
  exact ⟨a, h1, h2⟩
theorem rep_bls {C : Hp} {ns : List Bool} {v : V} (h : rep K C (.lst (ns.map D.bl)) v) : ∃ a, v = .ref a ∧ C a = some (.lst (ns.map V.bl)) := by
  obtain ⟨a, xs, h1, h2, h3⟩ := rep_lst h
  rw [reps_bls h3] at h2
  exact ⟨a, h1, h2⟩
theorem okSortI {te : TE} {de : DE} (h : BOk K te de) : FOk K (tCB (rSortedI K) (tCons te tNil)) (dSortI de) := fun W B ρ σ H k Q at' d q =>
  h W B ρ σ H _ _ at' d fun x v H1 a1 g1 r1 ⟨ns, e, kk⟩ => by
    subst e
    obtain ⟨a, rfl, h1⟩ := rep_ints r1
    exact ⟨a, ns, rfl, .inl (.inl (of_cl h1).1), fun ns' p hp hs hn => q _ p _ _ (a1.alloc hn) (g1.trans (Gr.of (Sub.new hn))) (Gr.back (W := W) a1 g1 hn) upd_same (ints_reps ns') (kk ns' hp hs)⟩
def dMinI (de : DE) : DE := fun ρ k => de ρ fun x => ∃ ns : List Int, x = .lst (ns.map D.int) ∧ 0 < ns.length ∧ ∀ m, m ∈ ns → (∀ y, y ∈ ns → m ≤ y) → k (.int m)
def dMaxI (de : DE) : DE := fun ρ k => de ρ fun x => ∃ ns : List Int, x = .lst (ns.map D.int) ∧ 0 < ns.length ∧ ∀ m, m ∈ ns → (∀ y, y ∈ ns → y ≤ m) → k (.int m)
theorem okMinI {te : TE} {de : DE} (h : BOk K te de) : EOk K (tCB (rMin K) (tCons te tNil)) (dMinI de) := fun W B ρ σ H k Q at' d q =>
  h W B ρ σ H _ _ at' d fun x v H1 a1 g1 r1 ⟨ns, e, hl, kk⟩ => by
    subst e
    obtain ⟨a, rfl, h1⟩ := rep_ints r1
    exact ⟨a, ns, rfl, .inl (.inl (of_cl h1).1), hl, fun m h2 h3 => q _ _ _ a1 g1 int_rep (kk m h2 h3)⟩
theorem okMaxI {te : TE} {de : DE} (h : BOk K te de) : EOk K (tCB (rMax K) (tCons te tNil)) (dMaxI de) := fun W B ρ σ H k Q at' d q =>
  h W B ρ σ H _ _ at' d fun x v H1 a1 g1 r1 ⟨ns, e, hl, kk⟩ => by
    subst e
    obtain ⟨a, rfl, h1⟩ := rep_ints r1
    exact ⟨a, ns, rfl, .inl (.inl (of_cl h1).1), hl, fun m h2 h3 => q _ _ _ a1 g1 int_rep (kk m h2 h3)⟩
def dSumI (de : DE) : DE := fun ρ k => de ρ fun x => ∃ ns : List Int, x = .lst (ns.map D.int) ∧ k (.int ns.sum)
theorem okSumI {te : TE} {de : DE} (h : BOk K te de) : EOk K (tCB (rSum K) (tCons te tNil)) (dSumI de) := fun W B ρ σ H k Q at' d q =>
  h W B ρ σ H _ _ at' d fun x v H1 a1 g1 r1 ⟨ns, e, kk⟩ => by
    subst e
    obtain ⟨a, rfl, h1⟩ := rep_ints r1
    exact ⟨a, ns, rfl, .inl (.inl (of_cl h1).1), q _ _ _ a1 g1 int_rep kk⟩
def dAllB (de : DE) : DE := fun ρ k => de ρ fun x => ∃ bs : List Bool, x = .lst (bs.map D.bl) ∧ k (.bl (bs.all id))
theorem okAllB {te : TE} {de : DE} (h : BOk K te de) : EOk K (tCB (rAll K) (tCons te tNil)) (dAllB de) := fun W B ρ σ H k Q at' d q =>
  h W B ρ σ H _ _ at' d fun x v H1 a1 g1 r1 ⟨ns, e, kk⟩ => by
    subst e
    obtain ⟨a, rfl, h1⟩ := rep_bls r1
    exact ⟨a, ns, rfl, .inl (.inl (of_cl h1).1), q _ _ _ a1 g1 bl_rep kk⟩
def rMaxJ : List V → Hp → VK → Prop := fun xs H Q => ∃ i j, xs = [.int i, .int j] ∧ Q (.int (if j > i then j else i)) H
def rMinJ : List V → Hp → VK → Prop := fun xs H Q => ∃ i j, xs = [.int i, .int j] ∧ Q (.int (if j < i then j else i)) H
def dMax2 (da db : DE) : DE := dI0 (gI fun i j => if j > i then j else i) da db
def dMin2 (da db : DE) : DE := dI0 (gI fun i j => if j < i then j else i) da db
theorem okMax2 {ta tb : TE} {da db : DE} (ha : BOk K ta da) (hb : BOk K tb db) : EOk K (tCB rMaxJ (tCons ta (tCons tb tNil))) (dMax2 da db) := fun W B ρ σ H k Q at' d q =>
  two ha hb at' d fun x y v u H' a' gr r1 r2 ⟨i, j, e1, e2, kk⟩ => by
    subst e1; subst e2
    obtain rfl := rep_int r1
    obtain rfl := rep_int r2
    exact ⟨i, j, rfl, q _ _ _ a' gr int_rep kk⟩
theorem okMin2 {ta tb : TE} {da db : DE} (ha : BOk K ta da) (hb : BOk K tb db) : EOk K (tCB rMinJ (tCons ta (tCons tb tNil))) (dMin2 da db) := fun W B ρ σ H k Q at' d q =>
  two ha hb at' d fun x y v u H' a' gr r1 r2 ⟨i, j, e1, e2, kk⟩ => by
    subst e1; subst e2
    obtain rfl := rep_int r1
    obtain rfl := rep_int r2
    exact ⟨i, j, rfl, q _ _ _ a' gr int_rep kk⟩
def rIntOf : List V → Hp → VK → Prop := fun xs H Q => (∃ i, xs = [.int i] ∧ Q (.int i) H) ∨ ∃ k, xs = [.bl k] ∧ Q (.int (if k then 1 else 0)) H
def D.toI : D → Option Int
  | .int i => some i
  | .bl b => some (if b then 1 else 0)
  | _ => none
def dIntOf (de : DE) : DE := fun ρ k => de ρ fun x => ∃ i, x.toI = some i ∧ k (.int i)
theorem okIntOf {te : TE} {de : DE} (h : BOk K te de) : EOk K (tCB rIntOf (tCons te tNil)) (dIntOf de) := fun W B ρ σ H k Q at' d q =>
  h W B ρ σ H _ _ at' d fun x v H1 a1 g1 r1 ⟨i, e, kk⟩ => by
    cases x with
    | int j => cases e; obtain rfl := rep_int r1; exact .inl ⟨_, rfl, q _ _ _ a1 g1 int_rep kk⟩
    | bl b => cases e; obtain rfl := rep_bl r1; exact .inr ⟨_, rfl, q _ _ _ a1 g1 int_rep kk⟩
    | _ => cases e
/-! isinstance -/
def D.cls : D → String
  | .non => "NoneType" | .bl _ => "bool" | .int _ => "int" | .str _ => "str" | .fz _ => "list" | .lst _ => "list" | .tup _ => "tuple" | .dct _ _ => "dict"
def isInst (c t : String) : Bool := c == t || (c == "bool" && t == "int")
theorem tyX_of {C H : Hp} (s : Sub C H) {d : D} {v : V} (hz : ∀ ns, d ≠ .fz ns) (r : rep K C d v) : TyX K H v (.type d.cls) := by
  cases d with
  | non => obtain rfl := rep_non r; exact .base .non
  | bl b => obtain rfl := rep_bl r; exact .base (.bl b)
  | int b => obtain rfl := rep_int r; exact .base (.int b)
  | str b => obtain rfl := rep_str r; exact .base (.str b)
  | fz ns => exact absurd rfl (hz ns)
  | lst ds => obtain ⟨a, xs, rfl, h, _⟩ := rep_lst r; exact .base (.lst (s _ _ h))
  | tup ds =>
    obtain ⟨a, xs, rfl, h, _⟩ := rep_tup r
    rcases h with (h | ⟨o, h⟩) | ⟨o, its, n, h1, h2, _⟩
    · exact .base (.tup (s _ _ h))
    · exact .fTuple (s _ _ h)
    · exact .kTuple h1 h2
  | dct ks ds =>
    simp only [rep] at r
    obtain ⟨a, xs, rfl, h, _⟩ := r
    exact .base (.dK (s _ _ h))
def isTypes : List String := ["int", "bool", "str", "list", "tuple", "dict"]
theorem kitB_ok (c t : String) (hc : c ∈ ["NoneType", "bool", "int", "str", "list", "tuple", "dict"]) (ht : t ∈ isTypes) : kitB c t = some (isInst c t) := by
  unfold isTypes at ht
  simp only [List.mem_cons, List.mem_nil_iff, or_false] at hc ht
  rcases hc with rfl | rfl | rfl | rfl | rfl | rfl | rfl <;> rcases ht with rfl | rfl | rfl | rfl | rfl | rfl <;> decide +kernel
theorem cls_mem (d : D) : d.cls ∈ ["NoneType", "bool", "int", "str", "list", "tuple", "dict"] := by cases d <;> simp [D.cls]
end

section
variable {X : Cx} {a b e : Expr} {ta tb te : TE} {da db de : DE} {dl : DL} {pos p p2 : Pos}
theorem x_ix (ha : XL X a ta dl) (hb : XB X b tb db) (hs : PlainIx b := by intro _ _; rfl) : XE X (.Subscript a b pos) (tOp (rIx X.K) ta tb) (dIx dl db) := ⟨pe_ix ix_seq ha.pe hb.pe hs, okIx ha.ok hb.ok⟩
theorem x_len (hm : X.mg "len" = none) (h : XL X e te dl) (hg : Gl X "len" := by rfl) (hs : starEach [e] X.env = [(false, eval e X.env)] := by rfl) : XE X (.Call (.Name "len" p) [e] [] pos) (tCB (rSeqLen X.K) (tCons te tNil)) (dLen dl) :=
  ⟨pe_callB call_len_seq hg hm boot_len (pa_cons h.pe pa_nil hs) (he := hs), okLen h.ok⟩
theorem x_tupOf (hm : X.mg "tuple" = none) (h : XL X e te dl) (hg : Gl X "tuple" := by rfl) (hs : starEach [e] X.env = [(false, eval e X.env)] := by rfl) : XE X (.Call (.Name "tuple" p) [e] [] pos) (tCB (rTupOf X.K) (tCons te tNil)) (dTupOf dl) :=
  ⟨pe_callTy call_tuple_of hg hm PyProof.Rows.boot_tuple (pa_cons h.pe pa_nil hs) (he := hs), okTupOf h.ok⟩
theorem f_lstOf (hm : X.mg "list" = none) (h : XL X e te dl) (hg : Gl X "list" := by rfl) (hs : starEach [e] X.env = [(false, eval e X.env)] := by rfl) : XF X (.Call (.Name "list" p) [e] [] pos) (tCB (rLstOf X.K) (tCons te tNil)) dl :=
  ⟨pe_callTy call_list_of hg hm PyProof.Rows.boot_list (pa_cons h.pe pa_nil hs) (he := hs), okLstOf h.ok⟩
theorem f_sortI (hm : X.mg "sorted" = none) (h : XB X e te de) (hg : Gl X "sorted" := by rfl) (hs : starEach [e] X.env = [(false, eval e X.env)] := by rfl) : XF X (.Call (.Name "sorted" p) [e] [] pos) (tCB (rSortedI X.K) (tCons te tNil)) (dSortI de) :=
  ⟨pe_callB cr_sortedI hg hm (by decide +kernel) (pa_cons h.pe pa_nil hs) (he := hs), okSortI h.ok⟩
theorem x_minI (hc : X.calm = true) (hm : X.mg "min" = none) (h : XB X e te de) (hg : Gl X "min" := by rfl) (hs : starEach [e] X.env = [(false, eval e X.env)] := by rfl) : XE X (.Call (.Name "min" p) [e] [] pos) (tCB (rMin X.K) (tCons te tNil)) (dMinI de) :=
  ⟨pe_callB (cr_min hc) hg hm (by decide +kernel) (pa_cons h.pe pa_nil hs) (he := hs), okMinI h.ok⟩
theorem x_maxI (hc : X.calm = true) (hm : X.mg "max" = none) (h : XB X e te de) (hg : Gl X "max" := by rfl) (hs : starEach [e] X.env = [(false, eval e X.env)] := by rfl) : XE X (.Call (.Name "max" p) [e] [] pos) (tCB (rMax X.K) (tCons te tNil)) (dMaxI de) :=
  ⟨pe_callB (cr_max hc) hg hm (by decide +kernel) (pa_cons h.pe pa_nil hs) (he := hs), okMaxI h.ok⟩
theorem x_sumI (hc : X.calm = true) (hm : X.mg "sum" = none) (h : XB X e te de) (hg : Gl X "sum" := by rfl) (hs : starEach [e] X.env = [(false, eval e X.env)] := by rfl) : XE X (.Call (.Name "sum" p) [e] [] pos) (tCB (rSum X.K) (tCons te tNil)) (dSumI de) :=
  ⟨pe_callB (cr_sum hc) hg hm (by decide +kernel) (pa_cons h.pe pa_nil hs) (he := hs), okSumI h.ok⟩
theorem x_allB (hc : X.calm = true) (hm : X.mg "all" = none) (h : XB X e te de) (hg : Gl X "all" := by rfl) (hs : starEach [e] X.env = [(false, eval e X.env)] := by rfl) : XE X (.Call (.Name "all" p) [e] [] pos) (tCB (rAll X.K) (tCons te tNil)) (dAllB de) :=
  ⟨pe_callB (cr_all hc) hg hm (by decide +kernel) (pa_cons h.pe pa_nil hs) (he := hs), okAllB h.ok⟩
theorem x_max2 (hc : X.calm = true) (hm : X.mg "max" = none) (ha : XB X a ta da) (hb : XB X b tb db) (hg : Gl X "max" := by rfl) (hs : starEach [a, b] X.env = [(false, eval a X.env), (false, eval b X.env)] := by rfl) (hs2 : starEach [b] X.env = [(false, eval b X.env)] := by rfl) :
    XE X (.Call (.Name "max" p) [a, b] [] pos) (tCB rMaxJ (tCons ta (tCons tb tNil))) (dMax2 da db) :=
  ⟨pe_callB (call_max2 hc) hg hm (by decide +kernel) (pa_cons ha.pe (pa_cons hb.pe pa_nil hs2) (by rw [hs, hs2])) (he := by rw [hs, hs2]) (hpl := by rw [hs2]; rfl), okMax2 ha.ok hb.ok⟩
theorem x_min2 (hc : X.calm = true) (hm : X.mg "min" = none) (ha : XB X a ta da) (hb : XB X b tb db) (hg : Gl X "min" := by rfl) (hs : starEach [a, b] X.env = [(false, eval a X.env), (false, eval b X.env)] := by rfl) (hs2 : starEach [b] X.env = [(false, eval b X.env)] := by rfl) :
    XE X (.Call (.Name "min" p) [a, b] [] pos) (tCB rMinJ (tCons ta (tCons tb tNil))) (dMin2 da db) :=
  ⟨pe_callB (call_min2 hc) hg hm (by decide +kernel) (pa_cons ha.pe (pa_cons hb.pe pa_nil hs2) (by rw [hs, hs2])) (he := by rw [hs, hs2]) (hpl := by rw [hs2]; rfl), okMin2 ha.ok hb.ok⟩
theorem x_intOf (hm : X.mg "int" = none) (h : XB X e te de) (hg : Gl X "int" := by rfl) (hs : starEach [e] X.env = [(false, eval e X.env)] := by rfl) : XE X (.Call (.Name "int" p) [e] [] pos) (tCB rIntOf (tCons te tNil)) (dIntOf de) :=
  ⟨pe_callTy call_int1 hg hm PyProof.Rows.boot_int (pa_cons h.pe pa_nil hs) (he := hs), okIntOf h.ok⟩
/-- isinstance(e, T), T a built-in class -/
def dIsI (t : String) (de : DE) : DE := fun ρ k => de ρ fun x => (∀ ns, x ≠ .fz ns) ∧ k (.bl (isInst x.cls t))
theorem x_isI {t : String} {nm : Str} (ht : t ∈ isTypes) (hm : X.mg "isinstance" = none) (hmT : X.mg nm = none) (hvT : bootBuiltins nm = some (.type t)) (h : XB X e te de) (hg : Gl X "isinstance" := by rfl) (hgT : Gl X nm := by rfl)
    (hdT : (nm == ("__debug__" : Str)) = false := by decide) (hnT : nm ≠ "__name__" := by decide)
    (hs : starEach [e, .Name nm p2] X.env = [(false, eval e X.env), (false, eval (.Name nm p2) X.env)] := by rfl) (hs2 : starEach [.Name nm p2] X.env = [(false, eval (.Name nm p2) X.env)] := by rfl) :
    XE X (.Call (.Name "isinstance" p) [e, .Name nm p2] [] pos) (tCB (rIsi X.K) (tCons te (tCons (tC (.ty t)) tNil))) (dIsI t de) :=
  ⟨pe_callB call_isi hg hm (by decide +kernel) (pa_cons h.pe (pa_cons (pe_bltn (v := .ty t) hgT hmT hvT rfl hnT hdT) pa_nil hs2) (by rw [hs, hs2])) (he := by rw [hs, hs2]) (hpl := by rw [hs2]; rfl), fun W B ρ σ H k Q at' d q =>
    h.ok W B ρ σ H _ _ at' d fun x v H1 a1 g1 r1 ⟨hz, kk⟩ => ⟨v, .ty t, .type x.cls, .type t, isInst x.cls t, rfl, .ty t, tyX_of cl_sub hz r1, kit_ty (kitB_ok _ _ (cls_mem x) ht), q _ _ _ a1 g1 bl_rep kk⟩⟩
end
end DL

namespace DL
open PySem PySem.Spec L2

/-! ### calls of the program's own defs -/
abbrev DC := List D → (D → Prop) → Prop
section
variable (K : PySem.W.Frag)
def spD (C : DC) : Sp := fun vs H Q _ => ∃ (W : Addr → Prop) (ds : List D) (k : D → Prop), (∀ a, W a → ∃ o, H a = some o) ∧ reps K (cl W H) ds vs ∧ C ds k ∧
  ∀ d v H', Sub H H' → rep K (cl W H') d v → k d → Q v H'
/-- a def whose first argument is the state of the draws -/
def spR (C : DC) : Sp := fun vs H Q _ => ∃ (W : Addr → Prop) (p c : Addr) (vr : List V) (ds : List D) (k : D → Prop), vs = .ref p :: vr ∧ (∀ a, W a → ∃ o, H a = some o) ∧ W p ∧ DrawOk K (cl W H) H p c ∧ reps K (cl W H) ds vr ∧ C ds k ∧
  ∀ d v H', (∀ a o, a ≠ p → H a = some o → H' a = some o) → DrawOk K (cl W H') H' p c → rep K (cl W H') d v → k d → Q v H'
end
def dCall (C : DC) (da : DL) : DE := fun ρ k => da ρ fun ds => C ds k
section
variable {K : PySem.W.Frag}
theorem okCallB {C : DC} {ta : TA} {da : DL} (h : ABOk K ta da) : BOk K (tCall (spD K C) [] E0 ta) (dCall C da) := fun W B ρ σ H k Q at' d q =>
  h W B ρ σ H _ _ at' d fun ds vs H1 a1 g1 r1 k1 => by
    show spD K C (vs ++ []) H1 Q E0
    rw [List.append_nil]
    exact ⟨Dv ρ, ds, k, fun a z => a1.av_dom (av_dv z), r1, k1, fun d v H2 s r kk => q d v H2 (a1.grow s) (g1.trans (Gr.of s)) r kk⟩
theorem okCall {C : DC} {ta : TA} {da : DL} (h : AOk K ta da) : EOk K (tCall (spD K C) [] E0 ta) (dCall C da) := fun W B ρ σ H k Q at' d q =>
  h W B ρ σ H _ _ at' d fun ds vs H1 a1 g1 r1 k1 => by
    show spD K C (vs ++ []) H1 Q E0
    rw [List.append_nil]
    exact ⟨Av W ρ, ds, k, fun a z => a1.av_dom z, r1, k1, fun d v H2 s r kk => q d v H2 (a1.grow s) (g1.trans (Gr.of s)) r kk⟩
def dCallR (C : DC) (i : Nat) (da : DL) : DE := fun ρ k => ∃ p c, ρ[i]? = some (.dr p c) ∧ da ρ fun ds => C ds k
theorem At.drawn {W : Addr → Prop} {B : Hp} {ρ : List Sl} {σ : L2.St} {H H' : Hp} {i : Nat} {p c : Addr} (a : At K W B ρ σ H) (hi : ρ[i]? = some (.dr p c)) (g : ∀ b o, b ≠ p → H b = some o → H' b = some o) (hd : DrawOk K (cl (Av W ρ) H') H' p c) : At K W B ρ σ H' where
  kp := fun b o e => by
    by_cases z : b = p
    · subst z; rw [a.ob i _ b hi rfl] at e; cases e
    · exact g b o z (a.kp b o e)
  wd := a.wd
  sl := fun j s hj => by
    have h0 := a.sl j s hj
    have ep : ∀ {b}, s.addr = some b → b = p → j = i := fun {b} e z => by subst z; exact a.oj j i s _ b hj hi e rfl
    have hp : p ∉ ([] : List Addr) := by simp
    have m : Sub (cl (Av W ρ) H) (cl (Av W ρ) H') := cl_mono fun b o e n => ⟨g b o (fun z => n (by subst z; exact dr_av ⟨_, List.mem_of_getElem? hi⟩)) e, n⟩
    cases s with
    | no => trivial
    | da d => obtain ⟨v, h1, h2⟩ := h0; exact ⟨v, h1, rep_sub m d v h2⟩
    | ol b ds =>
      obtain ⟨h1, xs, h2, h3⟩ := h0
      refine ⟨h1, xs, g _ _ (fun z => ?_) h2, reps_sub m ds xs h3⟩
      have := ep rfl z; subst this; rw [hj] at hi; cases hi
    | od b ks ds =>
      obtain ⟨h1, xs, h2, hl, h3⟩ := h0
      refine ⟨h1, xs, g _ _ (fun z => ?_) h2, hl, reps_sub m ds xs h3⟩
      have := ep rfl z; subst this; rw [hj] at hi; cases hi
    | dr b c' =>
      obtain ⟨h1, h2⟩ := h0
      by_cases z : b = p
      · have := ep rfl z; subst this; rw [hj] at hi; cases hi; exact ⟨h1, hd⟩
      · have := h2
        obtain ⟨w, n, ns, _, _, h5⟩ := this
        exact ⟨h1, h2.sub m ((g _ _ z h5).trans h5.symm)⟩
  ob := a.ob
  oj := a.oj
  len := a.len
theorem okCallR {C : DC} {i : Nat} {ta : TA} {da : DL} (h : AOk K ta da) : EOk K (tCall (spR K C) [] E0 (tCons (tVar i) ta)) (dCallR C i da) := fun W B ρ σ H k Q at' ⟨p, c, hp, d⟩ q => by
  obtain ⟨h1, h2⟩ := at'.sl i _ hp
  refine ⟨.ref p, h1, h W B ρ σ H _ _ at' d fun ds vs H1 a1 g1 r1 k1 => ?_⟩
  show spR K C ((.ref p :: vs) ++ []) H1 Q E0
  rw [List.append_nil]
  obtain ⟨_, h3⟩ := a1.sl i _ hp
  refine ⟨Av W ρ, p, c, vs, ds, k, rfl, fun a z => a1.av_dom z, dr_av ⟨_, List.mem_of_getElem? hp⟩, h3, r1, k1, fun d v H2 s hd r kk => q d v H2 (a1.drawn hp s hd) (g1.trans fun a o n e => s a o (fun z => n (by subst z; exact ⟨_, List.mem_of_getElem? hp⟩)) e) r kk⟩
end
section
variable {X : Cx} {C : DC} {CX : CXT} {n : Nat} {f : Addr} {fd : FuncData} {ps : List Str} {x : Str} {p pos p0 : Pos} {e : Expr} {es : List Expr} {ta : TA} {da : DL}
theorem b_call (F : FnOk X.prog X.w X.K X.mg X.base CX0 n f fd ps (spD X.K C)) (hr : Room n X.A) (hm : X.mg x = some (.ref f)) (hk : PySem.W.keepIn X.K (.ref f) = true) (hb : Binds X.K fd ps [])
    (ha : XAB X (e :: es) ta da) (hg : Gl X x := by rfl) (hdb : (x == ("__debug__" : Str)) = false := by decide) (he : starEach (e :: es) X.env = (false, eval e X.env) :: starEach es X.env := by rfl) (hpl : (backTo pos (starEach es X.env)).any (·.1) = false := by rfl) :
    XB X (.Call (.Name x p) (e :: es) [] pos) (tCall (spD X.K C) [] E0 ta) (dCall C da) := ⟨pe_call F hr hg hm hk hb .nil pass0 ha.pa hdb he hpl, okCallB ha.ok⟩
theorem e_call (F : FnOk X.prog X.w X.K X.mg X.base CX0 n f fd ps (spD X.K C)) (hr : Room n X.A) (hm : X.mg x = some (.ref f)) (hk : PySem.W.keepIn X.K (.ref f) = true) (hb : Binds X.K fd ps [])
    (ha : XA X (e :: es) ta da) (hg : Gl X x := by rfl) (hdb : (x == ("__debug__" : Str)) = false := by decide) (he : starEach (e :: es) X.env = (false, eval e X.env) :: starEach es X.env := by rfl) (hpl : (backTo pos (starEach es X.env)).any (·.1) = false := by rfl) :
    XE X (.Call (.Name x p) (e :: es) [] pos) (tCall (spD X.K C) [] E0 ta) (dCall C da) := ⟨pe_call F hr hg hm hk hb .nil pass0 ha.pa hdb he hpl, okCall ha.ok⟩
/-- a call with the draws' state ahead -/
theorem e_draw {i : Nat} (F : FnOk X.prog X.w X.K X.mg X.base CX0 n f fd ps (spR X.K C)) (hr : Room n X.A) (hm : X.mg x = some (.ref f)) (hk : PySem.W.keepIn X.K (.ref f) = true) (hb : Binds X.K fd ps []) (hv : PE X e (tVar i))
    (ha : XA X es ta da) (hg : Gl X x := by rfl) (hdb : (x == ("__debug__" : Str)) = false := by decide) (he : starEach (e :: es) X.env = (false, eval e X.env) :: starEach es X.env := by rfl) (hpl : (backTo pos (starEach es X.env)).any (·.1) = false := by rfl) :
    XE X (.Call (.Name x p) (e :: es) [] pos) (tCall (spR X.K C) [] E0 (tCons (tVar i) ta)) (dCallR C i da) := ⟨pe_call F hr hg hm hk hb .nil pass0 (pa_cons hv ha.pa he) hdb he hpl, okCallR ha.ok⟩
end

/-! ### stores to names -/
section
variable {K : PySem.W.Frag} {W : Addr → Prop} {B : Hp} {ρ : List Sl} {σ : L2.St} {H : Hp}
theorem set_get {α : Type} {l : List α} {i j : Nat} {x y : α} (h : (l.set i x)[j]? = some y) : (j = i ∧ y = x ∧ i < l.length) ∨ (j ≠ i ∧ l[j]? = some y) := by
  by_cases e : i = j
  · subst e
    by_cases hl : i < l.length
    · rw [List.getElem?_set_self hl] at h; cases h; exact .inl ⟨rfl, rfl, hl⟩
    · rw [List.getElem?_eq_none (by rw [List.length_set]; omega)] at h; cases h
  · rw [List.getElem?_set_ne e] at h; exact .inr ⟨fun z => e z.symm, h⟩
/-- a name forgets what it owned, or keeps it as it is: fewer are avoided -/
theorem av_less {ρ' : List Sl} (h : ∀ s ∈ ρ', ∀ a, s.addr = some a → s ∈ ρ) {a : Addr} (z : Av W ρ' a) : Av W ρ a := by
  rcases z with z | ⟨s, hs, e⟩
  · exact .inl z
  · exact .inr ⟨s, h s hs a e, e⟩
theorem cl_less {ρ' : List Sl} (h : ∀ s ∈ ρ', ∀ a, s.addr = some a → s ∈ ρ) : Sub (cl (Av W ρ) H) (cl (Av W ρ') H) := cl_mono fun a o e n => ⟨e, fun z => n (av_less h z)⟩
theorem mem_set {l : List Sl} {i : Nat} {x s : Sl} (h : s ∈ l.set i x) : s = x ∨ s ∈ l := by
  obtain ⟨j, hj⟩ := mem_get h
  rcases set_get hj with ⟨_, e, _⟩ | ⟨_, e⟩
  · exact .inl e
  · exact .inr (List.mem_of_getElem? e)
theorem At.setS {i : Nat} {s : Sl} {x : Option V} (a : At K W B ρ σ H) (hs : s.addr = none) (h : SlOk K (cl (Av W ρ) H) H (some x) s) : At K W B (ρ.set i s) (σ.set i x) H where
  kp := a.kp
  wd := a.wd
  sl := fun j t hj => by
    have m : Sub (cl (Av W ρ) H) (cl (Av W (ρ.set i s)) H) := cl_less fun t ht b e => by
      rcases mem_set ht with z | z
      · subst z; rw [hs] at e; cases e
      · exact z
    have wk : ∀ {y : Option (Option V)} (t : Sl), SlOk K (cl (Av W ρ) H) H y t → SlOk K (cl (Av W (ρ.set i s)) H) H y t := fun {y} t q => by
      cases t with
      | no => trivial
      | da d => obtain ⟨v, h1, h2⟩ := q; exact ⟨v, h1, rep_sub m d v h2⟩
      | ol b ds => obtain ⟨h1, xs, h2, h3⟩ := q; exact ⟨h1, xs, h2, reps_sub m ds xs h3⟩
      | od b ks ds => obtain ⟨h1, xs, h2, hl, h3⟩ := q; exact ⟨h1, xs, h2, hl, reps_sub m ds xs h3⟩
      | dr b c => obtain ⟨h1, h2⟩ := q; exact ⟨h1, h2.sub m rfl⟩
    rcases set_get hj with ⟨e1, e2, hl⟩ | ⟨e1, e2⟩
    · subst e1; subst e2
      rw [List.getElem?_set_self (by rw [a.len]; exact hl)]
      exact wk _ h
    · rw [List.getElem?_set_ne (fun z => e1 z.symm)]
      exact wk _ (a.sl j t e2)
  ob := fun j t b hj e => by
    rcases set_get hj with ⟨_, e2, _⟩ | ⟨_, e2⟩
    · subst e2; rw [hs] at e; cases e
    · exact a.ob j t b e2 e
  oj := fun j l t u b hj hl e1 e2 => by
    rcases set_get hj with ⟨_, z, _⟩ | ⟨_, q1⟩
    · subst z; rw [hs] at e1; cases e1
    · rcases set_get hl with ⟨_, z, _⟩ | ⟨_, q2⟩
      · subst z; rw [hs] at e2; cases e2
      · exact a.oj j l t u b q1 q2 e1 e2
  len := by rw [List.length_set, List.length_set]; exact a.len
theorem At.setD {i : Nat} {d : D} {v : V} (a : At K W B ρ σ H) (h : rep K (cl (Av W ρ) H) d v) : At K W B (ρ.set i (.da d)) (σ.set i (some v)) H := a.setS rfl ⟨v, rfl, h⟩
theorem At.setN {i : Nat} (a : At K W B ρ σ H) (x : Option V) : At K W B (ρ.set i .no) (σ.set i x) H := a.setS rfl trivial
/-- a new object becomes a name's own -/
theorem At.setO {H0 : Hp} {i : Nat} {s : Sl} {p : Addr} (a0 : At K W B ρ σ H0) (hp0 : H0 p = none) (g : Gr ρ H0 H) (a : At K W B ρ σ H) (hs : s.addr = some p)
    (h : SlOk K (cl (fun b => Av W ρ b ∨ b = p) H) H (some (some (.ref p))) s) : At K W B (ρ.set i s) (σ.set i (some (.ref p))) H := by
  have np : ¬ Av W ρ p := a0.new_av hp0
  have bp : B p = none := by
    cases e : B p with
    | none => rfl
    | some o => rw [a0.kp p o e] at hp0; cases hp0
  by_cases hi : i < ρ.length
  · have eqv : ∀ b, Av W (ρ.set i s) b → Av W ρ b ∨ b = p := fun b z => by
      rcases z with z | ⟨t, ht, e⟩
      · exact .inl (.inl z)
      · rcases mem_set ht with q | q
        · subst q; rw [hs] at e; cases e; exact .inr rfl
        · exact .inl (.inr ⟨t, q, e⟩)
    have m : Sub (cl (fun b => Av W ρ b ∨ b = p) H) (cl (Av W (ρ.set i s)) H) := cl_mono fun b o e n => ⟨e, fun z => n (eqv b z)⟩
    have m0 : Sub (cl (Av W ρ) H0) (cl (Av W (ρ.set i s)) H) := cl_mono fun b o e n => ⟨g b o (fun z => n (dr_av z)) e, fun z => (eqv b z).elim n (ne_of_none e hp0)⟩
    refine ⟨a.kp, a.wd, fun j t hj => ?_, fun j t b hj e => ?_, fun j l t u b hj hl e1 e2 => ?_, by rw [List.length_set, List.length_set]; exact a.len⟩
    · rcases set_get hj with ⟨e1, e2, hl⟩ | ⟨e1, e2⟩
      · subst e1; subst e2
        rw [List.getElem?_set_self (by rw [a.len]; exact hl)]
        cases t with
        | no => trivial
        | da d => cases hs
        | ol b ds => obtain ⟨h1, xs, h2, h3⟩ := h; exact ⟨h1, xs, h2, reps_sub m ds xs h3⟩
        | od b ks ds => obtain ⟨h1, xs, h2, hl, h3⟩ := h; exact ⟨h1, xs, h2, hl, reps_sub m ds xs h3⟩
        | dr b c => obtain ⟨h1, h2⟩ := h; exact ⟨h1, h2.sub m rfl⟩
      · rw [List.getElem?_set_ne (fun z => e1 z.symm)]
        have q0 := a0.sl j t e2
        have q := a.sl j t e2
        have nd : ∀ {b}, t.addr = some b → (∀ c, t ≠ .dr b c) → ¬ Dv ρ b := fun {b} e nt ⟨c, hc⟩ => by
          obtain ⟨l, hl⟩ := mem_get hc
          have := a.oj j l _ _ b e2 hl e rfl
          subst this
          rw [e2] at hl; cases hl
          exact nt c rfl
        cases t with
        | no => trivial
        | da d => obtain ⟨v, h1, h2⟩ := q0; exact ⟨v, h1, rep_sub m0 d v h2⟩
        | ol b ds => obtain ⟨h1, xs, h2, h3⟩ := q0; exact ⟨h1, xs, g _ _ (nd rfl (fun c z => by cases z)) h2, reps_sub m0 ds xs h3⟩
        | od b ks ds => obtain ⟨h1, xs, h2, hl, h3⟩ := q0; exact ⟨h1, xs, g _ _ (nd rfl (fun c z => by cases z)) h2, hl, reps_sub m0 ds xs h3⟩
        | dr b c =>
          obtain ⟨h1, w, n, ns, p4, p5, p6⟩ := q0
          obtain ⟨_, w', n', ns', p4', p5', p6'⟩ := q
          exact ⟨h1, w', n', ns, m0 _ _ p4, p5, p6'⟩
    · rcases set_get hj with ⟨_, e2, _⟩ | ⟨_, e2⟩
      · subst e2; rw [hs] at e; cases e; exact bp
      · exact a.ob j t b e2 e
    · rcases set_get hj with ⟨z1, z, _⟩ | ⟨_, q1⟩
      · subst z1; subst z; rw [hs] at e1; cases e1
        rcases set_get hl with ⟨z2, _, _⟩ | ⟨_, q2⟩
        · exact z2.symm
        · exact absurd (.inr ⟨u, List.mem_of_getElem? q2, e2⟩) np
      · rcases set_get hl with ⟨z1, z, _⟩ | ⟨_, q2⟩
        · subst z1; subst z; rw [hs] at e2; cases e2
          exact absurd (.inr ⟨t, List.mem_of_getElem? q1, e1⟩) np
        · exact a.oj j l t u b q1 q2 e1 e2
  · rw [List.set_eq_of_length_le (by omega), List.set_eq_of_length_le (by rw [a.len]; omega)]
    exact a
end
end DL

namespace DL
open PySem PySem.Spec L2

section
variable {K : PySem.W.Frag} {W : Addr → Prop} {B : Hp} {ρ : List Sl} {σ : L2.St} {H : Hp}
/-- what a name owns is changed -/
theorem At.updO {i : Nat} {s s' : Sl} {a : Addr} {o : HO} (t : At K W B ρ σ H) (hi : ρ[i]? = some s) (hs : s.addr = some a) (hs' : s'.addr = some a)
    (h : SlOk K (cl (Av W ρ) H) (upd H a o) σ[i]? s') : At K W B (ρ.set i s') σ (upd H a o) := by
  have hl : i < ρ.length := (List.getElem?_eq_some_iff.mp hi).1
  have ba : B a = none := t.ob i s a hi hs
  have av : ∀ b, Av W (ρ.set i s') b ↔ Av W ρ b := fun b => by
    constructor
    · rintro (z | ⟨u, hu, e⟩)
      · exact .inl z
      · rcases mem_set hu with q | q
        · subst q; rw [hs'] at e; cases e; exact .inr ⟨s, List.mem_of_getElem? hi, hs⟩
        · exact .inr ⟨u, q, e⟩
    · rintro (z | ⟨u, hu, e⟩)
      · exact .inl z
      · obtain ⟨j, hj⟩ := mem_get hu
        by_cases ij : i = j
        · subst ij
          rw [hi] at hj; cases hj
          rw [hs] at e; cases e
          exact .inr ⟨s', List.mem_of_getElem? (i := i) (by rw [List.getElem?_set_self hl]), hs'⟩
        · exact .inr ⟨u, List.mem_of_getElem? (i := j) (by rw [List.getElem?_set_ne ij]; exact hj), e⟩
  have avA : Av W ρ a := .inr ⟨s, List.mem_of_getElem? hi, hs⟩
  have m : Sub (cl (Av W ρ) H) (cl (Av W (ρ.set i s')) (upd H a o)) := cl_mono fun b u e n => by
    have : b ≠ a := fun z => n (by subst z; exact avA)
    exact ⟨by rw [upd_ne this]; exact e, fun z => n ((av b).mp z)⟩
  refine ⟨fun b u e => ?_, t.wd, fun j u hj => ?_, fun j u b hj e => ?_, fun j l u v b hj hk e1 e2 => ?_, by rw [List.length_set]; exact t.len⟩
  · have : b ≠ a := fun z => by subst z; rw [ba] at e; cases e
    rw [upd_ne this]; exact t.kp b u e
  · rcases set_get hj with ⟨e1, e2, _⟩ | ⟨e1, e2⟩
    · subst e1; subst e2
      cases u with
      | no => trivial
      | da d => cases hs'
      | ol b ds => obtain ⟨h1, xs, h2, h3⟩ := h; exact ⟨h1, xs, h2, reps_sub m ds xs h3⟩
      | od b ks ds => obtain ⟨h1, xs, h2, hk, h3⟩ := h; exact ⟨h1, xs, h2, hk, reps_sub m ds xs h3⟩
      | dr b c => obtain ⟨h1, h2⟩ := h; exact ⟨h1, h2.sub m rfl⟩
    · have q := t.sl j u e2
      have ne : ∀ {b}, u.addr = some b → b ≠ a := fun {b} e z => by subst z; exact e1 (t.oj j i _ _ _ e2 hi e hs)
      cases u with
      | no => trivial
      | da d => obtain ⟨v, h1, h2⟩ := q; exact ⟨v, h1, rep_sub m d v h2⟩
      | ol b ds => obtain ⟨h1, xs, h2, h3⟩ := q; exact ⟨h1, xs, (upd_ne (ne rfl)).trans h2, reps_sub m ds xs h3⟩
      | od b ks ds => obtain ⟨h1, xs, h2, hk, h3⟩ := q; exact ⟨h1, xs, (upd_ne (ne rfl)).trans h2, hk, reps_sub m ds xs h3⟩
      | dr b c => obtain ⟨h1, h2⟩ := q; exact ⟨h1, h2.sub m (upd_ne (ne rfl))⟩
  · rcases set_get hj with ⟨_, e2, _⟩ | ⟨_, e2⟩
    · subst e2; rw [hs'] at e; cases e; exact ba
    · exact t.ob j u b e2 e
  · rcases set_get hj with ⟨z1, z, _⟩ | ⟨z1, q1⟩
    · subst z1; subst z; rw [hs'] at e1; cases e1
      rcases set_get hk with ⟨z2, _, _⟩ | ⟨_, q2⟩
      · exact z2.symm
      · exact t.oj _ _ _ _ _ hi q2 hs e2
    · rcases set_get hk with ⟨z2, z, _⟩ | ⟨_, q2⟩
      · subst z2; subst z; rw [hs'] at e2; cases e2
        exact t.oj _ _ _ _ _ q1 hi e1 hs
      · exact t.oj j l u v b q1 q2 e1 e2
/-- nobody will write to what a name owns: it is data -/
def Sl.frz : Sl → Sl
  | .ol _ ds => .da (.lst ds)
  | .od _ ks ds => .da (.dct ks ds)
  | s => s
theorem frz_addr {s : Sl} {a : Addr} (h : s.frz.addr = some a) : s.frz = s ∧ s.addr = some a ∧ ∃ c, s = .dr a c := by
  cases s with
  | dr b c => cases h; exact ⟨rfl, rfl, c, rfl⟩
  | _ => cases h
/-- some of the names give up what they own -/
theorem At.weak {ρ' : List Sl} (t : At K W B ρ σ H) (hl : ρ'.length = ρ.length) (h : ∀ (i : Nat) s', ρ'[i]? = some s' → ∃ s, ρ[i]? = some s ∧ (s' = s ∨ s' = s.frz ∨ s' = .no)) : At K W B ρ' σ H := by
  have sub : ∀ b, Av W ρ' b → Av W ρ b := fun b z => by
    rcases z with z | ⟨u, hu, e⟩
    · exact .inl z
    · obtain ⟨j, hj⟩ := mem_get hu
      obtain ⟨s, h1, h2⟩ := h j u hj
      rcases h2 with h2 | h2 | h2
      · subst h2; exact .inr ⟨_, List.mem_of_getElem? h1, e⟩
      · subst h2; exact .inr ⟨_, List.mem_of_getElem? h1, (frz_addr e).2.1⟩
      · subst h2; cases e
  have m : Sub (cl (Av W ρ) H) (cl (Av W ρ') H) := cl_mono fun b o e n => ⟨e, fun z => n (sub b z)⟩
  have wb : ∀ {i : Nat} {s : Sl} {a : Addr}, ρ[i]? = some s → s.addr = some a → ¬ W a := fun {i s a} h1 h2 z => by
    obtain ⟨o, e⟩ := t.wd a z
    rw [t.ob i s a h1 h2] at e; cases e
  have gone : ∀ {i : Nat} {s : Sl} {a : Addr}, ρ[i]? = some s → s.addr = some a → ρ'[i]? = some s.frz → s.frz.addr = none → ¬ Av W ρ' a := fun {i s a} h1 h2 h3 h4 z => by
    rcases z with z | ⟨u, hu, e⟩
    · exact wb h1 h2 z
    · obtain ⟨j, hj⟩ := mem_get hu
      obtain ⟨s2, q1, q2⟩ := h j u hj
      have e2 : s2.addr = some a := by
        rcases q2 with q2 | q2 | q2
        · subst q2; exact e
        · subst q2; exact (frz_addr e).2.1
        · subst q2; cases e
      have := t.oj i j _ _ a h1 q1 h2 e2
      subst this
      rw [h3] at hj; cases hj
      rw [h4] at e; cases e
  refine ⟨t.kp, t.wd, fun i s' hi => ?_, fun i s' b hi e => ?_, fun i j s' u' b hi hj e1 e2 => ?_, by rw [hl]; exact t.len⟩
  · obtain ⟨s, h1, h2⟩ := h i s' hi
    have q := t.sl i s h1
    have keep : SlOk K (cl (Av W ρ') H) H σ[i]? s := by
      cases s with
      | no => trivial
      | da d => obtain ⟨v, h1, h2⟩ := q; exact ⟨v, h1, rep_sub m d v h2⟩
      | ol b ds => obtain ⟨h1, xs, h2, h3⟩ := q; exact ⟨h1, xs, h2, reps_sub m ds xs h3⟩
      | od b ks ds => obtain ⟨h1, xs, h2, hk, h3⟩ := q; exact ⟨h1, xs, h2, hk, reps_sub m ds xs h3⟩
      | dr b c => obtain ⟨h1, h2⟩ := q; exact ⟨h1, h2.sub m rfl⟩
    rcases h2 with h2 | h2 | h2
    · subst h2; exact keep
    · subst h2
      cases s with
      | ol b ds =>
        obtain ⟨g1, xs, g2, g3⟩ := q
        exact ⟨_, g1, lst_rep (cl_of g2 (gone h1 rfl hi rfl)) (reps_sub m ds xs g3)⟩
      | od b ks ds =>
        obtain ⟨g1, xs, g2, gk, g3⟩ := q
        refine ⟨_, g1, ?_⟩
        simp only [rep]
        exact ⟨b, xs, rfl, cl_of g2 (gone h1 rfl hi rfl), gk, reps_sub m ds xs g3⟩
      | no => exact keep
      | da d => exact keep
      | dr b c => exact keep
    · subst h2; trivial
  · obtain ⟨s, h1, h2⟩ := h i s' hi
    rcases h2 with h2 | h2 | h2
    · subst h2; exact t.ob i _ b h1 e
    · subst h2; exact t.ob i _ b h1 (frz_addr e).2.1
    · subst h2; cases e
  · obtain ⟨s, h1, h2⟩ := h i s' hi
    obtain ⟨u, h3, h4⟩ := h j u' hj
    have x1 : s.addr = some b := by
      rcases h2 with h2 | h2 | h2
      · subst h2; exact e1
      · subst h2; exact (frz_addr e1).2.1
      · subst h2; cases e1
    have x2 : u.addr = some b := by
      rcases h4 with h4 | h4 | h4
      · subst h4; exact e2
      · subst h4; exact (frz_addr e2).2.1
      · subst h4; cases e2
    exact t.oj i j s u b h1 h3 x1 x2
def frzAll (ρ : List Sl) : List Sl := ρ.map Sl.frz
def frzAt (i : Nat) (ρ : List Sl) : List Sl := match ρ[i]? with
  | some s => ρ.set i s.frz
  | none => ρ
theorem At.frzAll (t : At K W B ρ σ H) : At K W B (frzAll ρ) σ H := t.weak (by unfold DL.frzAll; rw [List.length_map]) fun i s' hi => by
  unfold DL.frzAll at hi
  rw [List.getElem?_map] at hi
  cases e : ρ[i]? with
  | none => rw [e] at hi; cases hi
  | some s => rw [e] at hi; cases hi; exact ⟨s, rfl, .inr (.inl rfl)⟩
theorem At.frzAt (i : Nat) (t : At K W B ρ σ H) : At K W B (frzAt i ρ) σ H := by
  unfold DL.frzAt
  cases e : ρ[i]? with
  | none => exact t
  | some s =>
    refine t.weak (by simp only; rw [List.length_set]) fun j s' hj => ?_
    simp only at hj
    rcases set_get hj with ⟨e1, e2, _⟩ | ⟨e1, e2⟩
    · subst e1; subst e2; exact ⟨s, e, .inr (.inl rfl)⟩
    · exact ⟨s', e2, .inl rfl⟩

/-- a new object is put out of reach -/
theorem At.hide {H0 : Hp} {p : Addr} {o : HO} (a0 : At K W B ρ σ H0) (hp : H0 p = none) (g : Gr ρ H0 H) (a : At K W B ρ σ H) (hp' : H p = some o) : At K (fun b => W b ∨ b = p) (upd B p o) ρ σ H := by
  have np : ¬ Av W ρ p := a0.new_av hp
  have bp : B p = none := by
    cases e : B p with
    | none => rfl
    | some o => rw [a0.kp p o e] at hp; cases hp
  have av : ∀ b, Av (fun b => W b ∨ b = p) ρ b → Av W ρ b ∨ b = p := fun b z => by
    rcases z with (z | z) | z
    · exact .inl (.inl z)
    · exact .inr z
    · exact .inl (.inr z)
  have m0 : Sub (cl (Av W ρ) H0) (cl (Av (fun b => W b ∨ b = p) ρ) H) := cl_mono fun b o e n => ⟨g b o (fun z => n (dr_av z)) e, fun z => (av b z).elim n (ne_of_none e hp)⟩
  refine ⟨fun b u e => ?_, fun b z => ?_, fun j t e2 => ?_, fun j t b hj e => ?_, a.oj, a.len⟩
  · by_cases z : b = p
    · subst z; rw [upd_same] at e; cases e; exact hp'
    · rw [upd_ne z] at e; exact a.kp b u e
  · by_cases q : b = p
    · subst q; exact ⟨o, upd_same⟩
    · rcases z with z | z
      · obtain ⟨u, e⟩ := a.wd b z; exact ⟨u, by rw [upd_ne q]; exact e⟩
      · exact absurd z q
  · have q0 := a0.sl j t e2
    have q := a.sl j t e2
    have nd : ∀ {b}, t.addr = some b → (∀ c, t ≠ .dr b c) → ¬ Dv ρ b := fun {b} e nt ⟨c, hc⟩ => by
      obtain ⟨l, hl⟩ := mem_get hc
      have := a.oj j l _ _ b e2 hl e rfl
      subst this
      rw [e2] at hl; cases hl
      exact nt c rfl
    cases t with
    | no => trivial
    | da d => obtain ⟨v, h1, h2⟩ := q0; exact ⟨v, h1, rep_sub m0 d v h2⟩
    | ol b ds => obtain ⟨h1, xs, h2, h3⟩ := q0; exact ⟨h1, xs, g _ _ (nd rfl (fun c z => by cases z)) h2, reps_sub m0 ds xs h3⟩
    | od b ks ds => obtain ⟨h1, xs, h2, hl, h3⟩ := q0; exact ⟨h1, xs, g _ _ (nd rfl (fun c z => by cases z)) h2, hl, reps_sub m0 ds xs h3⟩
    | dr b c =>
      obtain ⟨h1, w, n, ns, p4, p5, p6⟩ := q0
      obtain ⟨_, w', n', ns', p4', p5', p6'⟩ := q
      exact ⟨h1, w', n', ns, m0 _ _ p4, p5, p6'⟩
  · have : b ≠ p := fun z => by subst z; exact np (.inr ⟨t, List.mem_of_getElem? hj, e⟩)
    rw [upd_ne this]
    exact a.ob j t b hj e
theorem At.unhide {W' : Addr → Prop} {B' : Hp} (a : At K W' B' ρ σ H) (s : Sub B B') (hw : ∀ x, W x → W' x) (wd : ∀ x, W x → ∃ o, B x = some o) : At K W B ρ σ H := by
  have av : ∀ b, Av W ρ b → Av W' ρ b := fun b z => z.imp (hw b) id
  have m : Sub (cl (Av W' ρ) H) (cl (Av W ρ) H) := cl_mono fun b o e n => ⟨e, fun z => n (av b z)⟩
  refine ⟨s.trans a.kp, wd, fun i t hi => ?_, fun i t b hi e => ?_, a.oj, a.len⟩
  · have q := a.sl i t hi
    cases t with
    | no => trivial
    | da d => obtain ⟨v, h1, h2⟩ := q; exact ⟨v, h1, rep_sub m d v h2⟩
    | ol b ds => obtain ⟨h1, xs, h2, h3⟩ := q; exact ⟨h1, xs, h2, reps_sub m ds xs h3⟩
    | od b ks ds => obtain ⟨h1, xs, h2, hk, h3⟩ := q; exact ⟨h1, xs, h2, hk, reps_sub m ds xs h3⟩
    | dr b c => obtain ⟨h1, h2⟩ := q; exact ⟨h1, h2.sub m rfl⟩
  · cases q : B b with
    | none => rfl
    | some o =>
      have := a.ob i t b hi e
      rw [s b o q] at this; cases this
theorem sub_upd {B : Hp} {p : Addr} {o : HO} (h : B p = none) : Sub B (upd B p o) := Sub.new h
/-- what is out of reach is changed -/
theorem At.updW {p : Addr} {o o' : HO} (a : At K (fun b => W b ∨ b = p) (upd B p o) ρ σ H) : At K (fun b => W b ∨ b = p) (upd B p o') ρ (σ) (upd H p o') := by
  have avp : Av (fun b => W b ∨ b = p) ρ p := .inl (.inr rfl)
  have m : Sub (cl (Av (fun b => W b ∨ b = p) ρ) H) (cl (Av (fun b => W b ∨ b = p) ρ) (upd H p o')) := cl_mono fun b u e n => by
    have : b ≠ p := fun z => n (by subst z; exact avp)
    exact ⟨by rw [upd_ne this]; exact e, n⟩
  have nep : ∀ {i : Nat} {t : Sl} {b : Addr}, ρ[i]? = some t → t.addr = some b → b ≠ p := fun {i t b} hi e z => by
    subst z
    have := a.ob i t _ hi e
    rw [upd_same] at this; cases this
  refine ⟨fun b u e => ?_, fun b z => ?_, fun i t hi => ?_, fun i t b hi e => ?_, a.oj, a.len⟩
  · by_cases z : b = p
    · subst z; rw [upd_same] at e ⊢; exact e
    · rw [upd_ne z] at e ⊢; exact a.kp b u (by rw [upd_ne z]; exact e)
  · by_cases q : b = p
    · subst q; exact ⟨o', upd_same⟩
    · obtain ⟨u, e⟩ := a.wd b z
      exact ⟨u, by rw [upd_ne q] at e ⊢; exact e⟩
  · have q := a.sl i t hi
    cases t with
    | no => trivial
    | da d => obtain ⟨v, h1, h2⟩ := q; exact ⟨v, h1, rep_sub m d v h2⟩
    | ol b ds => obtain ⟨h1, xs, h2, h3⟩ := q; exact ⟨h1, xs, (upd_ne (nep hi rfl)).trans h2, reps_sub m ds xs h3⟩
    | od b ks ds => obtain ⟨h1, xs, h2, hk, h3⟩ := q; exact ⟨h1, xs, (upd_ne (nep hi rfl)).trans h2, hk, reps_sub m ds xs h3⟩
    | dr b c => obtain ⟨h1, h2⟩ := q; exact ⟨h1, h2.sub m (upd_ne (nep hi rfl))⟩
  · have := nep hi e
    rw [upd_ne this]
    have q := a.ob i t b hi e
    rwa [upd_ne this] at q

/-! ### values that are stored -/
inductive VV where
  | c (d : D) | f (ds : List D)
def VRel (K : PySem.W.Frag) (W : Addr → Prop) (ρ : List Sl) (H H' : Hp) (v : V) : VV → Prop
  | .c d => rep K (cl (Av W ρ) H') d v
  | .f ds => ∃ p xs, v = .ref p ∧ H p = none ∧ H' p = some (.lst xs) ∧ reps K (cl (fun a => Av W ρ a ∨ a = p) H') ds xs
abbrev DV := List Sl → (VV → Prop) → Prop
def VOk (K : PySem.W.Frag) (te : TE) (dv : DV) : Prop := ∀ (W : Addr → Prop) (B : Hp) (ρ : List Sl) (σ : L2.St) (H : Hp) (k : VV → Prop) (Q : VK), At K W B ρ σ H → dv ρ k →
  (∀ vv v H', At K W B ρ σ H' → Gr ρ H H' → VRel K W ρ H H' v vv → k vv → Q v H') → te σ H Q
def VV.put : VV → Nat → List Sl → (List Sl → Prop) → Prop
  | .c d, i, ρ, nx => nx (ρ.set i (.da d))
  | .f ds, i, ρ, nx => ∀ p, nx (ρ.set i (.ol p ds))
def dvC (de : DE) : DV := fun ρ k => de ρ fun d => k (.c d)
def dvF (dl : DL) : DV := fun ρ k => dl ρ fun ds => k (.f ds)
theorem EOk.v {te : TE} {de : DE} (h : EOk K te de) : VOk K te (dvC de) := fun W B ρ σ H k Q a d q => h W B ρ σ H _ _ a d fun d v H' a' g r kk => q (.c d) v H' a' g r kk
theorem FOk.v {te : TE} {dl : DL} (h : FOk K te dl) : VOk K te (dvF dl) := fun W B ρ σ H k Q a d q => h W B ρ σ H _ _ a d fun ds p xs H' a' g hp hp' r kk => q (.f ds) _ H' a' g ⟨p, xs, rfl, hp, hp', r⟩ kk
theorem At.put {H' : Hp} {vv : VV} {v : V} {i : Nat} {nx : List Sl → Prop} (a0 : At K W B ρ σ H) (g : Gr ρ H H') (a : At K W B ρ σ H') (r : VRel K W ρ H H' v vv) (h : vv.put i ρ nx) : ∃ ρ', At K W B ρ' (σ.set i (some v)) H' ∧ nx ρ' ∧ (∃ s, ρ' = ρ.set i s) := by
  cases vv with
  | c d => exact ⟨_, a.setD r, h, _, rfl⟩
  | f ds =>
    obtain ⟨p, xs, rfl, hp, hp', r⟩ := r
    exact ⟨_, a0.setO hp g a (s := .ol p ds) rfl ⟨rfl, xs, hp', r⟩, h p, _, rfl⟩
end

structure XV (X : Cx) (e : Expr) (te : TE) (dv : DV) : Prop where
  pe : PE X e te
  ok : VOk X.K te dv
section
variable {X : Cx} {e a b : Expr} {te ta tb : TE} {de : DE} {dl : DL} {dv dw : DV} {pos p1 p2 p3 : Pos}
theorem XE.v (h : XE X e te de) : XV X e te (dvC de) := ⟨h.pe, h.ok.v⟩
theorem XF.v (h : XF X e te dl) : XV X e te (dvF dl) := ⟨h.pe, h.ok.v⟩

/-! ### statements -/
def dSet (i : Nat) (dv : DV) : DS := fun E ρ => dv ρ fun vv => vv.put i ρ E.nx
theorem okSet {K : PySem.W.Frag} {i : Nat} (h : VOk K te dv) : SOk K (tAsg te (gName i)) (dSet i dv) := fun W B ρ σ H E G at' d nx rt bk ct =>
  h W B ρ σ H _ _ at' d fun vv v H' a' g r kk => by
    obtain ⟨ρ', a2, n2, _⟩ := at'.put g a' r kk
    exact nx ρ' _ H' a2 n2
theorem s_set {i : Nat} {x : Str} {pos' : Pos} (hN : X.N.Nodup) (hi : X.N[i]? = some x) (he : XV X e te dv) (hx : Loc X.env.scope x := by first | exact .inl rfl | exact .inr rfl) (hs : swapsWith e (some (.Name x pos')) pos.line X.env = pure false := by rfl)
    (hf : X.fn x = true ∨ X.env.scope.names.lookup x = some .local := by first | exact .inl rfl | exact .inr rfl) : XS X (.Assign [.Name x pos'] e pos) (tAsg te (gName i)) (dSet i dv) := ⟨ps_set hN hi hx he.pe hs hf, okSet he.ok⟩
def dPar (i j : Nat) (dv dw : DV) : DS := fun E ρ => (∀ a c, ρ[i]? ≠ some (.dr a c)) ∧ dv ρ fun v => dw ρ fun w => v.put i ρ fun ρ' => w.put j ρ' E.nx
theorem okPar {K : PySem.W.Frag} {i j : Nat} (hij : i ≠ j) (h : VOk K ta dv) (h' : VOk K tb dw) : SOk K (tPar i j (tCons ta (tCons tb tNil))) (dPar i j dv dw) := fun W B ρ σ H E G at' ⟨nd, d⟩ nx rt bk ct =>
  h W B ρ σ H _ _ at' d fun vv v H1 a1 g1 r1 k1 => by
    have low : ∀ (s : Sl) (x : Option V) (H2 : Hp) (w : V) (ww : VV), Gr ρ H1 H2 → At K W B (ρ.set i s) (σ.set i x) H1 → At K W B (ρ.set i s) (σ.set i x) H2 → VRel K W (ρ.set i s) H1 H2 w ww → ww.put j (ρ.set i s) E.nx → G.nx ((σ.set i x).set j (some w)) H2 := fun s x H2 w ww g2 b1 b2 r k => by
      obtain ⟨ρ', a3, n3, _⟩ := b1.put (fun b o n e => g2 b o (fun ⟨c, z⟩ => n (by
        obtain ⟨l, hl⟩ := mem_get z
        have : i ≠ l := fun q => by subst q; exact nd b c hl
        exact ⟨c, List.mem_of_getElem? (i := l) (by rw [List.getElem?_set_ne this]; exact hl)⟩)) e) b2 r k
      exact nx ρ' _ H2 a3 n3
    cases vv with
    | c d =>
      refine h' W B ρ σ H1 _ _ a1 k1 fun ww w H2 a2 g2 r2 k2 => ⟨v, w, rfl, ?_⟩
      have m : ∀ b, Av W (ρ.set i (.da d)) b → Av W ρ b := fun b z => av_less (fun t ht a e => by
        rcases mem_set ht with q | q
        · subst q; cases e
        · exact q) z
      refine low (.da d) (some v) H2 w ww g2 (a1.setD r1) (a2.setD (rep_sub (Gr_cl g2) d v r1)) ?_ k2
      cases ww with
      | c d' => exact rep_sub (cl_mono fun b o e n => ⟨e, fun z => n (m b z)⟩) d' w r2
      | f ds =>
        obtain ⟨p, xs, e, hp, hp', r⟩ := r2
        exact ⟨p, xs, e, hp, hp', reps_sub (cl_mono fun b o e n => ⟨e, fun z => n (z.imp (m b) id)⟩) ds xs r⟩
    | f ds =>
      obtain ⟨p, xs, rfl, hp, hp', r⟩ := r1
      have bp : B p = none := by
        cases e : B p with
        | none => rfl
        | some o => rw [at'.kp p o e] at hp; cases hp
      refine h' (fun b => W b ∨ b = p) (upd B p (.lst xs)) ρ σ H1 _ _ (at'.hide hp g1 a1 hp') k1 fun ww w H2 a2 g2 r2 k2 => ⟨.ref p, w, rfl, ?_⟩
      have a2' : At K W B ρ σ H2 := a2.unhide (Sub.new bp) (fun x z => .inl z) at'.wd
      have npd : ¬ Dv ρ p := fun z => at'.new_av hp (dr_av z)
      have m : ∀ b, Av W (ρ.set i (.ol p ds)) b → Av (fun b => W b ∨ b = p) ρ b := fun b z => by
        rcases z with z | ⟨t, ht, e⟩
        · exact .inl (.inl z)
        · rcases mem_set ht with q | q
          · subst q; cases e; exact .inl (.inr rfl)
          · exact .inr ⟨t, q, e⟩
      refine low (.ol p ds) _ H2 w ww g2 (at'.setO hp g1 a1 (s := .ol p ds) rfl ⟨rfl, xs, hp', r⟩) (at'.setO hp (g1.trans g2) a2' (s := .ol p ds) rfl ⟨rfl, xs, g2 p _ npd hp', reps_sub (cl_mono fun b o e n => ⟨g2 b o (fun z => n (.inl (dr_av z))) e, n⟩) ds xs r⟩) ?_ (k2 p)
      cases ww with
      | c d' => exact rep_sub (cl_mono fun b o e n => ⟨e, fun z => n (m b z)⟩) d' w r2
      | f es =>
        obtain ⟨p', xs', e, hq, hq', r⟩ := r2
        exact ⟨p', xs', e, hq, hq', reps_sub (cl_mono fun b o e n => ⟨e, fun z => n (z.imp (m b) id)⟩) es xs' r⟩
theorem s_par {i j : Nat} {x y : Str} {px py pt : Pos} {kt k2 : Nat} {pt2 : Pos} (hc : X.calm = true) (hN : X.N.Nodup) (hi : X.N[i]? = some x) (hj : X.N[j]? = some y) (hij : i ≠ j)
    (ha : XV X a ta dv) (hb : XV X b tb dw) (hx : X.env.scope.names.lookup x = some .local := by rfl) (hy : X.env.scope.names.lookup y = some .local := by rfl)
    (hs1 : starEach [a, b] X.env = [(false, eval a X.env), (false, eval b X.env)] := by rfl) (hs2 : starEach [b] X.env = [(false, eval b X.env)] := by rfl)
    (hw : swappedStores [.Tuple [.Name x px, .Name y py] kt pt] (.Tuple [a, b] k2 pt2) X.env = pure (some [x, y]) := by rfl)
    (hs : swapsWithSole [.Tuple [.Name x px, .Name y py] kt pt] (.Tuple [a, b] k2 pt2) pos.line X.env = pure false := by rfl) :
    XS X (.Assign [.Tuple [.Name x px, .Name y py] kt pt] (.Tuple [a, b] k2 pt2) pos) (tPar i j (tCons ta (tCons tb tNil))) (dPar i j dv dw) :=
  ⟨ps_par hc hN hi hj hij hx hy (pa_cons ha.pe (pa_cons hb.pe pa_nil hs2) (by rw [hs1, hs2])) hw hs, okPar hij ha.ok hb.ok⟩
end
end DL

namespace DL
open PySem PySem.Spec L2

section
variable {X : Cx} {e a b : Expr} {te ta tb : TE} {de : DE} {dl : DL} {st : Stmt} {sts : List Stmt} {ts tu : TS} {ds du : DS} {tt : TT} {dt : DT} {pos : Pos}
/-! ### blocks, if, return -/
def dNext : DS := fun E ρ => E.nx ρ
def dSeq (d u : DS) : DS := fun E ρ => d { E with nx := u E } ρ
theorem ss_nil : XSs X [] tNext dNext := ⟨pss_nil, fun W B ρ σ H E G at' d nx rt bk ct => nx ρ σ H at' d⟩
theorem ss_cons (h : XS X st ts ds) (h' : XSs X sts tu du) : XSs X (st :: sts) (tSeq ts tu) (dSeq ds du) := ⟨pss_cons h.ps h'.ps, fun W B ρ σ H E G at' d nx rt bk ct =>
  h.ok W B ρ σ H _ _ at' d (fun ρ' σ' H' a' d' => h'.ok W B ρ' σ' H' E G a' d' nx rt bk ct) rt bk ct⟩
theorem ss_one (h : XS X st ts ds) : XSs X [st] ts ds := ⟨pss_one h.ps, h.ok⟩
def dIf (dt : DT) (d u : DS) : DS := fun E ρ => dt ρ fun b => if b = true then d E ρ else u E ρ
theorem s_if {c : Expr} {xs ys : List Stmt} (hc : XT X c tt dt) (h : XSs X xs ts ds) (h' : XSs X ys tu du) : XS X (.If c xs ys pos) (tIfS tt ts tu) (dIf dt ds du) := ⟨ps_if hc.pt h.ps h'.ps, fun W B ρ σ H E G at' d nx rt bk ct =>
  hc.ok W B ρ σ H _ _ at' d fun b H' a' g k => by
    cases b with
    | true => exact iteT (h.ok W B ρ σ H' E G a' (by simpa using k) nx rt bk ct)
    | false => exact iteF (h'.ok W B ρ σ H' E G a' (by simpa using k) nx rt bk ct)⟩
def dRet (de : DE) : DS := fun E ρ => de (frzAll ρ) fun d => E.rt d (frzAll ρ)
theorem s_ret (h : XE X e te de) : XS X (.Return (some e) pos) (tRet te) (dRet de) := ⟨ps_ret h.pe, fun W B ρ σ H E G at' d nx rt bk ct =>
  h.ok W B (frzAll ρ) σ H _ _ at'.frzAll d fun x v H' a' g r k => rt _ σ H' x v a' r k⟩
def dRetN : DS := fun E ρ => E.rt .non ρ
theorem s_retN : XS X (.Return none pos) tRetN dRetN := ⟨ps_retN, fun W B ρ σ H E G at' d nx rt bk ct => rt ρ σ H .non .non at' non_rep d⟩
def dNever : DS := fun _ _ => False
theorem s_never : XS X st tNever dNever := ⟨ps_never, fun W B ρ σ H E G at' d => d.elim⟩
theorem ss_never : XSs X sts tNever dNever := ⟨pss_never, fun W B ρ σ H E G at' d => d.elim⟩
theorem s_pass : XS X (.Pass pos) tNext dNext := ⟨ps_pass, fun W B ρ σ H E G at' d nx rt bk ct => nx ρ σ H at' d⟩
def dBrk : DS := fun E ρ => E.bk ρ
def dCnt : DS := fun E ρ => E.ct ρ
theorem s_break : XS X (.Break pos) tBreak dBrk := ⟨ps_break, fun W B ρ σ H E G at' d nx rt bk ct => bk ρ σ H at' d⟩
theorem s_continue : XS X (.Continue pos) tCont dCnt := ⟨ps_continue, fun W B ρ σ H E G at' d nx rt bk ct => ct ρ σ H at' d⟩
def dDrop (de : DE) : DS := fun E ρ => de ρ fun _ => E.nx ρ
theorem s_expr (h : XB X e te de) (hs : swapsWith e none pos.line X.env = pure false := by rfl) : XS X (.Expr e pos) (tDrop te) (dDrop de) := ⟨ps_expr h.pe hs, fun W B ρ σ H E G at' d nx rt bk ct =>
  h.ok W B ρ σ H _ _ at' d fun x v H' a' g r k => nx ρ σ H' a' k⟩
/-- ahead of a statement a name gives up what it owns -/
theorem XS.frz (i : Nat) (h : XS X st ts ds) : XS X st ts (fun E ρ => ds E (frzAt i ρ)) := ⟨h.ps, fun W B ρ σ H E G at' d => h.ok W B _ σ H E G (at'.frzAt i) d⟩

/-! ### lists that a name owns -/
theorem own_av {ρ : List Sl} {W : Addr → Prop} {i : Nat} {s : Sl} {a : Addr} (h : ρ[i]? = some s) (e : s.addr = some a) : Av W ρ a := .inr ⟨s, List.mem_of_getElem? h, e⟩
theorem own_ndv {K : PySem.W.Frag} {W : Addr → Prop} {B : Hp} {ρ : List Sl} {σ : L2.St} {H : Hp} {i : Nat} {s : Sl} {a : Addr} (t : At K W B ρ σ H) (h : ρ[i]? = some s) (e : s.addr = some a) (n : ∀ c, s ≠ .dr a c) : ¬ Dv ρ a := fun ⟨c, hc⟩ => by
  obtain ⟨l, hl⟩ := mem_get hc
  have := t.oj i l _ _ a h hl e rfl
  subst this
  rw [h] at hl; cases hl
  exact n c rfl
theorem set_self {l : List Sl} {i : Nat} {x : Sl} (h : l[i]? = some x) : l.set i x = l := by
  apply List.ext_getElem?
  intro j
  by_cases e : i = j
  · subst e
    rw [List.getElem?_set_self (List.getElem?_eq_some_iff.mp h).1, h]
  · rw [List.getElem?_set_ne e]
def dApp (i : Nat) (de : DE) : DS := fun E ρ => ∃ a ds, ρ[i]? = some (.ol a ds) ∧ de ρ fun d => ds.length < 10000000 ∧ E.nx (ρ.set i (.ol a (ds ++ [d])))
theorem sl7' {n : Nat} (h : n < 10000000) : n < sizeLine := Nat.lt_of_lt_of_le h (by rw [sizeLine_eq]; decide)
theorem okApp {K : PySem.W.Frag} {i : Nat} (h : EOk K te de) : SOk K (tDrop (tBM K "list" rAppend (tVar i) (tCons te tNil))) (dApp i de) := fun W B ρ σ H E G at' ⟨a, ds, hi, d⟩ nx rt bk ct => by
  obtain ⟨h1, xs, h2, h3⟩ := at'.sl i _ hi
  refine ⟨.ref a, h1, .inl ⟨rfl, xs, .inl (.inl h2)⟩, h W B ρ σ H _ _ at' d fun x v H' a' g r ⟨hl, k⟩ => ?_⟩
  obtain ⟨q1, ys, q2, q3⟩ := a'.sl i _ hi
  refine ⟨a, ys, v, rfl, rfl, q2, sl7' (by rw [reps_len q3]; exact hl), nx (ρ.set i (.ol a (ds ++ [x]))) σ _ (a'.updO (s' := .ol a (ds ++ [x])) hi rfl rfl ⟨q1, _, upd_same, reps_append q3 (reps_one r)⟩) k⟩
theorem s_app {i : Nat} {o : Expr} {p1 p2 : Pos} (ho : PE X o (tVar i)) (h : XE X e te de) (hbase : attributeBase o "append" X.env (eval o X.env) = eval o X.env := by rfl)
    (hfew : ((backTo p2 (starEach [e] X.env)).all (fun x => !x.1) && (backToKw p2 (keywordEach [] X.env)).all (fun x => x.1.isSome)
      && decide (([e] : List Expr).length + ([] : List Keyword).length + (if ([] : List Keyword).isEmpty then 0 else 1) < 30)) = true := by rfl)
    (hline : (p1.endLine == p2.line) = true := by rfl) (hs : starEach [e] X.env = [(false, eval e X.env)] := by rfl) (hw : swapsWith (.Call (.Attribute o "append" p1) [e] [] p2) none pos.line X.env = pure false := by rfl) :
    XS X (.Expr (.Call (.Attribute o "append" p1) [e] [] p2) pos) (tDrop (tBM X.K "list" rAppend (tVar i) (tCons te tNil))) (dApp i de) :=
  ⟨ps_expr (pe_bm PySem.F.plainAttrs_list PySem.F.slot_list_append PySem.F.type_list_append mt_append ho (pa_cons h.pe pa_nil hs) hbase hfew hline hs rfl) hw, okApp h.ok⟩

/-! ### while -/
def dWhile (dt : DT) (db : DS) : DS := fun E ρ => ∃ I : Nat → List Sl → Prop, (∃ m, I m ρ) ∧ ∀ m ρ', I m ρ' → dt ρ' fun b => if b = true then
  db { E with nx := fun r => ∃ m', m' < m ∧ I m' r, ct := fun r => ∃ m', m' < m ∧ I m' r, bk := E.nx } ρ' else E.nx ρ'
theorem s_while {c : Expr} {body : List Stmt} (hp : PassesOwn (model X.prog X.w) X.A X.env X.xe) (hc : XT X c tt dt) (h : XSs X body ts ds) : XS X (.While c body [] pos) (tWhile tt ts) (dWhile dt ds) :=
  ⟨ps_while hp hc.pt h.ps, fun W B ρ σ H E G at' ⟨I, ⟨m0, i0⟩, turn⟩ nx rt bk ct => by
    refine ⟨fun m σ' H' => ∃ ρ', At X.K W B ρ' σ' H' ∧ I m ρ', ⟨m0, ρ, at', i0⟩, ?_⟩
    rintro m σ' H' ⟨ρ', a', i'⟩
    refine hc.ok W B ρ' σ' H' _ _ a' (turn m ρ' i') fun b H2 a2 g k => ?_
    cases b with
    | false => exact iteF (nx ρ' σ' H2 a2 (by simpa using k))
    | true =>
      refine iteT ⟨fun σ3 H3 => ∃ m', m' < m ∧ ∃ ρ3, At X.K W B ρ3 σ3 H3 ∧ I m' ρ3, fun σ3 H3 q => q, ?_⟩
      exact h.ok W B ρ' σ' H2 { E with nx := fun r => ∃ m', m' < m ∧ I m' r, ct := fun r => ∃ m', m' < m ∧ I m' r, bk := E.nx } _ a2 (by simpa using k) (fun ρ3 σ3 H3 a3 ⟨m', l, i3⟩ => ⟨m', l, ρ3, a3, i3⟩) rt nx (fun ρ3 σ3 H3 a3 ⟨m', l, i3⟩ => ⟨m', l, ρ3, a3, i3⟩)⟩
end

/-! ### what is walked -/
def ItOk (K : PySem.W.Frag) (C : Hp) (J : It) (ds : List D) : Prop := ∃ (G : Hp → Prop) (Y : Nat → Hp → V → Hp → Prop), Walk J ds.length G Y ∧ (∀ H, Sub C H → G H) ∧
  ∀ i H x H' d, ds[i]? = some d → Y i H x H' → ∀ N : Addr → Prop, (∀ a, N a → ∃ o, H a = some o) → Sub C (cl N H) → Sub H H' ∧ rep K (cl N H') d x
def IOk (K : PySem.W.Frag) (wi : TI) (di : DL) : Prop := ∀ (W : Addr → Prop) (B : Hp) (ρ : List Sl) (σ : L2.St) (H : Hp) (k : List D → Prop) (R : It → Hp → Prop), At K W B ρ σ H → di ρ k →
  (∀ ds J H', At K W B ρ σ H' → Gr ρ H H' → ItOk K (cl (Av W ρ) H') J ds → k ds → R J H') → wi σ H R
structure XI (X : Cx) (tg it : Expr) (wi : TI) (di : DL) : Prop where
  pi : PI X tg it wi
  ok : IOk X.K wi di
/-- but for some places, which own nothing behind, the names are as they were -/
def Othr (is : List Nat) (ρ ρ' : List Sl) : Prop := (∀ i, i ∉ is → ρ'[i]? = ρ[i]?) ∧ ∀ i ∈ is, ∀ s, ρ'[i]? = some s → s.addr = none
/-- a target: the places that it stores -/
def GsOk (K : PySem.W.Frag) (g : TG) (dg : DG) (is : List Nat) : Prop := ∀ (W : Addr → Prop) (B : Hp) (ρ : List Sl) (σ : L2.St) (H : Hp) (d : D) (v : V) (nx : List Sl → Prop) (Q : L2.St → Hp → Prop), At K W B ρ σ H → rep K (cl (Av W ρ) H) d v → dg d ρ nx →
  (∀ ρ' σ', At K W B ρ' σ' H → (∀ vs : List Nat, (∀ i ∈ is, i ∈ vs) → wipe σ' vs = wipe σ vs) → Sub (cl (Av W ρ) H) (cl (Av W ρ') H) → Othr is ρ ρ' → nx ρ' → Q σ' H) → g v σ H Q
structure XGs (X : Cx) (tg : Expr) (g : TG) (dg : DG) (is : List Nat) : Prop where
  pg : PG X tg g
  ok : GsOk X.K g dg is
theorem wipe_set {σ : L2.St} {i : Nat} {x : Option V} : ∀ {vs : List Nat}, i ∈ vs → wipe (σ.set i x) vs = wipe σ vs
  | [], h => by cases h
  | v :: vs, h => by
    unfold wipe
    by_cases e : i ∈ vs
    · rw [wipe_set e]
    · have : i = v := by
        rcases List.mem_cons.mp h with z | z
        · exact z
        · exact absurd z e
      subst this
      have : ∀ {σ : L2.St} {x : Option V} {ws : List Nat}, i ∉ ws → wipe (σ.set i x) ws = (wipe σ ws).set i x := fun {σ x ws} hn => by
        induction ws with
        | nil => rfl
        | cons w ws ih =>
          have h1 : i ≠ w := fun z => hn (by simp [z])
          have h2 : i ∉ ws := fun z => hn (by simp [z])
          unfold wipe
          rw [ih h2, List.set_comm _ _ h1]
      rw [this e, List.set_set]
def dgName (i : Nat) : DG := fun d ρ nx => nx (ρ.set i (.da d))
theorem set_da_less {ρ : List Sl} {i : Nat} {d : D} {W : Addr → Prop} {H : Hp} : Sub (cl (Av W ρ) H) (cl (Av W (ρ.set i (.da d))) H) := cl_less fun t ht b e => by
  rcases mem_set ht with q | q
  · subst q; cases e
  · exact q
abbrev DGs := List D → List Sl → (List Sl → Prop) → Prop
def dgNil : DGs := fun ds ρ nx => ds = [] ∧ nx ρ
def dgCons (dt : DG) (du : DGs) : DGs := fun ds ρ nx => ∃ d r, ds = d :: r ∧ dt d ρ fun ρ' => du r ρ' nx
def dgTup (n : Nat) (dg : DGs) : DG := fun d ρ nx => ∃ ds, d = .tup ds ∧ ds.length = n ∧ dg ds ρ nx
def GLOk (K : PySem.W.Frag) (g : TGs) (dg : DGs) (is : List Nat) : Prop := ∀ (W : Addr → Prop) (B : Hp) (ρ : List Sl) (σ : L2.St) (H : Hp) (ds : List D) (vs : List V) (nx : List Sl → Prop) (Q : L2.St → Hp → Prop), At K W B ρ σ H → reps K (cl (Av W ρ) H) ds vs → dg ds ρ nx →
  (∀ ρ' σ', At K W B ρ' σ' H → (∀ ws : List Nat, (∀ i ∈ is, i ∈ ws) → wipe σ' ws = wipe σ ws) → Sub (cl (Av W ρ) H) (cl (Av W ρ') H) → Othr is ρ ρ' → nx ρ' → Q σ' H) → g vs σ H Q
structure XGL (X : Cx) (ts : List Expr) (g : TGs) (dg : DGs) (is : List Nat) : Prop where
  pg : PGs X ts g
  ok : GLOk X.K g dg is
section
variable {X : Cx} {e : Expr} {es : List Expr} {pos : Pos}
theorem g_name {i : Nat} {x : Str} (hN : X.N.Nodup) (hi : X.N[i]? = some x) (hx : Loc X.env.scope x := by first | exact .inl rfl | exact .inr rfl) (hf : X.fn x = true ∨ X.env.scope.names.lookup x = some .local := by first | exact .inl rfl | exact .inr rfl) : XGs X (.Name x pos) (gName i) (dgName i) [i] :=
  ⟨pg_name hN hi hx hf, fun W B ρ σ H d v nx Q at' r h q => q _ _ (at'.setD r) (fun vs hv => wipe_set (hv i (by simp))) set_da_less ⟨fun j hj => List.getElem?_set_ne (fun z => hj (by simp [z])), fun j hj s hs => by
    have : j = i := by simpa using hj
    subst this
    rcases set_get hs with ⟨_, e, _⟩ | ⟨e, _⟩
    · subst e; rfl
    · exact absurd rfl e⟩ h⟩
theorem gl_nil : XGL X [] gNil dgNil [] := ⟨pgs_nil, fun W B ρ σ H ds vs nx Q at' r ⟨e, h⟩ q => by
  subst e
  simp only [reps] at r
  exact ⟨r, q ρ σ at' (fun _ _ => rfl) (Sub.refl _) ⟨fun _ _ => rfl, fun i hi => by simp at hi⟩ h⟩⟩
theorem gl_cons {t : TG} {u : TGs} {dt : DG} {du : DGs} {is js : List Nat} (h1 : XGs X e t dt is) (h2 : XGL X es u du js)
    (hs : (assignEach (e :: es) X.env).map (·.2) = assign e X.env :: (assignEach es X.env).map (·.2) := by rfl) : XGL X (e :: es) (gCons t u) (dgCons dt du) (is ++ js) :=
  ⟨pgs_cons h1.pg h2.pg hs, fun W B ρ σ H ds vs nx Q at' r ⟨d, dr, e, h⟩ q => by
    subst e
    simp only [reps] at r
    obtain ⟨v, vr, rfl, r1, r2⟩ := r
    refine ⟨v, vr, rfl, h1.ok W B ρ σ H d v _ _ at' r1 h fun ρ' σ' a' w s o k => ?_⟩
    exact h2.ok W B ρ' σ' H dr vr nx _ a' (reps_sub s dr vr r2) k fun ρ2 σ2 a2 w2 s2 o2 k2 => q ρ2 σ2 a2 (fun ws hw => (w2 ws fun i hi => hw i (List.mem_append_right _ hi)).trans (w ws fun i hi => hw i (List.mem_append_left _ hi))) (s.trans s2) ⟨fun i hi => (o2.1 i fun z => hi (List.mem_append_right _ z)).trans (o.1 i fun z => hi (List.mem_append_left _ z)), fun i hi s hs => by
      by_cases z : i ∈ js
      · exact o2.2 i z s hs
      · rw [o2.1 i z] at hs
        exact o.2 i ((List.mem_append.mp hi).resolve_right z) s hs⟩ k2⟩
theorem g_tup {g : TGs} {dg : DGs} {is : List Nat} {k n : Nat} (hc : X.calm = true) (h : XGL X es g dg is)
    (hn : (assignEach es X.env).length = n := by rfl) (hst : (assignEach es X.env).findIdx? (·.1) = none := by rfl) : XGs X (.Tuple es k pos) (gTup X.K n g) (dgTup n dg) is :=
  ⟨pg_tup hc h.pg hn hst, fun W B ρ σ H d v nx Q at' r ⟨ds, e, hl, k⟩ q => by
    subst e
    obtain ⟨a, xs, rfl, r1, r2⟩ := rep_tup r
    exact ⟨a, xs, rfl, st_sub cl_sub r1, (reps_len r2).trans hl, h.ok W B ρ σ H ds xs nx Q at' r2 k q⟩⟩
/-- x, y = e -/
def dAsgT (de : DE) (dg : DG) : DS := fun E ρ => de ρ fun d => dg d ρ E.nx
theorem s_asgT {tg : Expr} {te : TE} {de : DE} {g : TG} {dg : DG} {is : List Nat} (he : XE X e te de) (hg : XGs X tg g dg is) (hs : swapsWithSole [tg] e pos.line X.env = pure false := by rfl) (hw : swappedStores [tg] e X.env = pure none := by rfl)
    (h1 : (assignEach [tg] X.env).map (·.2) = [assign tg X.env] := by rfl) : XS X (.Assign [tg] e pos) (tAsg te g) (dAsgT de dg) := ⟨ps_asg he.pe hg.pg hs hw h1, fun W B ρ σ H E G at' d nx rt bk ct =>
  he.ok W B ρ σ H _ _ at' d fun x v H' a' gr r k => hg.ok W B ρ σ H' x v E.nx _ a' r k fun ρ' σ' a2 _ _ _ k2 => nx ρ' σ' H' a2 k2⟩

/-! lists, tuples -/
theorem pi_or {tg it : Expr} {w1 w2 : TI} (h1 : PI X tg it w1) (h2 : PI X tg it w2) : PI X tg it (fun σ H R => w1 σ H R ∨ w2 σ H R) := ⟨fun pins s σ H R I h => h.elim (h1.run pins s σ H R I) (h2.run pins s σ H R I)⟩
def iSeq (K : PySem.W.Frag) (te : TE) : TI := fun σ H R => te σ H fun x H1 => ∃ a, x = .ref a ∧ (((∃ xs, SqL K H1 a xs) ∧ R (Itl K a) H1) ∨ ((∃ xs, SqT K H1 a xs) ∧ R (Itt K a) H1))
theorem pi_seq {tg it : Expr} {te : TE} (h : PE X it te) : PI X tg it (iSeq X.K te) := by
  refine ⟨fun pins s σ H R I w => ?_⟩
  refine thn (h.run pins s σ H _ I w) fun u s1 ⟨x, H1, I1, r1, a, e, q⟩ => ?_
  subst e
  cases r1
  have fp : ∀ b ∈ [s1.heap.objs.size], FpOk X pins H1 b := fun b hb => by
    have e : b = s1.heap.objs.size := by simpa using hb
    subst e
    exact I1.fpOk (Nat.le_refl _) (I1.hok.fresh (Nat.le_refl _))
  rcases q with ⟨⟨xs, hx⟩, q⟩ | ⟨⟨xs, hx⟩, q⟩
  · obtain ⟨its, rv, p, hz⟩ := I1.list hx
    refine wpAny_pyIter_list p.isList ?_
    exact ⟨s1.heap.objs.size, [s1.heap.objs.size], _, _, H1, rfl, I1.kept (t' := s1.toks) fun b o e => Heap.get?_push_of_some _ e, turn_list a _, ⟨_, Heap.get?_push_size _ rfl, rfl, rfl⟩, fp, q⟩
  · obtain ⟨its, rv, p, hz⟩ := I1.tuple hx
    refine wpAny_pyIter_tuple (show s1.heap.IsTuple a its.toArray from p) ?_
    exact ⟨s1.heap.objs.size, [s1.heap.objs.size], _, _, H1, rfl, I1.kept (t' := s1.toks) fun b o e => Heap.get?_push_of_some _ e, turn_tuple a _, ⟨_, Heap.get?_push_size _ rfl, rfl, rfl⟩, fp, q⟩
end
end DL

namespace DL
open PySem PySem.Spec L2

section
variable {K : PySem.W.Frag}
theorem it_list {C : Hp} {a : Addr} {xs : List V} {ds : List D} (h : SqL K C a xs) (r : reps K C ds xs) : ItOk K C (Itl K a) ds := by
  refine ⟨fun H => SqL K H a xs, YAt xs, by rw [← reps_len r]; exact walk_list, fun H s => sl_sub s h, fun i H x H' d hd y N hN s => ?_⟩
  obtain ⟨e, hx⟩ := y
  subst e
  obtain ⟨x', h1, h2⟩ := reps_get r hd
  rw [hx] at h1; cases h1
  exact ⟨Sub.refl _, rep_sub s d x h2⟩
theorem it_tup {C : Hp} {a : Addr} {xs : List V} {ds : List D} (h : SqT K C a xs) (r : reps K C ds xs) : ItOk K C (Itt K a) ds := by
  refine ⟨fun H => SqT K H a xs, YAt xs, by rw [← reps_len r]; exact walk_tup, fun H s => st_sub s h, fun i H x H' d hd y N hN s => ?_⟩
  obtain ⟨e, hx⟩ := y
  subst e
  obtain ⟨x', h1, h2⟩ := reps_get r hd
  rw [hx] at h1; cases h1
  exact ⟨Sub.refl _, rep_sub s d x h2⟩
theorem okSeqI {te : TE} {de : DE} (h : EOk K te de) : IOk K (iSeq K te) (deSeq de) := fun W B ρ σ H k R at' d q =>
  h W B ρ σ H _ _ at' d fun x v H1 a1 g1 r1 ⟨ds, e, kk⟩ => by
    cases x with
    | fz ns => cases e; simp only [rep] at r1; obtain ⟨a, h1, h2⟩ := r1; exact ⟨a, h1, .inl ⟨⟨_, sl_sub cl_sub h2⟩, q _ _ _ a1 g1 (it_list h2 (ints_reps ns)) kk⟩⟩
    | lst xs => cases e; obtain ⟨a, xs, h1, h2, h3⟩ := rep_lst r1; exact ⟨a, h1, .inl ⟨⟨_, .inl (.inl (of_cl h2).1)⟩, q _ _ _ a1 g1 (it_list (.inl (.inl h2)) h3) kk⟩⟩
    | tup xs => cases e; obtain ⟨a, xs, h1, h2, h3⟩ := rep_tup r1; exact ⟨a, h1, .inr ⟨⟨_, st_sub cl_sub h2⟩, q _ _ _ a1 g1 (it_tup h2 h3) kk⟩⟩
    | _ => cases e
/-- lo, lo + 1, .., n of them -/
def rng (lo : Int) (n : Nat) : List D := (List.range n).map fun i => .int (lo + (i : Nat))
theorem rng_len (lo : Int) (n : Nat) : (rng lo n).length = n := by simp [rng]
theorem rng_get {lo : Int} {n i : Nat} {d : D} (h : (rng lo n)[i]? = some d) : i < n ∧ d = .int (lo + (i : Nat)) := by
  unfold rng at h
  rw [List.getElem?_map] at h
  by_cases hi : i < n
  · rw [List.getElem?_range hi] at h; cases h; exact ⟨hi, rfl⟩
  · rw [List.getElem?_eq_none (by simp; omega)] at h; cases h
theorem it_rng {C : Hp} {lo : Int} {n : Nat} : ItOk K C (Itr lo n) (rng lo n) := by
  refine ⟨fun _ => True, YFn fun i => .int (lo + i), by rw [rng_len]; exact walk_range, fun _ _ => trivial, fun i H x H' d hd y N hN s => ?_⟩
  obtain ⟨e, hx⟩ := y
  subst e; subst hx
  obtain ⟨_, rfl⟩ := rng_get hd
  exact ⟨Sub.refl _, int_rep⟩
def dRng1 (de : DE) : DL := fun ρ k => de ρ fun x => ∃ j : Int, x = .int j ∧ -(2 ^ 62) ≤ j ∧ j < 2 ^ 62 ∧ k (rng 0 j.toNat)
def dRng2 (da db : DE) : DL := fun ρ k => da ρ fun x => db ρ fun y => ∃ i j : Int, x = .int i ∧ y = .int j ∧ (-(2 ^ 62) ≤ i ∧ i < 2 ^ 62 ∧ -(2 ^ 62) ≤ j ∧ j < 2 ^ 62) ∧ k (rng i (j - i).toNat)
theorem okRng1 {te : TE} {de : DE} (h : BOk K te de) : IOk K (iRng1 (tCons te tNil)) (dRng1 de) := fun W B ρ σ H k R at' d q =>
  h W B ρ σ H _ _ at' d fun x v H1 a1 g1 r1 ⟨j, e, h1, h2, kk⟩ => by
    subst e
    obtain rfl := rep_int r1
    exact ⟨j, rfl, h1, h2, q _ _ _ a1 g1 it_rng kk⟩
theorem okRng2 {ta tb : TE} {da db : DE} (ha : BOk K ta da) (hb : BOk K tb db) : IOk K (iRng2 (tCons ta (tCons tb tNil))) (dRng2 da db) := fun W B ρ σ H k R at' d q =>
  two ha hb at' d fun x y v u H' a' gr r1 r2 ⟨i, j, e1, e2, hb, kk⟩ => by
    subst e1; subst e2
    obtain rfl := rep_int r1
    obtain rfl := rep_int r2
    exact ⟨i, j, rfl, hb, q _ _ _ a' gr it_rng kk⟩
theorem pair_new {N : Addr → Prop} {H : Hp} {T : Addr} {x y : V} {d e : D} (hN : ∀ a, N a → ∃ o, H a = some o) (hT : H T = none) (r1 : rep K (cl N H) d x) (r2 : rep K (cl N H) e y) : Sub H (upd H T (.tup [x, y])) ∧ rep K (cl N (upd H T (.tup [x, y]))) (.tup [d, e]) (.ref T) := by
  have nT : ¬ N T := fun z => by obtain ⟨o, e⟩ := hN T z; rw [hT] at e; cases e
  refine ⟨Sub.new hT, tup_rep (.inl (.inl (cl_of upd_same nT))) (reps_sub (cl_grow (Sub.new hT)) _ _ (reps_cons r1 (reps_one r2)))⟩
def enumD (ds : List D) : List D := ds.mapIdx fun i d => .tup [.int (i : Nat), d]
theorem it_enum {C : Hp} {a : Addr} {xs : List V} {ds : List D} (h : SqL K C a xs) (r : reps K C ds xs) : ItOk K C (Ite K a) (enumD ds) := by
  refine ⟨fun H => SqL K H a xs, YPair (fun i => some (.int (i : Nat))) (fun i => xs[i]?), by unfold enumD; rw [List.length_mapIdx, ← reps_len r]; exact walk_enum, fun H s => sl_sub s h, fun i H x H' d hd y N hN s => ?_⟩
  obtain ⟨T, x1, x2, e1, hT, e2, e3, e4⟩ := y
  cases e3
  subst e1; subst e2
  unfold enumD at hd
  rw [List.getElem?_mapIdx] at hd
  cases q : ds[i]? with
  | none => rw [q] at hd; cases hd
  | some dd =>
    rw [q] at hd; cases hd
    obtain ⟨x', h1, h2⟩ := reps_get r q
    have : xs[i]? = some x2 := e4
    rw [this] at h1; cases h1
    exact pair_new hN hT int_rep (rep_sub s dd _ h2)
def dEnum (de : DE) : DL := fun ρ k => de ρ fun x => ∃ ds, x = .lst ds ∧ k (enumD ds)
theorem okEnum {te : TE} {de : DE} (h : EOk K te de) : IOk K (iEnum K (tCons te tNil)) (dEnum de) := fun W B ρ σ H k R at' d q =>
  h W B ρ σ H _ _ at' d fun x v H1 a1 g1 r1 ⟨ds, e, kk⟩ => by
    subst e
    obtain ⟨a, xs, rfl, h2, h3⟩ := rep_lst r1
    exact ⟨a, xs, rfl, .inl (.inl (of_cl h2).1), q _ _ _ a1 g1 (it_enum (.inl (.inl h2)) h3) kk⟩
def zipD (ds es : List D) : List D := List.zipWith (fun d e => .tup [d, e]) ds es
theorem it_zip {C : Hp} {a b : Addr} {xs ys : List V} {ds es : List D} (h : SqL K C a xs) (h' : SqL K C b ys) (r : reps K C ds xs) (r' : reps K C es ys) : ItOk K C (Itz K a b) (zipD ds es) := by
  refine ⟨fun H => SqL K H a xs ∧ SqL K H b ys, YPair (fun i => xs[i]?) (fun i => ys[i]?), walk_zip (by unfold zipD; rw [List.length_zipWith, reps_len r, reps_len r']), fun H s => ⟨sl_sub s h, sl_sub s h'⟩, fun i H x H' d hd y N hN s => ?_⟩
  obtain ⟨T, x1, x2, e1, hT, e2, e3, e4⟩ := y
  subst e1; subst e2
  unfold zipD at hd
  rw [List.getElem?_zipWith] at hd
  cases q : ds[i]? with
  | none => rw [q] at hd; cases hd
  | some dd =>
    cases q' : es[i]? with
    | none => rw [q, q'] at hd; cases hd
    | some ee =>
      rw [q, q'] at hd; cases hd
      obtain ⟨x', h1, h2⟩ := reps_get r q
      obtain ⟨y', h3, h4⟩ := reps_get r' q'
      have z1 : xs[i]? = some x1 := e3
      have z2 : ys[i]? = some x2 := e4
      rw [z1] at h1; cases h1
      rw [z2] at h3; cases h3
      exact pair_new hN hT (rep_sub s dd _ h2) (rep_sub s ee _ h4)
def dZip (da db : DE) : DL := fun ρ k => da ρ fun x => db ρ fun y => ∃ ds es, x = .lst ds ∧ y = .lst es ∧ k (zipD ds es)
theorem okZip {ta tb : TE} {da db : DE} (ha : EOk K ta da) (hb : EOk K tb db) : IOk K (iZip K (tCons ta (tCons tb tNil))) (dZip da db) := fun W B ρ σ H k R at' d q =>
  ha W B ρ σ H _ _ at' d fun x v H1 a1 g1 r1 k1 => hb W B ρ σ H1 _ _ a1 k1 fun y u H2 a2 g2 r2 ⟨ds, es, e1, e2, kk⟩ => by
    subst e1; subst e2
    obtain ⟨a, xs, rfl, h2, h3⟩ := rep_lst (rep_sub (Gr_cl g2) _ _ r1)
    obtain ⟨b, ys, rfl, h4, h5⟩ := rep_lst r2
    exact ⟨a, b, xs, ys, rfl, .inl (.inl (of_cl h2).1), .inl (.inl (of_cl h4).1), q _ _ _ a2 (g1.trans g2) (it_zip (.inl (.inl h2)) (.inl (.inl h4)) h3 h5) kk⟩

/-! ### for -/
def dFor (di : DL) (dg : DG) (db : DS) : DS := fun E ρ => di ρ fun ds => ∃ I : Nat → List Sl → Prop, I 0 ρ ∧
  (∀ i d ρ', ds[i]? = some d → I i ρ' → dg d ρ' fun r => db { E with nx := I (i + 1), ct := I (i + 1), bk := E.nx } r) ∧ ∀ ρ', I ds.length ρ' → E.nx ρ'
theorem okFor {wi : TI} {g : TG} {tb : TS} {di : DL} {dg : DG} {db : DS} {is : List Nat} (hi : IOk K wi di) (hg : GsOk K g dg is) (hb : SOk K tb db) : SOk K (tFor wi g tb) (dFor di dg db) := fun W B ρ σ H E G at' d nx rt bk ct =>
  hi W B ρ σ H _ _ at' d fun ds J H1 a1 g1 ⟨Gd, Y, wk, hG, hY⟩ ⟨I, i0, turn, fin⟩ => by
    refine for_it wk (fun i σ' H' => ∃ ρ', At K W (lift ρ H1) ρ' σ' H' ∧ I i ρ') ⟨ρ, a1.rebase, i0⟩ (fun i σ' H' _ ⟨ρ', a', _⟩ => hG H' (a'.later.trans cl_sub)) (fun i x σ' H' H2 hi2 ⟨ρ', a', i'⟩ y => ?_) fun σ' H' ⟨ρ', a', i'⟩ => nx ρ' σ' H' (a1.unbase a') (fin ρ' i')
    have hd : ds[i]? = some ds[i] := by simp [hi2]
    obtain ⟨s, r⟩ := hY i H' x H2 ds[i] hd y (Av W ρ') (fun a z => a'.av_dom z) a'.later
    refine hg W (lift ρ H1) ρ' σ' H2 ds[i] x _ _ (a'.grow s) r (turn i ds[i] ρ' hd i') fun ρ2 σ2 a2 _ _ _ k2 => ?_
    exact hb W (lift ρ H1) ρ2 σ2 H2 { E with nx := I (i + 1), ct := I (i + 1), bk := E.nx } _ a2 k2 (fun ρ3 σ3 H3 a3 i3 => ⟨ρ3, a3, i3⟩) (fun ρ3 σ3 H3 d v a3 r3 k3 => rt ρ3 σ3 H3 d v (a1.unbase a3) r3 k3)
      (fun ρ3 σ3 H3 a3 k3 => nx ρ3 σ3 H3 (a1.unbase a3) k3) fun ρ3 σ3 H3 a3 i3 => ⟨ρ3, a3, i3⟩

/-! ### [e for x in .. if ..] -/
def wipeS (ρ : List Sl) : List Nat → List Sl
  | [] => ρ
  | v :: vs => (wipeS ρ vs).set v .no
/-- the items made, one after another -/
def cmp (step : D → (Option D → Prop) → Prop) : List D → (List D → Prop) → Prop
  | [], k => k []
  | d :: ds, k => step d fun o => cmp step ds fun r => k (match o with | some x => x :: r | none => r)
def dStep (dg : DG) (dt : DT) (de : DE) (ρ : List Sl) : D → (Option D → Prop) → Prop := fun d k => dg d ρ fun r => dt r fun b => if b = true then de r fun x => k (some x) else k none
def noOwn (ρ : List Sl) (vs : List Nat) : Bool := vs.all fun i => match ρ[i]? with | some s => s.addr == none | none => true
def dLc (di : DL) (dg : DG) (dt : DT) (de : DE) (vs : List Nat) : DL := fun ρ k => di ρ fun ds => ds.length ≤ 10000000 ∧ noOwn ρ vs = true ∧ cmp (dStep dg dt de (wipeS ρ vs)) ds k
def dYes : DT := fun _ k => k true
theorem okYes : TOk K tYes dYes := fun W B ρ σ H k Q at' d q => q true H at' (Gr.refl H) d
theorem wipe_wipe (σ : L2.St) (vs : List Nat) : wipe (wipe σ vs) vs = wipe σ vs := by
  have : ∀ ws : List Nat, (∀ i ∈ ws, i ∈ vs) → wipe (wipe σ ws) vs = wipe σ vs := fun ws => by
    induction ws with
    | nil => intro _; rfl
    | cons w ws ih =>
      intro h
      show wipe ((wipe σ ws).set w none) vs = wipe σ vs
      rw [wipe_set (h w (by simp)), ih fun i hi => h i (by simp [hi])]
  exact this vs fun i hi => hi
theorem wipeS_get {ρ : List Sl} {vs : List Nat} {i : Nat} {s : Sl} (h : (wipeS ρ vs)[i]? = some s) : ∃ t, ρ[i]? = some t ∧ (s = t ∨ s = .no) ∧ (i ∈ vs → s = .no) ∧ (i ∉ vs → s = t) := by
  induction vs generalizing s with
  | nil => exact ⟨s, h, .inl rfl, (fun z => absurd z (by simp)), fun _ => rfl⟩
  | cons v vs ih =>
    rcases set_get h with ⟨e1, e2, hl⟩ | ⟨e1, e2⟩
    · subst e1; subst e2
      have hl2 : i < (wipeS ρ vs).length := hl
      obtain ⟨t, h1, _⟩ := ih (s := (wipeS ρ vs)[i]) (by simp [hl2])
      exact ⟨t, h1, .inr rfl, fun _ => rfl, fun z => absurd (by simp) z⟩
    · obtain ⟨t, h1, h2, h3, h4⟩ := ih e2
      refine ⟨t, h1, h2, fun z => h3 ?_, fun z => h4 fun q => z (by simp [q])⟩
      rcases List.mem_cons.mp z with z | z
      · exact absurd z e1
      · exact z
theorem wipeS_len (ρ : List Sl) (vs : List Nat) : (wipeS ρ vs).length = ρ.length := by
  induction vs with
  | nil => rfl
  | cons v vs ih => unfold wipeS; rw [List.length_set, ih]
theorem wipe_get {σ : L2.St} {vs : List Nat} {i : Nat} (h : i ∉ vs) : (wipe σ vs)[i]? = σ[i]? := by
  induction vs with
  | nil => rfl
  | cons v vs ih =>
    have h1 : v ≠ i := fun z => h (by simp [z])
    unfold wipe
    rw [List.getElem?_set_ne h1]
    exact ih fun z => h (by simp [z])
theorem noOwn_get {ρ : List Sl} {vs : List Nat} (h : noOwn ρ vs = true) {i : Nat} {s : Sl} (hi : i ∈ vs) (e : ρ[i]? = some s) : s.addr = none := by
  unfold noOwn at h
  have := List.all_eq_true.mp h i hi
  rw [e] at this
  exact eq_of_beq this
theorem wipe_av {W : Addr → Prop} {ρ : List Sl} {vs : List Nat} (h : noOwn ρ vs = true) (a : Addr) : Av W (wipeS ρ vs) a ↔ Av W ρ a := by
  constructor
  · rintro (z | ⟨s, hs, e⟩)
    · exact .inl z
    · obtain ⟨i, hi⟩ := mem_get hs
      obtain ⟨t, h1, h2, _⟩ := wipeS_get hi
      rcases h2 with h2 | h2
      · subst h2; exact .inr ⟨_, List.mem_of_getElem? h1, e⟩
      · subst h2; cases e
  · rintro (z | ⟨s, hs, e⟩)
    · exact .inl z
    · obtain ⟨i, hi⟩ := mem_get hs
      have hv : i ∉ vs := fun z => by rw [noOwn_get h z hi] at e; cases e
      have hl : i < (wipeS ρ vs).length := by rw [wipeS_len]; exact (List.getElem?_eq_some_iff.mp hi).1
      obtain ⟨t, h1, _, _, h4⟩ := wipeS_get (s := (wipeS ρ vs)[i]) (i := i) (vs := vs) (ρ := ρ) (by simp [hl])
      rw [hi] at h1; cases h1
      have := h4 hv
      exact .inr ⟨s, by rw [← this]; exact List.getElem_mem hl, e⟩
theorem At.wipe {W : Addr → Prop} {B : Hp} {ρ : List Sl} {σ : L2.St} {H : Hp} (a : At K W B ρ σ H) {vs : List Nat} (h : noOwn ρ vs = true) : At K W B (wipeS ρ vs) (L2.wipe σ vs) H := by
  have m : Sub (cl (Av W ρ) H) (cl (Av W (wipeS ρ vs)) H) := cl_mono fun b o e n => ⟨e, fun z => n ((wipe_av h b).mp z)⟩
  refine ⟨a.kp, a.wd, fun i s hi => ?_, fun i s b hi e => ?_, fun i j s t b hi hj e1 e2 => ?_, by rw [wipe_length, wipeS_len]; exact a.len⟩
  · obtain ⟨t, h1, h2, h3, h4⟩ := wipeS_get hi
    by_cases hv : i ∈ vs
    · rw [h3 hv]; trivial
    · rw [h4 hv, wipe_get hv]
      have q := a.sl i t h1
      cases t with
      | no => trivial
      | da d => obtain ⟨v, h1, h2⟩ := q; exact ⟨v, h1, rep_sub m d v h2⟩
      | ol b ds => obtain ⟨h1, xs, h2, h3⟩ := q; exact ⟨h1, xs, h2, reps_sub m ds xs h3⟩
      | od b ks ds => obtain ⟨h1, xs, h2, hk, h3⟩ := q; exact ⟨h1, xs, h2, hk, reps_sub m ds xs h3⟩
      | dr b c => obtain ⟨h1, h2⟩ := q; exact ⟨h1, h2.sub m rfl⟩
  · obtain ⟨t, h1, h2, _⟩ := wipeS_get hi
    rcases h2 with h2 | h2
    · subst h2; exact a.ob i _ b h1 e
    · subst h2; cases e
  · obtain ⟨t1, h1, h2, _⟩ := wipeS_get hi
    obtain ⟨t2, h3, h4, _⟩ := wipeS_get hj
    rcases h2 with h2 | h2
    · rcases h4 with h4 | h4
      · subst h2; subst h4; exact a.oj i j _ _ b h1 h3 e1 e2
      · subst h4; cases e2
    · subst h2; cases e1
end
end DL

namespace DL
open PySem PySem.Spec L2

section
variable {K : PySem.W.Frag}
/-- the names own the same -/
def SameO (ρ ρ' : List Sl) : Prop := ∀ (i : Nat) s a, s.addr = some a → (ρ[i]? = some s ↔ ρ'[i]? = some s)
theorem SameO.av {ρ ρ' : List Sl} (h : SameO ρ ρ') {W : Addr → Prop} {a : Addr} : Av W ρ a ↔ Av W ρ' a := by
  constructor
  · rintro (z | ⟨s, hs, e⟩)
    · exact .inl z
    · obtain ⟨i, hi⟩ := mem_get hs
      exact .inr ⟨s, List.mem_of_getElem? ((h i s a e).mp hi), e⟩
  · rintro (z | ⟨s, hs, e⟩)
    · exact .inl z
    · obtain ⟨i, hi⟩ := mem_get hs
      exact .inr ⟨s, List.mem_of_getElem? ((h i s a e).mpr hi), e⟩
theorem SameO.dv {ρ ρ' : List Sl} (h : SameO ρ ρ') {a : Addr} : Dv ρ a ↔ Dv ρ' a := by
  constructor
  · rintro ⟨c, hc⟩
    obtain ⟨i, hi⟩ := mem_get hc
    exact ⟨c, List.mem_of_getElem? ((h i _ a rfl).mp hi)⟩
  · rintro ⟨c, hc⟩
    obtain ⟨i, hi⟩ := mem_get hc
    exact ⟨c, List.mem_of_getElem? ((h i _ a rfl).mpr hi)⟩
/-- the names as they were, in the heap as it is -/
theorem At.back {W : Addr → Prop} {B B2 : Hp} {ρ ρ2 : List Sl} {σ σ2 : L2.St} {H H5 : Hp} (a : At K W B ρ σ H) (b : At K W B ρ2 σ2 H5) (so : SameO ρ ρ2) (g : Gr ρ2 H H5) : At K W B ρ σ H5 ∧ Gr ρ H H5 := by
  have gg : Gr ρ H H5 := fun x o n e => g x o (fun z => n (so.dv.mpr z)) e
  have m := Gr_cl (W := W) gg
  refine ⟨⟨b.kp, a.wd, fun i s hi => ?_, a.ob, a.oj, a.len⟩, gg⟩
  have q := a.sl i s hi
  cases s with
  | no => trivial
  | da d => obtain ⟨v, h1, h2⟩ := q; exact ⟨v, h1, rep_sub m d v h2⟩
  | ol x ds => obtain ⟨h1, xs, h2, h3⟩ := q; exact ⟨h1, xs, gg _ _ (own_ndv a hi rfl fun c z => by cases z) h2, reps_sub m ds xs h3⟩
  | od x ks ds => obtain ⟨h1, xs, h2, hk, h3⟩ := q; exact ⟨h1, xs, gg _ _ (own_ndv a hi rfl fun c z => by cases z) h2, hk, reps_sub m ds xs h3⟩
  | dr x c =>
    obtain ⟨_, h2⟩ := b.sl i _ ((so i _ x rfl).mp hi)
    exact ⟨q.1, h2.sub (cl_mono fun y o e n => ⟨e, fun z => n (so.av.mp z)⟩) rfl⟩
theorem sameO_wipe {ρ : List Sl} {vs : List Nat} (h : noOwn ρ vs = true) : SameO ρ (wipeS ρ vs) := fun i s a e => by
  constructor
  · intro hi
    have hv : i ∉ vs := fun z => by rw [noOwn_get h z hi] at e; cases e
    have hl : i < (wipeS ρ vs).length := by rw [wipeS_len]; exact (List.getElem?_eq_some_iff.mp hi).1
    obtain ⟨t, h1, _, _, h4⟩ := wipeS_get (s := (wipeS ρ vs)[i]) (i := i) (vs := vs) (ρ := ρ) (by simp [hl])
    rw [hi] at h1; cases h1
    rw [← h4 hv]; simp [hl]
  · intro hi
    obtain ⟨t, h1, h2, h3, h4⟩ := wipeS_get hi
    rcases h2 with h2 | h2
    · subst h2; exact h1
    · subst h2; cases e
theorem SameO.trans {ρ ρ' ρ'' : List Sl} (h : SameO ρ ρ') (h' : SameO ρ' ρ'') : SameO ρ ρ'' := fun i s a e => (h i s a e).trans (h' i s a e)
theorem sameO_othr {ρ ρ' : List Sl} {is : List Nat} (h : Othr is ρ ρ') (hn : ∀ i ∈ is, ∀ s, ρ[i]? = some s → s.addr = none) : SameO ρ ρ' := fun i s a e => by
  by_cases z : i ∈ is
  · constructor
    · intro hi; rw [hn i z s hi] at e; cases e
    · intro hi; rw [h.2 i z s hi] at e; cases e
  · rw [h.1 i z]
theorem okLc {wi : TI} {g : TG} {tt : TT} {te : TE} {di : DL} {dg : DG} {dt : DT} {de : DE} {is vs : List Nat} (hi : IOk K wi di) (hg : GsOk K g dg is) (ht : TOk K tt dt) (he : EOk K te de) (hv : ∀ i ∈ is, i ∈ vs) : FOk K (tLc wi g tt te vs) (dLc di dg dt de vs) := fun W B ρ σ H k Q at' d q =>
  hi W B ρ σ H _ _ at' d fun ds J H1 a1 g1 ⟨Gd, Y, wk, hG, hY⟩ ⟨hl, hno, hc⟩ => by
    intro Da hD
    have bD : B Da = none := by
      cases e : B Da with
      | none => rfl
      | some o => rw [a1.kp Da o e] at hD; cases hD
    have hD0 : H Da = none := Gr.back (W := W) a1 g1 hD
    let W' : Addr → Prop := fun a => W a ∨ a = Da
    let step := dStep dg dt de (wipeS ρ vs)
    refine lc_it wk (fun i H' => ∃ acc xs, At K W' (upd B Da (.lst xs)) ρ σ H' ∧ H' Da = some (.lst xs) ∧ reps K (cl (Av W' ρ) H') acc xs ∧ acc.length ≤ i ∧ Sub (cl (Av W ρ) H1) (cl (Av W' ρ) H') ∧ Gr ρ H H' ∧ cmp step (ds.drop i) fun r => k (acc ++ r))
      ⟨[], [], a1.hide hD (Gr.of (Sub.new hD)) (a1.alloc hD) upd_same, upd_same, reps_nil, Nat.le_refl _, cl_mono fun b o e n => ?_, g1.trans (Gr.of (Sub.new hD)), by simpa using hc⟩
      (fun i H' _ p => hG H' (p.choose_spec.choose_spec.2.2.2.2.1.trans cl_sub)) (fun i x H' H2 hi2 p y => ?_) fun H' p => ?_
    · have nb : b ≠ Da := ne_of_none e hD
      exact ⟨by rw [upd_ne nb]; exact e, fun z => by
        rcases z with (z | z) | z
        · exact n (.inl z)
        · exact nb z
        · exact n (.inr z)⟩
    · obtain ⟨acc, xs, a', hDx, r, hle, hC, gr, hc'⟩ := p
      have hd : ds[i]? = some ds[i] := by simp [hi2]
      obtain ⟨s, rx⟩ := hY i H' x H2 ds[i] hd y (Av W' ρ) (fun a z => a'.av_dom z) hC
      have a2 : At K W' (upd B Da (.lst xs)) ρ σ H2 := a'.grow s
      have aw := a2.wipe hno
      rw [List.drop_eq_getElem_cons hi2] at hc'
      have so0 : SameO ρ (wipeS ρ vs) := sameO_wipe hno
      refine hg W' (upd B Da (.lst xs)) (wipeS ρ vs) (wipe σ vs) H2 ds[i] x _ _ aw (rep_sub (cl_mono fun b o e n => ⟨e, fun z => n (so0.av.mpr z)⟩) _ _ rx) hc' fun ρ2 σ2 a3 w3 _ oth k3 => ?_
      have so : SameO ρ ρ2 := so0.trans (sameO_othr oth fun i hi s hs => by
        obtain ⟨t, _, _, h3, _⟩ := wipeS_get hs
        rw [h3 (hv i hi)]; rfl)
      refine ⟨(w3 vs hv).trans (wipe_wipe σ vs), ?_⟩
      refine ht W' (upd B Da (.lst xs)) ρ2 σ2 H2 _ _ a3 k3 fun b H4 a4 g4 k4 => ?_
      cases b with
      | true =>
        refine iteT (he W' (upd B Da (.lst xs)) ρ2 σ2 H4 _ _ a4 (by simpa using k4) fun dd v H5 a5 g5 r5 k5 => ?_)
        have h5 : H5 Da = some (.lst xs) := a5.kp Da _ upd_same
        obtain ⟨a6, g6⟩ := a2.back (B2 := B) a5 so (g4.trans g5)
        have m : Sub (cl (Av W' ρ) H5) (cl (Av W' ρ) (upd H5 Da (.lst (xs ++ [v])))) := cl_mono fun b u e n => by
          have : b ≠ Da := fun z => n (by subst z; exact .inl (.inr rfl))
          exact ⟨by rw [upd_ne this]; exact e, n⟩
        have ml : xs.length = acc.length := reps_len r
        refine ⟨xs, h5, sl7' (by rw [ml]; omega), acc ++ [dd], xs ++ [v], a6.updW, upd_same, reps_append (reps_sub m _ _ (reps_sub (Gr_cl g6) _ _ (reps_sub (cl_grow s) _ _ r))) (reps_one (rep_sub m _ _ (rep_sub (cl_mono fun b o e n => ⟨e, fun z => n (so.av.mp z)⟩) _ _ r5))), by rw [List.length_append, List.length_singleton]; omega, (hC.trans (cl_grow s)).trans ((Gr_cl g6).trans m), ?_, ?_⟩
        · intro b o n e
          rw [upd_ne (ne_of_none e hD0)]
          exact ((gr.trans (Gr.of s)).trans g6) b o n e
        · simpa [List.append_assoc] using k5
      | false =>
        refine iteF ?_
        obtain ⟨a6, g6⟩ := a2.back (B2 := B) a4 so g4
        exact ⟨acc, xs, a6, a6.kp Da _ upd_same, reps_sub (Gr_cl g6) _ _ (reps_sub (cl_grow s) _ _ r), by omega, (hC.trans (cl_grow s)).trans (Gr_cl g6), (gr.trans (Gr.of s)).trans g6, by simpa using k4⟩
    · obtain ⟨acc, xs, a', hDx, r, hle, hC, gr, hc'⟩ := p
      rw [List.drop_of_length_le (Nat.le_refl _)] at hc'
      refine q acc Da xs H' (a'.unhide (Sub.new bD) (fun x z => .inl z) at'.wd) gr hD0 hDx (reps_sub (cl_mono fun b o e n => ⟨e, fun z => ?_⟩) _ _ r) (by simpa [cmp] using hc')
      rcases z with (z | z) | z
      · exact n (.inl (.inl z))
      · exact n (.inr z)
      · exact n (.inl (.inr z))
end
end DL

namespace DL
open PySem PySem.Spec L2

/-! ### enumerate of a tuple -/
abbrev tupIt (t : Addr) : Obj := { cls := .type "tuple_iterator", data := .fields #[.ref t, .int 0 0] }
abbrev enumOb (a : Addr) : Obj := { cls := .type "enumerate", data := .fields #[.none, .bool false, .ref a, rawInt 0, .none, .none] }
set_option maxHeartbeats 1000000 in
theorem new_enumT (t : Addr) (its : Array Value) : Meets (Builtin.«enumerate.__new__» ⟨[.type "enumerate", .ref t], []⟩)
    (fun _ R s => s.heap.IsTuple t its ∧ R (.ok (.ret (.ref (s.heap.push (tupIt t)).objs.size))) { s with heap := (s.heap.push (tupIt t)).push (enumOb s.heap.objs.size) }) := .of_wp fun prog w A R s h => by
  obtain ⟨h0, g0, d0, t0, o0⟩ := s
  obtain ⟨ht, h⟩ := h
  have sube := sub_enumerate
  have hT : Heap.IsTuple (Shared.heap ⟨h0, g0, d0, t0, o0⟩) t its := ht
  have q1 : ∀ {A' : Around} {E : Value → Shared → Prop} {Q : Value → Shared → Prop}, Q (.ref h0.objs.size) ⟨h0.push (tupIt t), g0, d0, t0, o0⟩ → wpAny (model prog w) A' (pyIter (.ref t)) Q E ⟨h0, g0, d0, t0, o0⟩ := fun q => wpAny_pyIter_tuple hT q
  wp_walk using q1
  refine wpAny_stack_any fun stk => wpAny_pure ?_
  split
  · rename_i c _ _ _ _ _
    cases (c == Value.type "enumerate") <;> (wp_walk using q1; exact ⟨_, rfl, h⟩)
  · wp_walk using q1
    exact ⟨_, rfl, h⟩
theorem call_enumT {prog : Program} {w : World} {A : Around} {E : Value → Shared → Prop} {s : Shared} {t : Addr} {its : Array Value} {Q : Value → Shared → Prop} (hT : s.heap.IsTuple t its)
    (h : ∀ h', IsEnum h' (s.heap.objs.size + 1) s.heap.objs.size 0 .none → h'.IsTupleIter s.heap.objs.size t 0 → h'.objs.size = s.heap.objs.size + 2 → (∀ b o, s.heap.get? b = some o → h'.get? b = some o) → Q (.ref (s.heap.objs.size + 1)) { s with heap := h' }) :
    wpAny (model prog w) A (call (.type "enumerate") [.ref t]) Q E s := by
  refine callType_new F.called_enumerate (by decide) (F.typeCall_enumerate_1 _) (F.newCall_enumerate_1 _) (fun ob => F.args_object_init_2 ob _) F.entry_enumerate_new (new_enumT t its) ⟨hT, ?_⟩
  have z1 : (s.heap.push (tupIt t)).objs.size = s.heap.objs.size + 1 := Heap.size_push ..
  show _ ∧ _
  rw [z1]
  have e1 : ((s.heap.push (tupIt t)).push (enumOb s.heap.objs.size)).get? (s.heap.objs.size + 1) = some (enumOb s.heap.objs.size) := by
    have z2 := Heap.get?_push_size (s.heap.push (tupIt t)) (o := enumOb s.heap.objs.size) rfl
    rw [z1] at z2; exact z2
  exact ⟨⟨_, e1, rfl⟩, h _ e1 ⟨_, Heap.get?_push_of_some _ (Heap.get?_push_size _ rfl), rfl, rfl⟩ (by rw [Heap.size_push, z1]) fun b o x => Heap.get?_push_of_some _ (Heap.get?_push_of_some _ x)⟩
/-- the tuple at a, each item in a new pair -/
def Itet (K : PySem.W.Frag) (a : Addr) : It :=
  ⟨fun i H => ∃ (xs : List V) (x : V), SqT K H a xs ∧ xs[i]? = some x, fun i H v H' => ∃ T x, v = .ref T ∧ H T = none ∧ H' = upd H T (.tup [.int (i : Nat), x]) ∧ ∀ xs, SqT K H a xs → xs[i]? = some x, fun i H => ∃ xs : List V, SqT K H a xs ∧ xs.length = i⟩
theorem ty_ne {a b : String} (h : a ≠ b) : Value.type a ≠ Value.type b := fun e => by injection e with e; exact h e
theorem turn_enumT {P : Program} {w : World} {K : PySem.W.Frag} {elts : List Expr} {kk : Nat} {tpos : Pos} (a e it : Addr) :
    Turn P w K (.Tuple elts kk tpos) (Itet K a) [e, it] e (fun i h => (∃ old, IsEnum h e it ((i : Nat) : Int) old) ∧ h.IsTupleIter it a i ∧ e ≠ it) where
  mem := by simp
  obj := by
    intro i h ⟨⟨old, he⟩, ⟨o, ho, hc, hd⟩, _⟩ b hb
    rcases List.mem_cons.mp hb with z | z
    · exact ⟨_, z ▸ he, fun v q => by cases q⟩
    · have z := List.mem_singleton.mp z
      exact ⟨o, z ▸ ho, fun v q => by rw [hd] at q; cases q⟩
  keep := fun i h h' ⟨⟨old, he⟩, hi, hne⟩ k => ⟨⟨old, k e (by simp) _ he⟩, hi.at fun o q => k it (by simp) o q, hne⟩
  item := by
    intro X hP hw hK hc i pins s σ H E I hf ⟨⟨old, he⟩, hit, hne⟩ ⟨xs, x, hq, hx⟩
    subst hP hw hK
    obtain ⟨its, rv, p, hz⟩ := I.tuple hq
    have pt : s.heap.IsTuple a its.toArray := p
    have lt_e : e < s.heap.objs.size := Heap.lt_size he
    have lt_i : it < s.heap.objs.size := by obtain ⟨_, q, _⟩ := hit; exact Heap.lt_size q
    have ae : a ≠ e := fun z => by
      subst z
      obtain ⟨o, ho, hcl, _⟩ := p
      rw [he] at ho
      obtain rfl := Option.some.inj ho
      exact ty_ne (by decide) hcl
    have ai : a ≠ it := fun z => by
      subst z
      obtain ⟨o, ho, hcl, _⟩ := p
      obtain ⟨o2, ho2, hc2, _⟩ := hit
      rw [ho] at ho2
      obtain rfl := Option.some.inj ho2
      exact ty_ne (by decide) (hcl.symm.trans hc2)
    have hlt : i < its.toArray.size := by
      rw [List.size_toArray, ← rv.length]
      exact (List.getElem?_eq_some_iff.mp hx).1
    refine wpAny_pyNext_enum_itemD (Draws.tuple (prog := X.prog) (w := X.w) (A := X.A.in1) (I.ok.hd hc) it a ai its.toArray) he ⟨hit, pt⟩ hlt hne (by simp [hne, ae.symm]) fun u h' tk hu ho st hT hsz hk => ?_
    have ru : RelV x u := by
      obtain ⟨y, hy, ry⟩ := rv.get hx
      have : its[i]? = some u := by simpa using hu
      rw [this] at hy; cases hy
      exact ry
    refine ⟨_, rfl, wpAny_letOwnedTupleGo_enum (s := { s with heap := h', toks := tk + 1 }) ho fun h'' he' sb => ?_⟩
    have hT2 : h''.get? s.heap.objs.size = some { cls := .type "tuple", data := .seq #[.int i tk, u] } := (sb.2 _ (Nat.ne_of_gt lt_e)).trans hT
    have nw : ObjOk X.prog X.w (upd H s.heap.objs.size (.tup [.int (i : Nat), x])) h'' s.heap.objs.size (.tup [.int (i : Nat), x]) :=
      ⟨by show 2 ≤ sizeLine; decide, [.int i tk, u], .cons ⟨_, rfl⟩ (.cons ru .nil), ⟨_, hT2, rfl, _, rfl⟩⟩
    have I1 : Inv X pins σ (upd H s.heap.objs.size (.tup [.int (i : Nat), x])) { s with heap := h'', toks := tk + 1 } :=
      I.turnedNew (ch := [e, it]) (fun b ob hb q => (sb.2 b (fun z => hb (by simp [z]))).trans (hk b ob (fun z => hb (by simp [z])) (fun z => hb (by simp [z])) q)) hf (Nat.le_refl _) nw
    refine ⟨.ref s.heap.objs.size, _, I1, rfl, ⟨_, x, rfl, I.hok.fresh (Nat.le_refl _), rfl, fun ys hy => by rw [I.tuple_inj hy hq]; exact hx⟩, ⟨⟨u, ?_⟩, st.1.at fun o q => (sb.2 it (Ne.symm hne)).trans q, hne⟩, fun b hb => ?_⟩
    · rw [show ((i + 1 : Nat) : Int) = (i : Int) + 1 by omega]; exact he'
    · have hb' : b < s.heap.objs.size := by
        rcases List.mem_cons.mp hb with z | z
        · rw [z]; exact lt_e
        · rw [List.mem_singleton.mp z]; exact lt_i
      exact (upd_ne (Nat.ne_of_lt hb')).trans (hf b hb).1
  done := by
    intro X hP hw hK hc i pins s σ H E I hf ⟨⟨old, he⟩, hit, hne⟩ ⟨xs, hq, hx⟩
    subst hP hw hK
    obtain ⟨its, rv, p, hz⟩ := I.tuple hq
    have pt : s.heap.IsTuple a its.toArray := p
    obtain ⟨f0, f1, f2, f3, f4, f5⟩ := hf it (by simp)
    have ai : a ≠ it := fun z => by
      subst z
      obtain ⟨o, ho, hcl, _⟩ := p
      obtain ⟨o2, ho2, hc2, _⟩ := hit
      rw [ho] at ho2
      obtain rfl := Option.some.inj ho2
      exact ty_ne (by decide) (hcl.symm.trans hc2)
    refine wpAny_pyNext_enum_endD (Draws.tuple (prog := X.prog) (w := X.w) (A := X.A.in1) (I.ok.hd hc) it a ai its.toArray) he ⟨by rw [List.size_toArray, ← rv.length, hx]; exact hit, pt⟩ fun h' eb => ⟨rfl, I.turned (t' := s.toks) (fun b o hb q => eb b o hb q) f0 f1 f3 f4 f5⟩
  self := fun A i s Q E ⟨⟨_, he⟩, _⟩ h => wpAny_pyIter_enum he h
section
variable {K : PySem.W.Frag}
theorem it_enumT {C : Hp} {a : Addr} {xs : List V} {ds : List D} (h : SqT K C a xs) (r : reps K C ds xs) : ItOk K C (Itet K a) (enumD ds) := by
  refine ⟨fun H => SqT K H a xs, YPair (fun i => some (.int (i : Nat))) (fun i => xs[i]?), ?_, fun H s => st_sub s h, fun i H x H' d hd y N hN s => ?_⟩
  · unfold enumD
    rw [List.length_mapIdx, ← reps_len r]
    refine ⟨fun i H hi q => ⟨xs, xs[i], q, by simp [hi]⟩, fun H q => ⟨xs, q, rfl⟩, fun i H v H' hi q y => ?_⟩
    obtain ⟨T, x, h1, h2, h3, h4⟩ := y
    exact ⟨T, .int (i : Nat), x, h1, h2, h3, rfl, h4 xs q⟩
  obtain ⟨T, x1, x2, e1, hT, e2, e3, e4⟩ := y
  cases e3
  subst e1; subst e2
  unfold enumD at hd
  rw [List.getElem?_mapIdx] at hd
  cases q : ds[i]? with
  | none => rw [q] at hd; cases hd
  | some dd =>
    rw [q] at hd; cases hd
    obtain ⟨x', h1, h2⟩ := reps_get r q
    have : xs[i]? = some x2 := e4
    rw [this] at h1; cases h1
    exact pair_new hN hT int_rep (rep_sub s dd _ h2)
def iEnumT (K : PySem.W.Frag) (ta : TA) : TI := fun σ H R => ta σ H fun vs H1 => ∃ a xs, vs = [.ref a] ∧ SqT K H1 a xs ∧ R (Itet K a) H1
theorem pi_enumT {X : Cx} {e : Expr} {ta : TA} {p pos tpos : Pos} {elts : List Expr} {kk : Nat} (hg : Gl X "enumerate") (hm : X.mg "enumerate" = none) (ha : PA X [e] ta) (hs : starEach [e] X.env = [(false, eval e X.env)] := by rfl) :
    PI X (.Tuple elts kk tpos) (.Call (.Name "enumerate" p) [e] [] pos) (iEnumT X.K ta) := by
  refine ⟨fun pins s σ H R I h => ?_⟩
  refine PyProof.Rows.Call_ (ld_blt I hg hm PyProof.Rows.boot_enumerate (PyProof.Rows.callWith_type1 (thn (ha.run pos pins s σ H _ I h) fun us s1 ⟨vs, H1, I1, r1, a, xs, ex, hq, q⟩ => ?_) hs rfl))
  subst ex
  cases r1 with
  | cons r rr =>
    cases rr
    cases r
    obtain ⟨its, rv, pt, hz⟩ := I1.tuple hq
    refine call_enumT pt fun h' he hit hsz hk => wpAny_pyIter_enum he ?_
    have I2 : Inv X pins σ H1 { s1 with heap := h' } := I1.kept (t' := s1.toks) hk
    refine ⟨s1.heap.objs.size + 1, [s1.heap.objs.size + 1, s1.heap.objs.size], _, _, H1, rfl, I2, turn_enumT a (s1.heap.objs.size + 1) s1.heap.objs.size, ⟨⟨.none, he⟩, hit, Nat.succ_ne_self _⟩, fun b hb => ?_, q⟩
    have hle : s1.heap.objs.size ≤ b := by
      rcases List.mem_cons.mp hb with z | z
      · subst z; exact Nat.le_add_right _ _
      · exact Nat.le_of_eq (List.mem_singleton.mp z).symm
    exact I1.fpOk hle (I1.hok.fresh hle)
def dEnumT (de : DE) : DL := fun ρ k => de ρ fun x => ∃ ds, x = .tup ds ∧ k (enumD ds)
theorem okEnumT {te : TE} {de : DE} (h : EOk K te de) : IOk K (iEnumT K (tCons te tNil)) (dEnumT de) := fun W B ρ σ H k R at' d q =>
  h W B ρ σ H _ _ at' d fun x v H1 a1 g1 r1 ⟨ds, e, kk⟩ => by
    subst e
    obtain ⟨a, xs, rfl, h2, h3⟩ := rep_tup r1
    exact ⟨a, xs, rfl, st_sub cl_sub h2, q _ _ _ a1 g1 (it_enumT h2 h3) kk⟩
end
section
variable {X : Cx} {e e2 it tg elt : Expr} {te tf : TE} {de df : DE} {dl : DL} {pos p tpos : Pos} {elts : List Expr} {kk : Nat}
/-! ### sources -/
theorem i_seq (h : XE X it te de) : XI X tg it (iSeq X.K te) (deSeq de) := ⟨pi_seq h.pe, okSeqI h.ok⟩
theorem i_rng1 (hm : X.mg "range" = none) (h : XB X e te de) (hg : Gl X "range" := by rfl) (hs : starEach [e] X.env = [(false, eval e X.env)] := by rfl) : XI X tg (.Call (.Name "range" p) [e] [] pos) (iRng1 (tCons te tNil)) (dRng1 de) :=
  ⟨pi_range1 hg hm (pa_cons h.pe pa_nil hs) hs, okRng1 h.ok⟩
theorem i_rng2 (hm : X.mg "range" = none) (h : XB X e te de) (h' : XB X e2 tf df) (hg : Gl X "range" := by rfl) (hs : starEach [e, e2] X.env = [(false, eval e X.env), (false, eval e2 X.env)] := by rfl) (hs2 : starEach [e2] X.env = [(false, eval e2 X.env)] := by rfl) :
    XI X tg (.Call (.Name "range" p) [e, e2] [] pos) (iRng2 (tCons te (tCons tf tNil))) (dRng2 de df) := ⟨pi_range2 hg hm (pa_cons h.pe (pa_cons h'.pe pa_nil hs2) (by rw [hs, hs2])) hs hs2, okRng2 h.ok h'.ok⟩
theorem i_enum (hm : X.mg "enumerate" = none) (h : XE X e te de) (hg : Gl X "enumerate" := by rfl) (hs : starEach [e] X.env = [(false, eval e X.env)] := by rfl) : XI X (.Tuple elts kk tpos) (.Call (.Name "enumerate" p) [e] [] pos) (iEnum X.K (tCons te tNil)) (dEnum de) :=
  ⟨pi_enum hg hm (pa_cons h.pe pa_nil hs) hs, okEnum h.ok⟩
theorem i_enumT (hm : X.mg "enumerate" = none) (h : XE X e te de) (hg : Gl X "enumerate" := by rfl) (hs : starEach [e] X.env = [(false, eval e X.env)] := by rfl) : XI X (.Tuple elts kk tpos) (.Call (.Name "enumerate" p) [e] [] pos) (iEnumT X.K (tCons te tNil)) (dEnumT de) :=
  ⟨pi_enumT hg hm (pa_cons h.pe pa_nil hs) hs, okEnumT h.ok⟩
theorem i_zip (hm : X.mg "zip" = none) (h : XE X e te de) (h' : XE X e2 tf df) (hg : Gl X "zip" := by rfl) (hs : starEach [e, e2] X.env = [(false, eval e X.env), (false, eval e2 X.env)] := by rfl) (hs2 : starEach [e2] X.env = [(false, eval e2 X.env)] := by rfl) :
    XI X (.Tuple elts kk tpos) (.Call (.Name "zip" p) [e, e2] [] pos) (iZip X.K (tCons te (tCons tf tNil))) (dZip de df) := ⟨pi_zip hg hm (pa_cons h.pe (pa_cons h'.pe pa_nil hs2) (by rw [hs, hs2])) (by rw [hs, hs2]) (by rw [hs2]; rfl), okZip h.ok h'.ok⟩
/-! ### for, comprehensions -/
theorem s_for {body : List Stmt} {wi : TI} {di : DL} {g : TG} {dg : DG} {is : List Nat} {tb : TS} {db : DS} (hp : PassesOwn (model X.prog X.w) X.A X.env X.xe) (hc : X.calm = true) (hi : XI X tg it wi di) (hg : XGs X tg g dg is) (hb : XSs X body tb db) (hs : ∀ x, foldedSetIterable it X.env x = pure x := by intro _; rfl) :
    XS X (.For tg it body [] pos) (tFor wi g tb) (dFor di dg db) := ⟨ps_for hp hc hi.pi hg.pg hb.ps hs, okFor hi.ok hg.ok hb.ok⟩
structure XTs (X : Cx) (ifs : List Expr) (tt : TT) (dt : DT) : Prop where
  pt : PTs X ifs tt
  ok : TOk X.K tt dt
theorem ts_nil : XTs X [] tYes dYes := ⟨pts_nil, okYes⟩
theorem ts_one {tt : TT} {dt : DT} (h : XT X e tt dt) : XTs X [e] tt dt := ⟨pts_one h.pt, h.ok⟩
section
variable {ifs : List Expr} {scope : Scope} {own : List (Str × Nat)} {is : List Nat} {wi : TI} {di : DL} {g : TG} {dg : DG} {tt : TT} {dt : DT}
theorem f_lc (hc : X.calm = true) (hN : X.N.Nodup) (hi : XI X tg it wi di) (ok : BlkOk X.N X.env.scope scope own)
    (hg : ∀ (s : Shared) (H : Hp) (C : Addr) (cl : List (Str × Addr)) (fp : List Addr), XGs (X.blk s H scope (compEnvC scope cl C X.env) fp) tg g dg is)
    (ht : ∀ (s : Shared) (H : Hp) (C : Addr) (cl : List (Str × Addr)) (fp : List Addr), XTs (X.blk s H scope (compEnvC scope cl C X.env) fp) ifs tt dt)
    (he : ∀ (s : Shared) (H : Hp) (C : Addr) (cl : List (Str × Addr)) (fp : List Addr), XE (X.blk s H scope (compEnvC scope cl C X.env) fp) elt te de) (hv : ∀ i ∈ is, i ∈ own.map (·.2) := by decide)
    (hs : ∀ x, foldedSetIterable it X.env x = pure x := by intro _; rfl) : XF X (.ListComp elt [⟨tg, it, ifs, 0⟩] scope pos) (tLc wi g tt te (own.map (·.2))) (dLc di dg dt de (own.map (·.2))) :=
  ⟨pe_lc hc hN hi.pi ok (fun s H C cl fp => (hg s H C cl fp).pg) (fun s H C cl fp => (ht s H C cl fp).pt) (fun s H C cl fp => (he s H C cl fp).pe) hs, okLc hi.ok (hg X.s_0 X.H_0 0 [] []).ok (ht X.s_0 X.H_0 0 [] []).ok (he X.s_0 X.H_0 0 [] []).ok hv⟩
theorem s_setLc {i : Nat} {y : Str} {py spos : Pos} (hc : X.calm = true) (hN : X.N.Nodup) (hy : X.N[i]? = some y)
    (hsw : swapsWith (.ListComp elt [⟨tg, it, ifs, 0⟩] scope pos) (some (.Name y py)) spos.line X.env = pure true) (hi : XI X tg it wi di) (ok : BlkOk X.N X.env.scope scope own)
    (hg : ∀ (s : Shared) (H : Hp) (C : Addr) (cl : List (Str × Addr)) (fp : List Addr), XGs (X.blk s H scope (compEnvC scope cl C X.env) fp) tg g dg is)
    (ht : ∀ (s : Shared) (H : Hp) (C : Addr) (cl : List (Str × Addr)) (fp : List Addr), XTs (X.blk s H scope (compEnvC scope cl C X.env) fp) ifs tt dt)
    (he : ∀ (s : Shared) (H : Hp) (C : Addr) (cl : List (Str × Addr)) (fp : List Addr), XE (X.blk s H scope (compEnvC scope cl C X.env) fp) elt te de) (hv : ∀ i ∈ is, i ∈ own.map (·.2) := by decide) (hyl : X.env.scope.names.lookup y = some .local := by rfl)
    (hs : ∀ x, foldedSetIterable it X.env x = pure x := by intro _; rfl) : XS X (.Assign [.Name y py] (.ListComp elt [⟨tg, it, ifs, 0⟩] scope pos) spos) (tAsg (tLc wi g tt te (own.map (·.2))) (gName i)) (dSet i (dvF (dLc di dg dt de (own.map (·.2))))) :=
  ⟨ps_setLc hc hN hy hyl hsw hi.pi ok (fun s H C cl fp => (hg s H C cl fp).pg) (fun s H C cl fp => (ht s H C cl fp).pt) (fun s H C cl fp => (he s H C cl fp).pe) hs, okSet (okLc hi.ok (hg X.s_0 X.H_0 0 [] []).ok (ht X.s_0 X.H_0 0 [] []).ok (he X.s_0 X.H_0 0 [] []).ok hv).v⟩
end
end
end DL

namespace DL
open PySem PySem.Spec L2

/-! ### a def keeps its promise -/
def st0 (N : List Str) (ds : List D) : List Sl := ds.map Sl.da ++ List.replicate (N.length - ds.length) .no
theorem st0_addr {N : List Str} {ds : List D} {s : Sl} (h : s ∈ st0 N ds) : s.addr = none := by
  unfold st0 at h
  rcases List.mem_append.mp h with h | h
  · obtain ⟨d, _, rfl⟩ := List.mem_map.mp h; rfl
  · rw [(List.mem_replicate.mp h).2]; rfl
theorem st0_av {W : Addr → Prop} {N : List Str} {ds : List D} {a : Addr} : Av W (st0 N ds) a ↔ W a := by
  constructor
  · rintro (z | ⟨s, hs, e⟩)
    · exact z
    · rw [st0_addr hs] at e; cases e
  · exact fun z => .inl z
section
variable {P : Program} {w : World} {K : PySem.W.Frag} {mg : Str → Option Value} {base : Heap}
theorem at_start {W : Addr → Prop} {H : Hp} {N : List Str} {ds : List D} {vs : List V} (hW : ∀ a, W a → ∃ o, H a = some o) (r : reps K (cl W H) ds vs) : At K W H (st0 N ds) (L2.start N vs) H where
  kp := Sub.refl H
  wd := hW
  sl := fun i s hi => by
    have hl := reps_len r
    unfold st0 at hi
    by_cases h : i < ds.length
    · rw [List.getElem?_append_left (by rw [List.length_map]; exact h), List.getElem?_map] at hi
      have hd : ds[i]? = some ds[i] := by simp [h]
      rw [hd] at hi; cases hi
      obtain ⟨x, h1, h2⟩ := reps_get r hd
      refine ⟨x, ?_, rep_sub (cl_mono fun a o e n => ⟨e, fun z => n (st0_av.mp z)⟩) _ _ h2⟩
      unfold L2.start
      rw [List.getElem?_append_left (by rw [List.length_map]; omega), List.getElem?_map, h1]; rfl
    · rw [List.getElem?_append_right (by rw [List.length_map]; omega)] at hi
      have := List.mem_of_getElem? hi
      rw [(List.mem_replicate.mp this).2]; trivial
  ob := fun i s a hi e => by rw [st0_addr (List.mem_of_getElem? hi)] at e; cases e
  oj := fun i j s t a hi hj e1 e2 => by rw [st0_addr (List.mem_of_getElem? hi)] at e1; cases e1
  len := by
    have hl := reps_len r
    unfold L2.start st0
    simp only [List.length_append, List.length_map, List.length_replicate, hl]
def bodyE (k : D → Prop) : DEnds := { nx := fun _ => k .non, rt := fun d _ => k d }
theorem fnD {C : DC} {x qual : Str} {st : Stmt} {f : Addr} {fd : FuncData} {N ps : List Str} {n : Nat} (F : Fun K x qual st f fd) (S : FnScope N ps (defScope st)) (hl : ∀ ds k, C ds k → ds.length = ps.length)
    (hb : ∀ (cdv : Value) (A : Around) (outer : List Env) (s : Shared) (H : Hp) (E : XK), Room n (A.deeper (PyProof.Rows.envOfC qual (defScope st) s.heap.objs.size f cdv)) →
      ∀ ds k, C ds k → ∃ ts dd, XSs (cxOf CX0 P w K mg base N qual (defScope st) f cdv A outer s H E).nox (defBody st) ts dd ∧ dd (bodyE k) (st0 N ds)) : FnOk P w K mg base CX0 (n + 1) f fd ps (spD K C) := by
  refine F.ok S (fun vs H Q E ⟨W, ds, k, hW, r, c, _⟩ => by rw [reps_len r]; exact hl ds k c) fun cdv A outer s H vs Q E hr ⟨W, ds, k, hW, r, c, q⟩ => ?_
  obtain ⟨ts, dd, h1, h2⟩ := hb cdv A outer s H E hr ds k c
  refine ⟨ts, h1.ps, h1.ok W H (st0 N ds) (L2.start N vs) H (bodyE k) _ (at_start hW r) h2 (fun ρ' σ' H' a' kk => q .non .non H' a'.kp non_rep kk) (fun ρ' σ' H' d v a' rr kk => q d v H' a'.kp (rep_sub (cl_mono fun a o e n => ⟨e, fun z => n (.inl z)⟩) d v rr) kk) (fun _ _ _ _ z => z.elim) fun _ _ _ _ z => z.elim⟩
/-- the draws' state ahead -/
def bodyR (p c : Addr) (k : D → Prop) : DEnds := { nx := fun ρ => ρ[0]? = some (.dr p c) ∧ k .non, rt := fun d ρ => ρ[0]? = some (.dr p c) ∧ k d }
theorem stR_av {W : Addr → Prop} {N : List Str} {ds : List D} {p c a : Addr} (hp : W p) : Av (fun a => W a ∧ a ≠ p) (.dr p c :: st0 N ds) a ↔ W a := by
  constructor
  · rintro (z | ⟨s, hs, e⟩)
    · exact z.1
    · rcases List.mem_cons.mp hs with q | q
      · subst q; cases e; exact hp
      · rw [st0_addr q] at e; cases e
  · intro z
    by_cases q : a = p
    · exact .inr ⟨_, List.mem_cons_self .., by rw [q]; rfl⟩
    · exact .inl ⟨z, q⟩
theorem fnR {C : DC} {x qual : Str} {st : Stmt} {f : Addr} {fd : FuncData} {y : Str} {N ps : List Str} {n : Nat} (F : Fun K x qual st f fd) (S : FnScope (y :: N) ps (defScope st)) (hl : ∀ ds k, C ds k → ds.length + 1 = ps.length)
    (hb : ∀ (cdv : Value) (A : Around) (outer : List Env) (s : Shared) (H : Hp) (E : XK), Room n (A.deeper (PyProof.Rows.envOfC qual (defScope st) s.heap.objs.size f cdv)) →
      ∀ ds k p c, C ds k → ∃ ts dd, XSs (cxOf CX0 P w K mg base (y :: N) qual (defScope st) f cdv A outer s H E).nox (defBody st) ts dd ∧ dd (bodyR p c k) (.dr p c :: st0 N ds)) : FnOk P w K mg base CX0 (n + 1) f fd ps (spR K C) := by
  refine F.ok S (fun vs H Q E ⟨W, p, c, vr, ds, k, e, hW, hp, hd, r, c', _⟩ => by subst e; rw [List.length_cons, reps_len r]; exact hl ds k c') fun cdv A outer s H vs Q E hr ⟨W, p, c, vr, ds, k, e, hW, hp, hd, r, c', q⟩ => ?_
  subst e
  obtain ⟨ts, dd, h1, h2⟩ := hb cdv A outer s H E hr ds k p c c'
  have m : Sub (cl W H) (cl (Av (fun a => W a ∧ a ≠ p) (.dr p c :: st0 N ds)) H) := cl_mono fun a o e n => ⟨e, fun z => n ((stR_av hp).mp z)⟩
  have hl0 := reps_len r
  have t : At K (fun a => W a ∧ a ≠ p) (cl (fun a => a = p) H) (.dr p c :: st0 N ds) (L2.start (y :: N) (.ref p :: vr)) H := by
    have t1 := at_start (N := N) hW r
    have es : L2.start (y :: N) (.ref p :: vr) = some (.ref p) :: L2.start N vr := by
      unfold L2.start
      simp only [List.map_cons, List.length_cons, List.cons_append, Nat.succ_sub_succ]
    refine ⟨cl_sub, fun a z => ?_, fun i s hi => ?_, fun i s a hi e => ?_, fun i j s t a hi hj e1 e2 => ?_, by rw [es]; simp only [List.length_cons]; rw [t1.len]⟩
    · obtain ⟨o, e⟩ := hW a z.1
      exact ⟨o, cl_of e z.2⟩
    · rw [es]
      cases i with
      | zero => cases hi; exact ⟨rfl, hd.sub m rfl⟩
      | succ i =>
        have h0 : (st0 N ds)[i]? = some s := by simpa using hi
        have q0 := t1.sl i s h0
        have hs := st0_addr (List.mem_of_getElem? h0)
        cases s with
        | no => trivial
        | da d => obtain ⟨v, g1, g2⟩ := q0; exact ⟨v, by simpa using g1, rep_sub (Sub.trans (cl_mono fun a o e n => ⟨e, fun z => n (st0_av.mpr z)⟩) m) _ _ g2⟩
        | ol _ _ => cases hs
        | od _ _ _ => cases hs
        | dr _ _ => cases hs
    · cases i with
      | zero => cases hi; cases e; unfold cl; rw [if_pos rfl]
      | succ i => rw [st0_addr (List.mem_of_getElem? (i := i) (by simpa using hi))] at e; cases e
    · cases i with
      | zero =>
        cases j with
        | zero => rfl
        | succ j => rw [st0_addr (List.mem_of_getElem? (i := j) (by simpa using hj))] at e2; cases e2
      | succ i => rw [st0_addr (List.mem_of_getElem? (i := i) (by simpa using hi))] at e1; cases e1
  have fin : ∀ ρ' σ' H' d v, At K (fun a => W a ∧ a ≠ p) (cl (fun a => a = p) H) ρ' σ' H' → rep K (cl (Av (fun a => W a ∧ a ≠ p) ρ') H') d v → ρ'[0]? = some (.dr p c) → k d → Q v H' := fun ρ' σ' H' d v a' rr h0 kk => by
    have m' : Sub (cl (Av (fun a => W a ∧ a ≠ p) ρ') H') (cl W H') := cl_mono fun a o e n => ⟨e, fun z => n (by
      by_cases ap : a = p
      · subst ap; exact own_av h0 rfl
      · exact .inl ⟨z, ap⟩)⟩
    exact q d v H' (fun a o n e => a'.kp a o (cl_of e n)) ((a'.sl 0 _ h0).2.sub m' rfl) (rep_sub m' d v rr) kk
  exact ⟨ts, h1.ps, h1.ok _ _ _ _ H (bodyR p c k) _ t h2 (fun ρ' σ' H' a' kk => fin ρ' σ' H' .non .non a' non_rep kk.1 kk.2) (fun ρ' σ' H' d v a' rr kk => fin ρ' σ' H' d v a' rr kk.1 kk.2) (fun _ _ _ _ z => z.elim) fun _ _ _ _ z => z.elim⟩
end

/-! ### lists that are lists -/
def LLOk (K : PySem.W.Frag) (te : TE) (dl : DL) : Prop := ∀ (W : Addr → Prop) (B : Hp) (ρ : List Sl) (σ : L2.St) (H : Hp) (k : List D → Prop) (Q : VK), At K W B ρ σ H → dl ρ k →
  (∀ ds a xs H', At K W B ρ σ H' → Gr ρ H H' → cl (Dv ρ) H' a = some (.lst xs) → reps K (cl (Av W ρ) H') ds xs → k ds → Q (.ref a) H') → te σ H Q
structure XLL (X : Cx) (e : Expr) (te : TE) (dl : DL) : Prop where
  pe : PE X e te
  ok : LLOk X.K te dl
def deLL (de : DE) : DL := fun ρ k => de ρ fun d => ∃ ds, d = .lst ds ∧ k ds
def dLLVar (i : Nat) : DL := fun ρ k => (∃ ds, ρ[i]? = some (.da (.lst ds)) ∧ k ds) ∨ ∃ a ds, ρ[i]? = some (.ol a ds) ∧ k ds
section
variable {X : Cx} {e e2 : Expr} {te tf : TE} {de df : DE} {dl dm : DL} {pos p p1 p2 : Pos}
theorem XE.ll (h : XE X e te de) : XLL X e te (deLL de) := ⟨h.pe, fun W B ρ σ H k Q a d q => h.ok W B ρ σ H _ _ a d fun x v H' a' g r ⟨ds, ed, kk⟩ => by
  subst ed
  obtain ⟨l, xs, rfl, h1, h2⟩ := rep_lst r
  exact q ds l xs H' a' g (cl_av_dv _ _ h1) h2 kk⟩
theorem XF.ll (h : XF X e te dl) : XLL X e te dl := ⟨h.pe, fun W B ρ σ H k Q a d q => h.ok W B ρ σ H _ _ a d fun ds l xs H' a' g hl hl' r kk =>
  q ds l xs H' a' g (cl_of hl' fun z => a.new_av hl (av_dv z)) (reps_sub (cl_mono fun b o e n => ⟨e, fun z => n (.inl z)⟩) ds xs r) kk⟩
theorem ll_var {i : Nat} (h : PE X e (tVar i)) : XLL X e (tVar i) (dLLVar i) := ⟨h, fun W B ρ σ H k Q a d q => by
  rcases d with ⟨ds, hd, kk⟩ | ⟨l, ds, hd, kk⟩
  · obtain ⟨v, h1, h2⟩ := a.sl i _ hd
    obtain ⟨l, xs, rfl, h3, h4⟩ := rep_lst h2
    exact ⟨_, h1, q ds l xs H a (Gr.refl H) (cl_av_dv _ _ h3) h4 kk⟩
  · obtain ⟨h1, xs, h2, h3⟩ := a.sl i _ hd
    exact ⟨_, h1, q ds l xs H a (Gr.refl H) (cl_of h2 (own_ndv a hd rfl fun c z => by cases z)) h3 kk⟩⟩
def dCat (dl dm : DL) : DL := fun ρ k => dl ρ fun xs => dm ρ fun ys => xs.length + ys.length ≤ 10000000 ∧ k (xs ++ ys)
theorem f_cat (h : XLL X e te dl) (h' : XLL X e2 tf dm) : XF X (.BinOp e .Add e2 pos) (tOp rCat te tf) (dCat dl dm) := ⟨pe_op op_cat h.pe h'.pe, fun W B ρ σ H k Q at' d q =>
  h.ok W B ρ σ H _ _ at' d fun ds a xs H1 a1 g1 h1 r1 k1 => h'.ok W B ρ σ H1 _ _ a1 k1 fun es b ys H2 a2 g2 h2 r2 ⟨hl, kk⟩ => by
    have h1' := Gr_dv g2 _ _ h1
    have r1' := reps_sub (Gr_cl g2) ds xs r1
    refine ⟨a, b, xs, ys, rfl, rfl, (of_cl h1').1, (of_cl h2).1, by rw [reps_len r1', reps_len r2]; exact sl7 hl, fun l hn => ?_⟩
    exact q _ l _ _ (a2.alloc hn) ((g1.trans g2).trans (Gr.of (Sub.new hn))) (Gr.back (W := W) a2 (g1.trans g2) hn) upd_same (reps_sub (cl_more hn) _ _ (reps_append r1' r2)) kk⟩
/-- x = xs.pop() -/
def dSetPop (i j : Nat) : DS := fun E ρ => ∃ a ds d, ρ[j]? = some (.ol a (ds ++ [d])) ∧ E.nx ((ρ.set j (.ol a ds)).set i (.da d))
theorem okSetPop {K : PySem.W.Frag} {i j : Nat} : SOk K (tAsg (tBM0 K "list" rPop (tVar j)) (gName i)) (dSetPop i j) := fun W B ρ σ H E G at' ⟨a, ds, d, hj, k⟩ nx rt bk ct => by
  obtain ⟨h1, xs, h2, h3⟩ := at'.sl j _ hj
  obtain ⟨ys, zs, rfl, h4, h5⟩ := reps_split h3
  obtain ⟨z, r, rfl, h6, h7⟩ : ∃ z r, zs = z :: r ∧ rep K (cl (Av W ρ) H) d z ∧ reps K (cl (Av W ρ) H) [] r := by simpa only [reps] using h5
  have : r = [] := by simpa only [reps] using h7
  subst this
  refine ⟨.ref a, h1, .inl ⟨rfl, _, .inl (.inl h2)⟩, a, ys ++ [z], z, rfl, rfl, h2, by simp, ?_⟩
  rw [List.dropLast_concat]
  have t1 := at'.updO (s' := .ol a ds) (o := .lst ys) hj rfl rfl ⟨h1, ys, upd_same, h4⟩
  refine nx _ _ _ (t1.setD (d := d) (v := z) (rep_sub (cl_mono fun b o e n => ?_) d z h6)) k
  have nb : b ≠ a := fun q => n (by subst q; exact own_av hj rfl)
  refine ⟨by rw [upd_ne nb]; exact e, fun z => n ?_⟩
  rcases z with z | ⟨t, ht, q⟩
  · exact .inl z
  · rcases mem_set ht with w | w
    · subst w; cases q; exact absurd rfl nb
    · exact .inr ⟨t, w, q⟩
theorem s_setPop {i j : Nat} {x : Str} {o : Expr} {pos' : Pos} (hN : X.N.Nodup) (hi : X.N[i]? = some x) (ho : PE X o (tVar j)) (hx : Loc X.env.scope x := by first | exact .inl rfl | exact .inr rfl)
    (hbase : attributeBase o "pop" X.env (eval o X.env) = eval o X.env := by rfl) (hline : (p1.endLine == p2.line) = true := by rfl)
    (hs : swapsWith (.Call (.Attribute o "pop" p1) [] [] p2) (some (.Name x pos')) pos.line X.env = pure false := by rfl)
    (hf : X.fn x = true ∨ X.env.scope.names.lookup x = some .local := by first | exact .inl rfl | exact .inr rfl) :
    XS X (.Assign [.Name x pos'] (.Call (.Attribute o "pop" p1) [] [] p2) pos) (tAsg (tBM0 X.K "list" rPop (tVar j)) (gName i)) (dSetPop i j) :=
  ⟨ps_set hN hi hx (pe_bm0 PySem.F.plainAttrs_list PySem.F.slot_list_pop PySem.F.type_list_pop mt_pop ho hbase hline) hs hf, okSetPop⟩
/-! None, repr -/
def D.isN : D → Bool
  | .non => true
  | _ => false
def dIsN (de : DE) : DE := fun ρ k => de ρ fun x => k (.bl x.isN)
def rIsNn : R2 := fun x y H Q => y = .non ∧ Q (.bl (decide (x = .non))) H
theorem isN_rep {K : PySem.W.Frag} {C : Hp} {d : D} {v : V} (r : rep K C d v) : decide (v = .non) = d.isN := by
  cases d with
  | non => obtain rfl := rep_non r; rfl
  | bl b => obtain rfl := rep_bl r; rfl
  | int b => obtain rfl := rep_int r; rfl
  | str b => obtain rfl := rep_str r; rfl
  | fz ns => simp only [rep] at r; obtain ⟨a, rfl, _⟩ := r; rfl
  | lst ds => obtain ⟨a, xs, rfl, _⟩ := rep_lst r; rfl
  | tup ds => obtain ⟨a, xs, rfl, _⟩ := rep_tup r; rfl
  | dct ks ds => simp only [rep] at r; obtain ⟨a, xs, rfl, _⟩ := r; rfl
theorem okIsN {K : PySem.W.Frag} (h : BOk K te de) : EOk K (tOp rIsNn te (tC .non)) (dIsN de) := fun W B ρ σ H k Q at' d q =>
  h W B ρ σ H _ _ at' d fun x v H1 a1 g1 r1 kk => ⟨rfl, by rw [isN_rep r1]; exact q _ _ H1 a1 g1 bl_rep kk⟩
theorem x_isN {j : Nat} (h : XB X e te de) : XE X (.Compare e [.Is] [.Constant .none j p] pos) (tOp rIsNn te (tC .non)) (dIsN de) := ⟨pe_cmpR op_isN h.pe pe_non (nomark _), okIsN h.ok⟩
theorem t_isN {j : Nat} (h : XB X e te de) : XT X (.Compare e [.Is] [.Constant .none j p] pos) (tTest (tOp rIsNn te (tC .non))) (dTest (dIsN de)) := ⟨pt_cmpR op_isN h.pe pe_non (nomark _), okTest (okIsN h.ok).b⟩
def rReprB : List V → Hp → VK → Prop := fun xs H Q => (∃ b, xs = [.bl b] ∧ Q (.str (if b then "True" else "False")) H) ∨ (xs = [.non] ∧ Q (.str "None") H)
theorem call_reprB : CallR X (.builtin "repr") rReprB := by
  intro pins s σ H xs us Q I r h
  rcases h with ⟨b, rfl, q⟩ | ⟨rfl, q⟩
  · cases r with
    | cons r rr =>
      cases rr; cases r
      exact PySem.P.repr_of_bool ⟨.str _, H, I.tok _, ⟨_, rfl⟩, q⟩
  · cases r with
    | cons r rr =>
      cases rr; cases r
      exact PySem.P.repr_of_none ⟨.str _, H, I.tok _, ⟨_, rfl⟩, q⟩
def D.reprB : D → Option Str
  | .bl b => some (if b then "True" else "False")
  | .non => some "None"
  | _ => none
def dReprB (de : DE) : DE := fun ρ k => de ρ fun x => ∃ z, x.reprB = some z ∧ k (.str z)
theorem x_reprB (hm : X.mg "repr" = none) (h : XB X e te de) (hg : Gl X "repr" := by rfl) (hs : starEach [e] X.env = [(false, eval e X.env)] := by rfl) : XE X (.Call (.Name "repr" p) [e] [] pos) (tCB rReprB (tCons te tNil)) (dReprB de) :=
  ⟨pe_callB call_reprB hg hm (by decide +kernel) (pa_cons h.pe pa_nil hs) (he := hs), fun W B ρ σ H k Q at' d q => h.ok W B ρ σ H _ _ at' d fun x v H1 a1 g1 r1 ⟨z, e, kk⟩ => by
    cases x with
    | bl b => cases e; obtain rfl := rep_bl r1; exact .inl ⟨b, rfl, q _ _ H1 a1 g1 str_rep kk⟩
    | non => cases e; obtain rfl := rep_non r1; exact .inr ⟨rfl, q _ _ H1 a1 g1 str_rep kk⟩
    | _ => cases e⟩
end
end DL

namespace DL
open PySem PySem.Spec L2

section
variable {X : Cx} {a b c e e2 : Expr} {ta tb tc te tf : TE} {da db dc de df : DE} {dl dm : DL} {pos p1 p2 p3 : Pos}
/-- x, y, z = a, b, c: values that may be kept -/
def dPar3 (i j l : Nat) (da db dc : DE) : DS := fun E ρ => da ρ fun u => db ρ fun v => dc ρ fun w => E.nx (((ρ.set i (.da u)).set j (.da v)).set l (.da w))
theorem okPar3 {K : PySem.W.Frag} {i j l : Nat} (h1 : EOk K ta da) (h2 : EOk K tb db) (h3 : EOk K tc dc) : SOk K (tPar3 i j l (tCons ta (tCons tb (tCons tc tNil)))) (dPar3 i j l da db dc) := fun W B ρ σ H E G at' d nx rt bk ct =>
  h1 W B ρ σ H _ _ at' d fun u x H1 a1 g1 r1 k1 => h2 W B ρ σ H1 _ _ a1 k1 fun v y H2 a2 g2 r2 k2 => h3 W B ρ σ H2 _ _ a2 k2 fun w z H3 a3 g3 r3 k3 => by
    refine ⟨x, y, z, rfl, nx _ _ H3 ?_ k3⟩
    have m1 : Sub (cl (Av W ρ) H3) (cl (Av W (ρ.set i (.da u))) H3) := set_da_less
    exact ((a3.setD (rep_sub (Gr_cl g3) _ _ (rep_sub (Gr_cl g2) _ _ r1))).setD (rep_sub m1 _ _ (rep_sub (Gr_cl g3) _ _ r2))).setD (rep_sub (Sub.trans m1 set_da_less) _ _ r3)
theorem s_par3 {i j l : Nat} {x y z : Str} {px py pz pt : Pos} {kt k2 : Nat} {pt2 : Pos} (hc : X.calm = true) (hN : X.N.Nodup) (hi : X.N[i]? = some x) (hj : X.N[j]? = some y) (hl : X.N[l]? = some z) (hij : i ≠ j) (hil : i ≠ l) (hjl : j ≠ l)
    (ha : XE X a ta da) (hb : XE X b tb db) (hd : XE X c tc dc) (hx : X.env.scope.names.lookup x = some .local := by rfl) (hy : X.env.scope.names.lookup y = some .local := by rfl) (hz : X.env.scope.names.lookup z = some .local := by rfl)
    (hs1 : starEach [a, b, c] X.env = (false, eval a X.env) :: starEach [b, c] X.env := by rfl) (hs2 : starEach [b, c] X.env = (false, eval b X.env) :: starEach [c] X.env := by rfl) (hs3 : starEach [c] X.env = [(false, eval c X.env)] := by rfl)
    (hw : swappedStores [.Tuple [.Name x px, .Name y py, .Name z pz] kt pt] (.Tuple [a, b, c] k2 pt2) X.env = pure (some [x, y, z]) := by rfl)
    (hs : swapsWithSole [.Tuple [.Name x px, .Name y py, .Name z pz] kt pt] (.Tuple [a, b, c] k2 pt2) pos.line X.env = pure false := by rfl) :
    XS X (.Assign [.Tuple [.Name x px, .Name y py, .Name z pz] kt pt] (.Tuple [a, b, c] k2 pt2) pos) (tPar3 i j l (tCons ta (tCons tb (tCons tc tNil)))) (dPar3 i j l da db dc) :=
  ⟨ps_par3 hc hN hi hj hl hij hil hjl hx hy hz (pa_cons ha.pe (pa_cons hb.pe (pa_cons hd.pe pa_nil hs3) hs2) hs1) hw hs, okPar3 ha.ok hb.ok hd.ok⟩
/-- [x] * n -/
def dRep (dl : DL) (de : DE) : DL := fun ρ k => dl ρ fun xs => de ρ fun y => ∃ j : Int, y = .int j ∧ -(2 ^ 63) ≤ j ∧ j < 2 ^ 63 ∧ xs.length * j.toNat ≤ 10000000 ∧ k (List.replicate j.toNat xs).flatten
theorem reps_rep {K : PySem.W.Frag} {C : Hp} {ds : List D} {xs : List V} (h : reps K C ds xs) : ∀ n : Nat, reps K C (List.replicate n ds).flatten (List.replicate n xs).flatten
  | 0 => reps_nil
  | n + 1 => by
    rw [List.replicate_succ, List.replicate_succ, List.flatten_cons, List.flatten_cons]
    exact reps_append h (reps_rep h n)
theorem f_rep (h : XLL X e te dl) (h' : XB X e2 tf de) : XF X (.BinOp e .Mult e2 pos) (tOp rRep te tf) (dRep dl de) := ⟨pe_op op_rep h.pe h'.pe, fun W B ρ σ H k Q at' d q =>
  h.ok W B ρ σ H _ _ at' d fun ds a xs H1 a1 g1 h1 r1 k1 => h'.ok W B ρ σ H1 _ _ a1 k1 fun y u H2 a2 g2 r2 ⟨j, ej, b1, b2, hl, kk⟩ => by
    subst ej
    obtain rfl := rep_int r2
    have h1' := Gr_dv g2 _ _ h1
    have r1' := reps_sub (Gr_cl g2) ds xs r1
    refine ⟨a, j, xs, rfl, rfl, (of_cl h1').1, b1, b2, by rw [reps_len r1']; exact sl7 hl, fun l hn => ?_⟩
    exact q _ l _ _ (a2.alloc hn) ((g1.trans g2).trans (Gr.of (Sub.new hn))) (Gr.back (W := W) a2 (g1.trans g2) hn) upd_same (reps_sub (cl_more hn) _ _ (reps_rep r1' _)) kk⟩
end
end DL

namespace DL
open PySem PySem.Spec L2

/-! ### the state of the draws, from within -/
section
variable {X : Cx} {a b c e v ek : Expr} {ta tb tc te tv : TE} {da db dc de : DE} {pos pos' : Pos}
def kW : Key := Sum.inr "whole"
def kL : Key := Sum.inr "cells"
def kN : Key := Sum.inr "count"
theorem kd1 : decide (kL = kW) = false := by decide
theorem kd2 : decide (kN = kW) = false := by decide
theorem kd3 : decide (kN = kL) = false := by decide
theorem kd4 : decide (kW = kL) = false := by decide
theorem kd5 : decide (kW = kN) = false := by decide
theorem kd6 : decide (kL = kN) = false := by decide
def drO (w n : Int) (c : Addr) : List (Key × V) := [(kW, .int w), (kL, .ref c), (kN, .int n)]
theorem dr_w (w n : Int) (c : Addr) : valV (drO w n c) kW = some (.int w) := by
  simp [valV, drO, List.find?_cons, kd1, kd2]
theorem dr_c (w n : Int) (c : Addr) : valV (drO w n c) kL = some (.ref c) := by
  simp [valV, drO, List.find?_cons, kd4]
theorem dr_n (w n : Int) (c : Addr) : valV (drO w n c) kN = some (.int n) := by
  simp [valV, drO, List.find?_cons, kd5, kd6]
theorem dr_putw (w n w' : Int) (c : Addr) : putK (drO w n c) kW (.int w') = drO w' n c := by
  have h1 : kL ≠ kW := of_decide_eq_false kd1
  have h2 : kN ≠ kW := of_decide_eq_false kd2
  simp [putK, drO, h1, h2]
theorem dr_putn (w n w' : Int) (c : Addr) : putK (drO w n c) kN (.int w') = drO w w' c := by
  have h1 : kW ≠ kN := of_decide_eq_false kd5
  have h2 : kL ≠ kN := of_decide_eq_false kd6
  simp [putK, drO, h1, h2]
def isDr (i : Nat) (ρ : List Sl) : Prop := ∃ p c, ρ[i]? = some (.dr p c)
def dDrI (i : Nat) : DE := fun ρ k => isDr i ρ ∧ ∀ w : Int, k (.int w)
theorem x_drW {i : Nat} (hu : X.A.units + 64 < cLine) (he : PE X e (tVar i)) (hk : PE X ek (tC (.str "whole"))) (hs : NoSl ek := by intro _ _; rfl) : XE X (.Subscript e ek pos) (tDGet (tVar i) (tC (.str "whole"))) (dDrI i) := ⟨pe_dget (by omega) he hk hs, fun W B ρ σ H k Q at' ⟨⟨p, c, hp⟩, kk⟩ q => by
  obtain ⟨h1, w, n, ns, hc, hl, hH⟩ := at'.sl i _ hp
  exact ⟨.ref p, h1, p, .int w, rfl, .inl ⟨_, kW, .inl hH, rfl, (dr_w w n c).symm⟩, q _ _ H at' (Gr.refl H) int_rep (kk w)⟩⟩
theorem x_drN {i : Nat} (hu : X.A.units + 64 < cLine) (he : PE X e (tVar i)) (hk : PE X ek (tC (.str "count"))) (hs : NoSl ek := by intro _ _; rfl) : XE X (.Subscript e ek pos) (tDGet (tVar i) (tC (.str "count"))) (dDrI i) := ⟨pe_dget (by omega) he hk hs, fun W B ρ σ H k Q at' ⟨⟨p, c, hp⟩, kk⟩ q => by
  obtain ⟨h1, w, n, ns, hc, hl, hH⟩ := at'.sl i _ hp
  exact ⟨.ref p, h1, p, .int n, rfl, .inl ⟨_, kN, .inl hH, rfl, (dr_n w n c).symm⟩, q _ _ H at' (Gr.refl H) int_rep (kk n)⟩⟩
def dDrC (i : Nat) : DL := fun ρ k => isDr i ρ ∧ ∀ ns : List Int, ns.length ≤ 63 → k (ns.map D.int)
theorem ll_drC {i : Nat} (hu : X.A.units + 64 < cLine) (he : PE X e (tVar i)) (hk : PE X ek (tC (.str "cells"))) (hs : NoSl ek := by intro _ _; rfl) : XLL X (.Subscript e ek pos) (tDGet (tVar i) (tC (.str "cells"))) (dDrC i) := ⟨pe_dget (by omega) he hk hs, fun W B ρ σ H k Q at' ⟨⟨p, c, hp⟩, kk⟩ q => by
  obtain ⟨h1, w, n, ns, hc, hl, hH⟩ := at'.sl i _ hp
  exact ⟨.ref p, h1, p, .ref c, rfl, .inl ⟨_, kL, .inl hH, rfl, (dr_c w n c).symm⟩, q _ c _ H at' (Gr.refl H) (cl_av_dv _ _ hc) (ints_reps ns) (kk ns hl)⟩⟩
def dDrSet (i : Nat) (de : DE) : DS := fun E ρ => isDr i ρ ∧ de ρ fun d => ∃ w : Int, d = .int w ∧ E.nx ρ
theorem dr_after {K : PySem.W.Frag} {W : Addr → Prop} {B : Hp} {ρ : List Sl} {σ : L2.St} {H : Hp} {i : Nat} {p c : Addr} {w' n' : Int} {ns : List Int} (t : At K W B ρ σ H) (hp : ρ[i]? = some (.dr p c)) (hc : cl (Av W ρ) H c = some (.lst (ns.map V.int))) (hl : ns.length ≤ 63) :
    At K W B ρ σ (upd H p (.dK (drO w' n' c))) := by
  obtain ⟨hc1, hc2⟩ := of_cl hc
  have cp : c ≠ p := fun z => hc2 (by subst z; exact own_av hp rfl)
  exact t.drawn hp (fun b o nb e => by rw [upd_ne nb]; exact e) ⟨w', n', ns, cl_of (by rw [upd_ne cp]; exact hc1) hc2, hl, upd_same⟩
theorem s_drW {i : Nat} (hu : X.A.units + 64 < cLine) (he : PE X e (tVar i)) (hk : PE X ek (tC (.str "whole"))) (hv : XE X v tv de) (hs : swapsWith v (some (.Subscript e ek pos')) pos.line X.env = pure false := by rfl) : XS X (.Assign [.Subscript e ek pos'] v pos) (sDPut (tVar i) (tC (.str "whole")) tv) (dDrSet i de) := ⟨ps_dput (by omega) he hk hv.pe hs, fun W B ρ σ H E G at' ⟨⟨p, c, hp⟩, d⟩ nx rt bk ct =>
  hv.ok W B ρ σ H _ _ at' d fun x u H1 a1 g1 r1 ⟨w', ew, kk⟩ => by
    subst ew
    obtain rfl := rep_int r1
    obtain ⟨h1, w, n, ns, hc, hl, hH⟩ := a1.sl i _ hp
    refine ⟨.ref p, h1, p, upd H1 p (.dK (drO w' n c)), rfl, .inl ⟨_, kW, hH, rfl, by rw [sizeLine_eq]; simp, ?_⟩, nx ρ _ _ (dr_after a1 hp hc hl) kk⟩
    rw [← dr_putw w n w' c]; rfl⟩
theorem s_drN {i : Nat} (hu : X.A.units + 64 < cLine) (he : PE X e (tVar i)) (hk : PE X ek (tC (.str "count"))) (hv : XE X v tv de) (hs : swapsWith v (some (.Subscript e ek pos')) pos.line X.env = pure false := by rfl) : XS X (.Assign [.Subscript e ek pos'] v pos) (sDPut (tVar i) (tC (.str "count")) tv) (dDrSet i de) := ⟨ps_dput (by omega) he hk hv.pe hs, fun W B ρ σ H E G at' ⟨⟨p, c, hp⟩, d⟩ nx rt bk ct =>
  hv.ok W B ρ σ H _ _ at' d fun x u H1 a1 g1 r1 ⟨w', ew, kk⟩ => by
    subst ew
    obtain rfl := rep_int r1
    obtain ⟨h1, w, n, ns, hc, hl, hH⟩ := a1.sl i _ hp
    refine ⟨.ref p, h1, p, upd H1 p (.dK (drO w w' c)), rfl, .inl ⟨_, kN, hH, rfl, by rw [sizeLine_eq]; simp, ?_⟩, nx ρ _ _ (dr_after a1 hp hc hl) kk⟩
    rw [← dr_putn w n w' c]; rfl⟩

/-! great products -/
theorem x_mulX (ha : XB X a ta da) (hb : XB X b tb db) : XE X (.BinOp a .Mult b pos) (tOp (rI CMulX fun i j => .int (i * j)) ta tb) (dI CMulX (gI fun i j => i * j) da db) := ⟨pe_op op_mulX ha.pe hb.pe, okI (fun _ _ _ => int_rep) ha.ok hb.ok⟩

/-! the displayed dict of the draws -/
def dDisp3 (da db dc : DE) : DE := fun ρ k => da ρ fun x => db ρ fun y => dc ρ fun z => k (.dct [kW, kL, kN] [x, y, z])
theorem merge3 (x y z : V) : mergeK [] [(kW, x), (kL, y), (kN, z)] = [(kW, x), (kL, y), (kN, z)] := by
  have h1 : kW ≠ kL := of_decide_eq_false kd4
  have h2 : kW ≠ kN := of_decide_eq_false kd5
  have h3 : kL ≠ kN := of_decide_eq_false kd6
  simp [mergeK, putK, h1, h2, h3]
theorem x_disp3 {k1 k2 k3 : Expr} (h1 : PE X k1 (tC (.str "whole"))) (h2 : PE X k2 (tC (.str "cells"))) (h3 : PE X k3 (tC (.str "count"))) (ha : XE X a ta da) (hb : XE X b tb db) (hc : XE X c tc dc) :
    XE X (.Dict [some k1, some k2, some k3] [a, b, c] pos) (tDisp [(tC (.str "whole"), ta), (tC (.str "cells"), tb), (tC (.str "count"), tc)]) (dDisp3 da db dc) := ⟨pe_disp (pps_cons h1 ha.pe (pps_cons h2 hb.pe (pps_cons h3 hc.pe pps_nil))) rfl rfl (by simp) (by simp), fun W B ρ σ H k Q at' d q p hn => by
  have t0 : At X.K (fun b => W b ∨ b = p) (upd B p (.dK [])) ρ σ (upd H p (.dK [])) := at'.hide hn (Gr.of (Sub.new hn)) (at'.alloc hn) upd_same
  have bp : B p = none := by
    cases e : B p with
    | none => rfl
    | some o => rw [at'.kp p o e] at hn; cases hn
  have ndv : ¬ Dv ρ p := fun z => at'.new_av hn (av_dv (W := W) z)
  refine ha.ok _ _ ρ σ _ _ _ t0 d fun x u H1 a1 g1 r1 k1 => hb.ok _ _ ρ σ _ _ _ a1 k1 fun y v H2 a2 g2 r2 k2 => hc.ok _ _ ρ σ _ _ _ a2 k2 fun z w H3 a3 g3 r3 k3 => ?_
  have e3 : H3 p = some (.dK []) := g3 _ _ ndv (g2 _ _ ndv (g1 _ _ ndv upd_same))
  refine ⟨e3, [(kW, u), (kL, v), (kN, w)], rfl, by simp, ?_⟩
  rw [merge3]
  have t4 := a3.updW (o' := .dK [(kW, u), (kL, v), (kN, w)])
  have t5 : At X.K W B ρ σ (upd H3 p (.dK [(kW, u), (kL, v), (kN, w)])) := t4.unhide (sub_upd bp) (fun x h => .inl h) at'.wd
  have m : Sub (cl (Av (fun b => W b ∨ b = p) ρ) H3) (cl (Av W ρ) (upd H3 p (.dK [(kW, u), (kL, v), (kN, w)]))) := cl_mono fun b o e n => by
    have nb : b ≠ p := fun z => n (.inl (.inr z))
    exact ⟨by rw [upd_ne nb]; exact e, fun z => n (z.imp (fun y => .inl y) id)⟩
  refine q _ _ _ t5 (fun b o nd e => ?_) ?_ k3
  · have nb : b ≠ p := ne_of_none e hn
    rw [upd_ne nb]
    exact g3 _ _ nd (g2 _ _ nd (g1 _ _ nd (by rw [upd_ne nb]; exact e)))
  · simp only [rep]
    exact ⟨p, [u, v, w], rfl, cl_of upd_same (at'.new_av hn), rfl, reps_cons (rep_sub (Sub.trans (Gr_cl (W := fun b => W b ∨ b = p) (g2.trans g3)) m) _ _ r1) (reps_cons (rep_sub (Sub.trans (Gr_cl (W := fun b => W b ∨ b = p) g3) m) _ _ r2) (reps_one (rep_sub m _ _ r3)))⟩⟩
/-- the dict of the draws becomes the state of the draws -/
theorem At.begin {K : PySem.W.Frag} {ρ : List Sl} {σ : L2.St} {W : Addr → Prop} {B H : Hp} {i : Nat} {w n : Int} {cs : List Int} (t : At K W B ρ σ H) (hn : ∀ s ∈ ρ, s.addr = none) (hi : ρ[i]? = some (.da (.dct [kW, kL, kN] [.int w, .lst (cs.map .int), .int n]))) (hl : cs.length ≤ 63)
    (ho : ∀ j s, ρ[j]? = some s → j ≠ i → s = .no ∨ ∃ ns, s = .da (.fz ns)) : ∃ (B' : Hp) (p c : Addr), At K (fun _ => False) B' (ρ.set i (.dr p c)) σ H := by
  obtain ⟨v, h1, h2⟩ := t.sl i _ hi
  simp only [rep, reps] at h2
  obtain ⟨p, xs, rfl, hp, _, x1, r1, rfl, rfl, x2, r2, rfl, ⟨c, ys, rfl, hc, hy⟩, x3, r3, rfl, rfl, rfl⟩ := h2
  have hy := reps_ints hy
  subst hy
  have hp' := (of_cl hp).1
  have hc' := (of_cl hc).1
  have cp : c ≠ p := fun z => by subst z; rw [hp'] at hc'; cases hc'
  have lt : i < ρ.length := (List.getElem?_eq_some_iff.mp hi).1
  have ad : ∀ {j : Nat} {s : Sl} {a : Addr}, (ρ.set i (.dr p c))[j]? = some s → s.addr = some a → j = i ∧ a = p := fun {j s a} hj e => by
    rcases set_get hj with ⟨e1, e2, _⟩ | ⟨e1, e2⟩
    · subst e2; cases e; exact ⟨e1, rfl⟩
    · rw [hn s (List.mem_of_getElem? e2)] at e; cases e
  have av : ∀ b, Av (fun _ => False) (ρ.set i (.dr p c)) b → b = p := fun b z => by
    rcases z with z | ⟨s, hs, e⟩
    · exact z.elim
    · obtain ⟨j, hj⟩ := mem_get hs
      exact (ad hj e).2
  refine ⟨cl (fun b => b = p) H, p, c, cl_sub, fun _ z => z.elim, fun j s hj => ?_, fun j s a hj e => ?_, fun j l s u a hj hl e1 e2 => by rw [(ad hj e1).1, (ad hl e2).1], by rw [List.length_set]; exact t.len⟩
  · rcases set_get hj with ⟨e1, e2, _⟩ | ⟨e1, e2⟩
    · subst e1; subst e2
      exact ⟨h1, w, n, cs, cl_of hc' fun z => cp (av c z), hl, hp'⟩
    · rcases ho j s e2 e1 with rfl | ⟨ns, rfl⟩
      · trivial
      · obtain ⟨v, g1, g2⟩ := t.sl j _ e2
        refine ⟨v, g1, ?_⟩
        simp only [rep] at g2 ⊢
        obtain ⟨a, rfl, hs⟩ := g2
        refine ⟨a, rfl, ?_⟩
        rcases hs with hs | hs
        · refine .inl ?_
          rcases hs with hs | ⟨o, hs⟩
          · have hs' := (of_cl hs).1
            exact .inl (cl_of hs' fun z => by have := av a z; subst this; rw [hp'] at hs'; cases hs')
          · have hs' := (of_cl hs).1
            exact .inr ⟨o, cl_of hs' fun z => by have := av a z; subst this; rw [hp'] at hs'; cases hs'⟩
        · exact .inr hs
  · obtain ⟨_, rfl⟩ := ad hj e
    unfold cl; rw [if_pos rfl]
end
section
variable {X : Cx} {tg it elt : Expr} {ifs : List Expr} {scope : Scope} {own : List (Str × Nat)} {is : List Nat} {wi : TI} {di : DL} {dg : DG} {dt : DT} {de : DE} {pos : Pos}
abbrev Dep (α : Type) : Type := Shared → Hp → Addr → List (Str × Addr) → List Addr → α
/-- a comprehension whose readings may name what its own frame brings -/
theorem f_lcG {g : Dep TG} {tt : Dep TT} {te : Dep TE} (hc : X.calm = true) (hN : X.N.Nodup) (hi : XI X tg it wi di) (ok : BlkOk X.N X.env.scope scope own)
    (hg : ∀ s H C cl fp, XGs (X.blk s H scope (compEnvC scope cl C X.env) fp) tg (g s H C cl fp) dg is)
    (ht : ∀ s H C cl fp, XTs (X.blk s H scope (compEnvC scope cl C X.env) fp) ifs (tt s H C cl fp) dt)
    (he : ∀ s H C cl fp, XE (X.blk s H scope (compEnvC scope cl C X.env) fp) elt (te s H C cl fp) de)
    (eg : ∀ s H C cl fp, g s H C cl fp = g X.s_0 X.H_0 0 [] [] := by intros; rfl) (et : ∀ s H C cl fp, tt s H C cl fp = tt X.s_0 X.H_0 0 [] [] := by intros; rfl) (ee : ∀ s H C cl fp, te s H C cl fp = te X.s_0 X.H_0 0 [] [] := by intros; rfl)
    (hv : ∀ i ∈ is, i ∈ own.map (·.2) := by decide) (hs : ∀ x, foldedSetIterable it X.env x = pure x := by intro _; rfl) :
    XF X (.ListComp elt [⟨tg, it, ifs, 0⟩] scope pos) (tLc wi (g X.s_0 X.H_0 0 [] []) (tt X.s_0 X.H_0 0 [] []) (te X.s_0 X.H_0 0 [] []) (own.map (·.2))) (dLc di dg dt de (own.map (·.2))) :=
  f_lc hc hN hi ok (fun s H C cl fp => eg s H C cl fp ▸ hg s H C cl fp) (fun s H C cl fp => et s H C cl fp ▸ ht s H C cl fp) (fun s H C cl fp => ee s H C cl fp ▸ he s H C cl fp) hv hs
theorem s_setLcG {g : Dep TG} {tt : Dep TT} {te : Dep TE} {i : Nat} {y : Str} {py spos : Pos} (hc : X.calm = true) (hN : X.N.Nodup) (hy : X.N[i]? = some y)
    (hsw : swapsWith (.ListComp elt [⟨tg, it, ifs, 0⟩] scope pos) (some (.Name y py)) spos.line X.env = pure true) (hi : XI X tg it wi di) (ok : BlkOk X.N X.env.scope scope own)
    (hg : ∀ s H C cl fp, XGs (X.blk s H scope (compEnvC scope cl C X.env) fp) tg (g s H C cl fp) dg is)
    (ht : ∀ s H C cl fp, XTs (X.blk s H scope (compEnvC scope cl C X.env) fp) ifs (tt s H C cl fp) dt)
    (he : ∀ s H C cl fp, XE (X.blk s H scope (compEnvC scope cl C X.env) fp) elt (te s H C cl fp) de)
    (eg : ∀ s H C cl fp, g s H C cl fp = g X.s_0 X.H_0 0 [] [] := by intros; rfl) (et : ∀ s H C cl fp, tt s H C cl fp = tt X.s_0 X.H_0 0 [] [] := by intros; rfl) (ee : ∀ s H C cl fp, te s H C cl fp = te X.s_0 X.H_0 0 [] [] := by intros; rfl)
    (hv : ∀ i ∈ is, i ∈ own.map (·.2) := by decide) (hyl : X.env.scope.names.lookup y = some .local := by rfl) (hs : ∀ x, foldedSetIterable it X.env x = pure x := by intro _; rfl) :
    XS X (.Assign [.Name y py] (.ListComp elt [⟨tg, it, ifs, 0⟩] scope pos) spos) (tAsg (tLc wi (g X.s_0 X.H_0 0 [] []) (tt X.s_0 X.H_0 0 [] []) (te X.s_0 X.H_0 0 [] []) (own.map (·.2))) (gName i)) (dSet i (dvF (dLc di dg dt de (own.map (·.2))))) :=
  s_setLc hc hN hy hsw hi ok (fun s H C cl fp => eg s H C cl fp ▸ hg s H C cl fp) (fun s H C cl fp => et s H C cl fp ▸ ht s H C cl fp) (fun s H C cl fp => ee s H C cl fp ▸ he s H C cl fp) hv hyl hs
end
/-! min, max of a tuple of ints -/
section
variable {prog : Program} {w : World} {B : Around} {E : Value → Shared → Prop} {z : Shared} {p : Addr} {us : Array (Int × Tok)} {Q : Value → Shared → Prop}
def mtIt (p : Addr) : Obj := { cls := .type "tuple_iterator", data := .fields #[.ref p, .int 0 0] }
theorem mt_it (ht : z.heap.IsTuple p (intItems us))
    (h : ∀ y : Shared, y = { z with heap := z.heap.push (mtIt p) } → (y.heap.IsTupleIter z.heap.objs.size p 0 ∧ y.heap.IsTuple p (intItems us)) → (∀ b ∈ [z.heap.objs.size, p], b < y.heap.objs.size) → p ≠ z.heap.objs.size → Q (.ref z.heap.objs.size) y) :
    wpAny (model prog w) B (pyIter (.ref p)) Q E z := by
  have lt : p < z.heap.objs.size := by obtain ⟨_, e, _⟩ := ht; exact Heap.lt_size e
  refine wpAny_pyIter_tuple ht (h _ rfl ⟨⟨_, Heap.get?_push_size _ rfl, rfl, rfl⟩, ht.push _⟩ (fun b hb => ?_) (Nat.ne_of_lt lt))
  show b < (z.heap.push (mtIt p)).objs.size
  rw [show (z.heap.push (mtIt p)).objs.size = z.heap.objs.size + 1 from Heap.size_push ..]
  simp only [List.mem_cons, List.not_mem_nil, or_false] at hb
  rcases hb with q | q
  · rw [q]; exact Nat.lt_succ_self _
  · rw [q]; exact Nat.lt_succ_of_lt lt
theorem mt_old {h' : Heap} (k : ∀ b o, b ∉ [z.heap.objs.size] → (z.heap.push (mtIt p)).get? b = some o → h'.get? b = some o) : ∀ b o, z.heap.get? b = some o → h'.get? b = some o := fun b o e =>
  k b o (fun m => absurd (List.mem_singleton.mp m ▸ Heap.lt_size e) (Nat.lt_irrefl _)) (Heap.get?_push_of_some _ e)
theorem min_tup (hh : B.handled = none) (ht : z.heap.IsTuple p (intItems us)) (hz : 0 < us.size)
    (h : ∀ v h' tk, (intItems us)[argBest (fun i j => decide (numAt us i < numAt us j)) (us.size - 1)]? = some v → (∀ b o, z.heap.get? b = some o → h'.get? b = some o) → Q v { z with heap := h', toks := tk }) :
    wpAny (model prog w) B (call (.builtin "min") [.ref p]) Q E z := by
  refine call_min_walk (mt_it ht fun y e st hf hI => ?_)
  subst e
  exact ⟨_, _, _, _, _, _, _, rfl, Walks.tuple (A := B.in1) hh _ p hI (intItems us), st, hf, by simpa [intItems] using hz, CmpOf.ints_lt (numAt us) (fun _ _ => intItems_at), fun v h' tk hP hk => h v h' tk (by simpa [intItems] using hP) (mt_old hk)⟩
theorem max_tup (hh : B.handled = none) (ht : z.heap.IsTuple p (intItems us)) (hz : 0 < us.size)
    (h : ∀ v h' tk, (intItems us)[argBest (fun i j => decide (numAt us i > numAt us j)) (us.size - 1)]? = some v → (∀ b o, z.heap.get? b = some o → h'.get? b = some o) → Q v { z with heap := h', toks := tk }) :
    wpAny (model prog w) B (call (.builtin "max") [.ref p]) Q E z := by
  refine call_max_walk (mt_it ht fun y e st hf hI => ?_)
  subst e
  exact ⟨_, _, _, _, _, _, _, rfl, Walks.tuple (A := B.in1) hh _ p hI (intItems us), st, hf, by simpa [intItems] using hz, CmpOf.ints_gt (numAt us) (fun _ _ => intItems_at), fun v h' tk hP hk => h v h' tk (by simpa [intItems] using hP) (mt_old hk)⟩
end
section
variable {X : Cx} {e : Expr} {te : TE} {de : DE} {p pos : Pos}
def rMinT (K : PySem.W.Frag) : List V → Hp → VK → Prop := fun vs H Q => ∃ (a : Addr) (ns : List Int), vs = [V.ref a] ∧ SqT K H a (ns.map V.int) ∧ 0 < ns.length ∧ ∀ m, m ∈ ns → (∀ y, y ∈ ns → m ≤ y) → Q (.int m) H
theorem cr_minT (hc : X.calm = true) : CallR X (.builtin "min") (rMinT X.K) := by
  intro pins s σ H vs us Q I r ⟨a, ns, ev, hs, hn, q⟩
  subst ev
  obtain ⟨its, rv, ⟨o, e1, e2, n, e3⟩, _⟩ := I.tuple hs
  have hi := rv.ints
  obtain ⟨xs, ex⟩ := hi.allInts.items
  have hm : numsOf (intItems xs).toList = ns := by rw [← ex]; exact hi.numsOf
  rw [nums_intItems] at hm
  subst hm
  rw [Vals.ref1 r]
  have hz : 0 < xs.size := by simpa using hn
  have ht : s.heap.IsTuple a (intItems xs) := by rw [← ex]; exact ⟨o, e1, e2, n, e3⟩
  refine min_tup (I.ok.hd hc) ht hz fun v h' tk hv hk => ?_
  obtain ⟨t, rfl⟩ := intItems_at hv
  obtain ⟨h1, h2⟩ := argBest_lt (numAt xs) (xs.size - 1)
  refine ⟨.int _, H, I.kept hk, ⟨_, rfl⟩, q _ ?_ fun b hb => ?_⟩
  · rw [numAt_eq]
    exact PySem.getD_mem (by rw [List.length_map, Array.length_toList]; omega)
  · obtain ⟨j, hj, rfl⟩ := mem_getD hb
    simp only [List.length_map, Array.length_toList] at hj
    have := h2 j (by omega)
    rwa [← numAt_eq]
def dMinT (de : DE) : DE := fun ρ k => de ρ fun x => ∃ ns : List Int, x = .tup (ns.map D.int) ∧ 0 < ns.length ∧ ∀ m, m ∈ ns → (∀ y, y ∈ ns → m ≤ y) → k (.int m)
theorem okMinT {K : PySem.W.Frag} (h : BOk K te de) : EOk K (tCB (rMinT K) (tCons te tNil)) (dMinT de) := fun W B ρ σ H k Q at' d q =>
  h W B ρ σ H _ _ at' d fun x v H1 a1 g1 r1 ⟨ns, e, hl, kk⟩ => by
    subst e
    obtain ⟨a, xs, rfl, h1, h2⟩ := rep_tup r1
    have := reps_ints h2
    subst this
    exact ⟨a, ns, rfl, st_sub cl_sub h1, hl, fun m h2 h3 => q _ _ _ a1 g1 int_rep (kk m h2 h3)⟩
theorem x_minT (hc : X.calm = true) (hm : X.mg "min" = none) (h : XB X e te de) (hg : Gl X "min" := by rfl) (hs : starEach [e] X.env = [(false, eval e X.env)] := by rfl) : XE X (.Call (.Name "min" p) [e] [] pos) (tCB (rMinT X.K) (tCons te tNil)) (dMinT de) :=
  ⟨pe_callB (cr_minT hc) hg hm (by decide +kernel) (pa_cons h.pe pa_nil hs) (he := hs), okMinT h.ok⟩
end
end DL

/-! t[::-1] of a tuple -/
namespace HT
open PySem PyProof.Rows PySem.SeqAt
section
variable {prog : Program} {w : World} {B : Around} {E : Value → Shared → Prop} {z : Shared}
theorem adj_rev (n : Nat) : Builtin.Slice.sliceAdjust none none (-1) (n : Int) = ((n : Int) - 1, -1) := by
  simp [Builtin.Slice.sliceAdjust]
theorem plc_rev (n : Nat) : Builtin.Slice.slicePlaces ((n : Int) - 1) (-1) (-1) = n := by
  unfold Builtin.Slice.slicePlaces
  rw [if_neg (by decide)]
  split
  · simp only [Int.neg_neg, Int.ediv_one]; omega
  · omega
theorem app_rev {sl : Addr} {vs : Value} {n : Nat} {Q : Int × Int × Nat → Shared → Prop} (hs : z.heap.IsSliceOf sl .none .none vs) (ps : IsPart vs (some (-1))) (h : Q ((n : Int) - 1, -1, n) z) :
    wpAny (model prog w) B (Builtin.Slice.sliceApplied (.ref sl) (pure (n : Int))) Q E z := by
  obtain ⟨os, ho, hc, hd⟩ := id hs
  unfold Builtin.Slice.sliceApplied Builtin.Slice.sliceFields
  refine wpAny_bind (wpAny_bind (wpAny_field ho hd (x := .none) rfl (wpAny_bind (wpAny_field ho hd (x := .none) rfl (wpAny_bind (wpAny_field ho hd (x := vs) rfl (wpAny_pure ?_)))))))
  refine wpAny_bind (slicePart_ ps ?_)
  show wpAny _ _ (if ((-1 : Int) == 0) = true then _ else _) _ _ z
  rw [if_neg (by decide)]
  refine wpAny_bind (slicePart_ .none (wpAny_bind (slicePart_ .none (wpAny_bind (wpAny_pure ?_)))))
  show wpAny _ _ (match Builtin.Slice.sliceAdjust none none (-1) (n : Int) with | (lo, hi) => pure (lo, (-1 : Int), Builtin.Slice.slicePlaces lo hi (-1))) _ _ z
  rw [adj_rev n]
  show wpAny _ _ (pure ((n : Int) - 1, (-1 : Int), Builtin.Slice.slicePlaces ((n : Int) - 1) (-1) (-1))) _ _ z
  rw [plc_rev]
  exact wpAny_pure h
theorem fm_congr {α β : Type} {f g : α → Option β} : ∀ {l : List α}, (∀ x ∈ l, f x = g x) → l.filterMap f = l.filterMap g
  | [], _ => rfl
  | x :: l, h => by
    have ih := fm_congr (f := f) (g := g) (l := l) fun y hy => h y (by simp [hy])
    simp only [List.filterMap_cons, h x (by simp), ih]
theorem pick_rev (xs : Array Value) : ((List.range xs.size).filterMap fun (m : Nat) => xs[((xs.size : Int) - 1 + (m : Int) * (-1)).toNat]?).toArray = xs.toList.reverse.toArray := by
  have e : (List.range xs.size).filterMap (fun (m : Nat) => xs[((xs.size : Int) - 1 + (m : Int) * (-1)).toNat]?) = ((List.range xs.size).map fun k => xs.size - 1 - k).filterMap (fun k => xs[k]?) := by
    rw [List.filterMap_map]
    refine fm_congr fun m hm => ?_
    have := List.mem_range.mp hm
    show xs[((xs.size : Int) - 1 + (m : Int) * (-1)).toNat]? = xs[xs.size - 1 - m]?
    congr 1
    omega
  rw [e, PySem.W.krv_range, List.filterMap_reverse, PySem.W.krv_all]
theorem get_rev {t sl : Addr} {xs : Array Value} {vs : Value} {Q : Value → Shared → Prop} (ht : IsTup z.heap t xs) (hs : z.heap.IsSliceOf sl .none .none vs) (ps : IsPart vs (some (-1)))
    (h : Q (.ref z.heap.objs.size) { z with heap := z.heap.push { cls := .type "tuple", data := .seq xs.toList.reverse.toArray } }) (hz : xs.size ≤ sizeLine) : wpAny (model prog w) B (getItem (.ref t) (.ref sl)) Q E z := by
  have hk : sizeOk (.seq xs.toList.reverse.toArray) := by
    show xs.toList.reverse.toArray.size ≤ sizeLine
    simpa using hz
  obtain ⟨os, ho, hc, hd⟩ := id hs
  have hT : z.TypeIs (.ref sl) "slice" := ⟨os, ho, hc⟩
  unfold getItem
  try with_reducible refine wpAny_holding ?_
  first
    | refine wpAny_bind (wpAny_pure ?_)
    | skip
  refine wpAny_bind (wpAny_sequenceKey ht.typeIs (by decide) ?_)
  refine wpAny_bind (wpAny_callSpecial?_slot (name := Str.ofString "__getitem__") ht.typeIs PyProof.Rows.slot_tuple_getitem (wpAny_call_entry PyProof.Rows.slot_tuple_getitem ht.typeIs entry_tuple_getitem ?_ (args_tuple_getitem _ _)))
  show wpAny _ _ (Builtin.Tuple.tupleItemsOf (.ref t) >>= _) _ _ z
  refine wpAny_bind (tupleItemsOf_ ht (wpAny_bind (wpAny_typeOf hT ?_)))
  rw [if_pos (by decide)]
  refine wpAny_bind (app_rev hs ps ?_)
  show wpAny _ _ (if (((xs.size : Int) - 1) == 0 && (-1 : Int) == 1 && xs.size == xs.size) = true then _ else _) _ _ z
  rw [if_neg (by simp), pick_rev]
  first
    | exact wpAny_bind (m := Builtin.Tuple.tupleExact _) (wpAny_newObj_type (wpAny_pure ⟨_, rfl, wpAny_pure h⟩) hk)
    | exact wpAny_bind (m := Builtin.Tuple.tupleExact _) (wpAny_newObj_type (wpAny_bind (wpAny_pure (wpAny_pure ⟨_, rfl, wpAny_pure h⟩))) hk)
    | exact wpAny_bind (wpAny_bind (m := Builtin.Tuple.tupleExact _) (wpAny_newObj_type (wpAny_pure (wpAny_pure ⟨_, rfl, wpAny_pure h⟩)) hk))
    | exact wpAny_bind (wpAny_bind (m := Builtin.Tuple.tupleExact _) (wpAny_newObj_type (wpAny_pure ⟨_, rfl, wpAny_pure h⟩) hk))
end
end HT
namespace DL
open PySem PySem.Spec L2 PyProof.Rows
section
variable {X : Cx} {e : Expr} {te : TE} {de : DE} {dl : DL} {k : Nat} {p1 p2 p3 pos : Pos}
def tRevT (K : PySem.W.Frag) (te : TE) : TE := fun σ H Q => te σ H fun x H1 => ∃ a xs, x = .ref a ∧ SqT K H1 a xs ∧ ∀ p, H1 p = none → Q (.ref p) (upd H1 p (.tup xs.reverse))
theorem pe_revT (he : PE X e te) : PE X (.Subscript e (.Slice none none (some (.UnaryOp .USub (.Constant (.int 1) k p1) p2)) p3) pos) (tRevT X.K te) := by
  refine ⟨fun pins s σ H Q I h => Subscript_ (thn (he.run pins s σ H _ I h) fun v s1 ⟨x, H1, I1, r1, a, xs, ex, hx, q⟩ => ?_)⟩
  subst ex
  cases r1
  have st : PO X (some (.UnaryOp .USub (.Constant (.int 1) k p1) p2)) (tPart (tUn (rU fun i => .int (-i)) (tC (.int 1)))) := po_some (pe_un un_neg pe_int)
  refine wpAny_Slice (thn (po_none.run pins s1 σ H1 (fun o H2 => o = none ∧ H2 = H1) I1 ⟨rfl, rfl⟩) fun vl s2 ⟨l, H2, I2, pl, el, e2⟩ => ?_)
  subst el e2
  cases pl
  refine thn (po_none.run pins s2 σ H2 (fun o H3 => o = none ∧ H3 = H2) I2 ⟨rfl, rfl⟩) fun vu s3 ⟨u, H3, I3, pu, eu, e3⟩ => ?_
  subst eu e3
  cases pu
  refine thn (st.run pins s3 σ H3 (fun o H4 => o = some (-1) ∧ H4 = H3) I3 ⟨1, rfl, -1, rfl, rfl, rfl⟩) fun vs s4 ⟨o, H4, I4, ps, eo, e4⟩ => ?_
  subst eo e4
  let s5 : Shared := { s4 with heap := s4.heap.push { cls := .type "slice", data := .fields #[.none, .none, vs] } }
  have I5 : Inv X pins σ H4 s5 := I4.kept (t' := s4.toks) fun b ob q => Heap.get?_push_of_some _ q
  obtain ⟨its, r, ht, hz⟩ := I5.tuple hx
  have hl := r.length
  show wpAny (model X.prog X.w) X.A (subscriptTail e (.Slice none none (some (.UnaryOp .USub (.Constant (.int 1) k p1) p2)) p3) (.ref a) (.ref s4.heap.objs.size)) (EP X pins σ Q) X.xe s5
  refine tail_any (ops := [.ref a, .ref s4.heap.objs.size]) ht.typeIs PyProof.Rows.slot_tuple_getitem.lookup ?_ (by with_unfolding_all rfl)
  refine HT.get_rev ht (Heap.IsSliceOf.new _ .none .none vs) ps ?_ (by rw [List.size_toArray]; omega)
  refine ⟨.ref _, _, I5.laid (t' := s4.toks) (o := .tup xs.reverse) (fun b ob q => Heap.get?_push_of_some _ q) (Nat.le_refl _) ?_, rfl, q _ (I5.hok.fresh (Nat.le_refl _))⟩
  exact ⟨by rw [List.length_reverse]; exact hz, _, r.reverse, IsTup.new _ _⟩
theorem reps_rev {K : PySem.W.Frag} {C : Hp} : ∀ {ds : List D} {xs : List V}, reps K C ds xs → reps K C ds.reverse xs.reverse
  | [], xs, h => by simp only [reps] at h; subst h; exact reps_nil
  | d :: ds, xs, h => by
    simp only [reps] at h
    obtain ⟨x, r, rfl, h2, h3⟩ := h
    rw [List.reverse_cons, List.reverse_cons]
    exact reps_append (reps_rev h3) (reps_one h2)
def dRevT (de : DE) : DE := fun ρ k => de ρ fun x => ∃ ds, x = .tup ds ∧ k (.tup ds.reverse)
theorem x_revT (h : XE X e te de) : XE X (.Subscript e (.Slice none none (some (.UnaryOp .USub (.Constant (.int 1) k p1) p2)) p3) pos) (tRevT X.K te) (dRevT de) := ⟨pe_revT h.pe, fun W B ρ σ H k Q at' d q =>
  h.ok W B ρ σ H _ _ at' d fun x v H1 a1 g1 r1 ⟨ds, e, kk⟩ => by
    subst e
    obtain ⟨a, xs, rfl, h2, h3⟩ := rep_tup r1
    exact ⟨a, xs, rfl, st_sub cl_sub h2, fun p hn => q _ _ _ (a1.alloc hn) (g1.trans (Gr.of (Sub.new hn))) (tup_rep (.inl (.inl (cl_new hn (a1.new_av hn)))) (reps_sub (cl_grow (Sub.new hn)) _ _ (reps_rev h3))) kk⟩⟩
def dRevL (dl : DL) : DL := fun ρ k => dl ρ fun ds => k ds.reverse
theorem f_revL (h : XLL X e te dl) : XF X (.Subscript e (.Slice none none (some (.UnaryOp .USub (.Constant (.int 1) k p1) p2)) p3) pos) (tRevL X.K te) (dRevL dl) := ⟨pe_revL h.pe, fun W B ρ σ H k Q at' d q =>
  h.ok W B ρ σ H _ _ at' d fun ds a xs H1 a1 g1 h1 r1 kk => ⟨a, xs, rfl, .inl (.inl (of_cl h1).1), fun p hn =>
    q _ p _ _ (a1.alloc hn) (g1.trans (Gr.of (Sub.new hn))) (Gr.back (W := W) a1 g1 hn) upd_same (reps_sub (cl_more hn) _ _ (reps_rev r1)) kk⟩⟩
/-! [*xs, ..] -/
def dStar (dl da : DL) : DL := fun ρ k => dl ρ fun xs => da ρ fun ys => k (xs ++ ys)
theorem a_star {es : List Expr} {t : TA} {da : DL} {sp : Pos} (h : XL X e te dl) (h' : XA X es t da) (hs : starEach (.Starred e sp :: es) X.env = (true, eval e X.env) :: starEach es X.env := by rfl) : XA X (.Starred e sp :: es) (StX.tStar X.K te t) (dStar dl da) :=
  ⟨StX.pa_star h.pe h'.pa hs, fun W B ρ σ H k Q at' d q => h.ok W B ρ σ H _ _ at' d fun ds v H1 a1 g1 sv k1 => by
    obtain ⟨a, xs, rfl, h1, h2⟩ := sv.out
    refine ⟨a, xs, rfl, h1.symm, h'.ok W B ρ σ H1 _ _ a1 k1 fun ys vs H2 a2 g2 r2 k2 => ?_⟩
    exact q _ _ H2 a2 (g1.trans g2) (reps_append (reps_sub (Gr_cl g2) _ _ h2) r2) k2⟩
end
end DL

namespace DL
open PySem PySem.Spec L2 PyProof.Rows
/-! xs.pop() alone, xs[i] = e -/
section
variable {X : Cx} {e o i : Expr} {te ti : TE} {de di : DE} {p1 p2 pos pos' : Pos} {n : Nat}
def dPop (j : Nat) : DS := fun E ρ => ∃ a ds d, ρ[j]? = some (.ol a (ds ++ [d])) ∧ E.nx (ρ.set j (.ol a ds))
theorem okPop {K : PySem.W.Frag} {j : Nat} : SOk K (tDrop (tBM0 K "list" rPop (tVar j))) (dPop j) := fun W B ρ σ H E G at' ⟨a, ds, d, hj, k⟩ nx rt bk ct => by
  obtain ⟨h1, xs, h2, h3⟩ := at'.sl j _ hj
  obtain ⟨ys, zs, rfl, h4, h5⟩ := reps_split h3
  obtain ⟨z, r, rfl, h6, h7⟩ : ∃ z r, zs = z :: r ∧ rep K (cl (Av W ρ) H) d z ∧ reps K (cl (Av W ρ) H) [] r := by simpa only [reps] using h5
  have : r = [] := by simpa only [reps] using h7
  subst this
  refine ⟨.ref a, h1, .inl ⟨rfl, _, .inl (.inl h2)⟩, a, ys ++ [z], z, rfl, rfl, h2, by simp, ?_⟩
  rw [List.dropLast_concat]
  exact nx _ _ _ (at'.updO (s' := .ol a ds) (o := .lst ys) hj rfl rfl ⟨h1, ys, upd_same, h4⟩) k
theorem s_pop {j : Nat} (ho : PE X o (tVar j)) (hbase : attributeBase o "pop" X.env (eval o X.env) = eval o X.env := by rfl) (hline : (p1.endLine == p2.line) = true := by rfl) (hw : swapsWith (.Call (.Attribute o "pop" p1) [] [] p2) none pos.line X.env = pure false := by rfl) :
    XS X (.Expr (.Call (.Attribute o "pop" p1) [] [] p2) pos) (tDrop (tBM0 X.K "list" rPop (tVar j))) (dPop j) :=
  ⟨ps_expr (pe_bm0 PySem.F.plainAttrs_list PySem.F.slot_list_pop PySem.F.type_list_pop mt_pop ho hbase hline) hw, okPop⟩
def dSetIx (j : Nat) (de di : DE) : DS := fun E ρ => ∃ a ds, ρ[j]? = some (.ol a ds) ∧ de ρ fun d => di ρ fun y => ∃ n m, y = .int n ∧ ixN ds.length n = some m ∧ E.nx (ρ.set j (.ol a (ds.set m d)))
theorem okSetIx {K : PySem.W.Frag} {j : Nat} (h : EOk K te de) (h' : BOk K ti di) : SOk K (tAsg te (gSub (tVar j) ti rSetL)) (dSetIx j de di) := fun W B ρ σ H E G at' ⟨a, ds, hj, d⟩ nx rt bk ct =>
  h W B ρ σ H _ _ at' d fun x v H1 a1 g1 r1 k1 => by
    obtain ⟨h1, _⟩ := a1.sl j _ hj
    refine ⟨.ref a, h1, h' W B ρ σ H1 _ _ a1 k1 fun y u H2 a2 g2 r2 ⟨n, m, en, hm, kk⟩ => ?_⟩
    subst en
    obtain rfl := rep_int r2
    obtain ⟨q1, xs, q2, q3⟩ := a2.sl j _ hj
    exact ⟨a, xs, n, m, rfl, rfl, q2, by rw [reps_len q3]; exact hm, nx _ _ _ (a2.updO (s' := .ol a (ds.set m x)) hj rfl rfl ⟨q1, _, upd_same, reps_set m q3 (rep_sub (Gr_cl g2) _ _ r1)⟩) kk⟩
theorem s_setIx {j : Nat} (ho : PE X o (tVar j)) (hi : XB X i ti di) (h : XE X e te de) (hs : swapsWithSole [.Subscript o i pos'] e pos.line X.env = pure false := by rfl) (hw : swappedStores [.Subscript o i pos'] e X.env = pure none := by rfl)
    (h1 : (assignEach [.Subscript o i pos'] X.env).map (·.2) = [assign (.Subscript o i pos') X.env] := by rfl)
    (ha : ∀ v, assign (.Subscript o i pos') X.env v = (do
      let ov ← holding [v] (eval o X.env); let iv ← holding [v, ov] (eval i X.env); standAt pos'; holding [v, ov, iv] (setItem ov iv v); release [v, ov, iv] []) := by intro _; rfl) :
    XS X (.Assign [.Subscript o i pos'] e pos) (tAsg te (gSub (tVar j) ti rSetL)) (dSetIx j de di) := ⟨ps_asg h.pe (pg_sub ho hi.pe set_list ha) hs hw h1, okSetIx h.ok hi.ok⟩
theorem ixN_nat {n m : Nat} (h : m < n) : ixN n (m : Int) = some m := by
  unfold ixN
  rw [if_pos (by omega), if_pos (by omega)]; rfl
end
/-! sorted of pairs of ints -/
abbrev ZP := Addr × Int × Int
def zV (z : ZP) : V := V.ref z.1
def pOrd (x y : Int × Int) : Prop := ¬ (y.1 < x.1 ∨ (y.1 = x.1 ∧ y.2 < x.2))
def rSortedPT (K : PySem.W.Frag) : List V → Hp → VK → Prop := fun vs H Q => ∃ (a : Addr) (zs : List ZP), vs = [V.ref a] ∧ SqL K H a (zs.map zV) ∧ (∀ z ∈ zs, SqT K H z.1 [.int z.2.1, .int z.2.2]) ∧
  ∀ (zs' : List ZP) (p : Addr), zs'.Perm zs → zs'.Pairwise (fun x y => pOrd x.2 y.2) → H p = none → Q (.ref p) (upd H p (.lst (zs'.map zV)))
theorem vals_z : ∀ {zs : List ZP} {us : List Value}, Vals (zs.map zV) us → us = zs.map fun z => Value.ref z.1
  | [], us, h => by cases h; rfl
  | z :: zs, us, h => by
    cases h with
    | cons r t =>
      cases r
      rw [vals_z t, List.map_cons]
theorem z_vals : ∀ (zs : List ZP), Vals (zs.map zV) (zs.map fun z => Value.ref z.1)
  | [] => .nil
  | z :: zs => .cons rfl (z_vals zs)
def zK (zs : List ZP) (u : Value) : Int × Int := match u with
  | .ref t => ((zs.find? fun z => decide (z.1 = t)).map (·.2)).getD (0, 0)
  | _ => (0, 0)
def zG (zs : List ZP) (u : Value) : ZP := match u with
  | .ref t => (t, zK zs (.ref t))
  | _ => (0, 0, 0)
theorem cr_sortedPT {X : Cx} : CallR X (.builtin "sorted") (rSortedPT X.K) := by
  intro pins s σ H vs us Q I r ⟨a, zs, ev, hs, ht, q⟩
  subst ev
  obtain ⟨its, rv, hl, hz⟩ := I.list hs
  rw [Vals.ref1 r]
  have e := vals_z rv
  subst e
  have hk : ∀ z ∈ zs, zK zs (.ref z.1) = z.2 := fun z hm => by
    show ((zs.find? fun z' => decide (z'.1 = z.1)).map (·.2)).getD (0, 0) = z.2
    cases f : zs.find? fun z' => decide (z'.1 = z.1) with
    | none =>
      have := List.find?_eq_none.mp f z hm
      simp at this
    | some z' =>
      have h1 : z'.1 = z.1 := by simpa using List.find?_some f
      have h2 := List.mem_of_find?_eq_some f
      have h3 := ht z' h2
      rw [h1] at h3
      have h4 := I.tuple_inj h3 (ht z hm)
      simp only [List.cons.injEq, V.int.injEq, and_true] at h4
      exact Prod.ext h4.1 h4.2
  have hg : ∀ z ∈ zs, zG zs (.ref z.1) = z := fun z hm => by
    show (z.1, zK zs (.ref z.1)) = z
    rw [hk z hm]
  refine SrtO.sorted_pairsO (k := zK zs) hl.isList (by rw [List.length_map]; simpa using hz) (fun v hv => ?_) fun h' d out h1 h2 kp hd hn => ?_
  · obtain ⟨z, hm, rfl⟩ := List.mem_map.mp hv
    obtain ⟨us, r2, ⟨o, ho, hc, n, hd⟩, _⟩ := I.tuple (ht z hm)
    obtain ⟨u1, u2, rfl, ri, rj⟩ := vals2 r2
    obtain ⟨t1, rfl⟩ := ri
    obtain ⟨t2, rfl⟩ := rj
    rw [hk z hm]
    exact ⟨z.1, o, t1, t2, n, rfl, ho, hc, hd⟩
  · have pm : out.Perm (zs.map fun z => Value.ref z.1) := h2.perm
    have mem : ∀ u ∈ out, ∃ z ∈ zs, u = Value.ref z.1 := fun u hu => by
      obtain ⟨z, hm, e⟩ := List.mem_map.mp (pm.mem_iff.mp hu)
      exact ⟨z, hm, e.symm⟩
    have pz : (out.map (zG zs)).Perm zs := by
      have := pm.map (zG zs)
      rw [List.map_map] at this
      have e : zs.map (zG zs ∘ fun z => Value.ref z.1) = zs := by
        have : zs.map (zG zs ∘ fun z => Value.ref z.1) = zs.map id := List.map_congr_left fun z hm => hg z hm
        rw [this, List.map_id]
      rwa [e] at this
    have eo : out = (out.map (zG zs)).map fun z => Value.ref z.1 := by
      rw [List.map_map]
      have : out.map ((fun z : ZP => Value.ref z.1) ∘ zG zs) = out.map id := List.map_congr_left fun u hu => by
        obtain ⟨z, hm, rfl⟩ := mem u hu
        rfl
      rw [this, List.map_id]
    obtain ⟨n, hn⟩ := hn
    have so : (out.map (zG zs)).Pairwise (fun x y => pOrd x.2 y.2) := by
      rw [List.pairwise_map]
      refine h1.imp_of_mem ?_
      intro x y hx hy hxy
      obtain ⟨z, hm, rfl⟩ := mem x hx
      obtain ⟨z', hm', rfl⟩ := mem y hy
      exact SrtO.lexB_no.mp hxy
    refine ⟨.ref d, upd H d (.lst ((out.map (zG zs)).map zV)), I.laid (t' := s.toks) kp hd ⟨?_, out, n, ?_, hn⟩, rfl, q _ d pz so (I.hok.fresh hd)⟩
    · rw [List.length_map, pz.length_eq]; simpa using hz
    · have := z_vals (out.map (zG zs))
      rwa [← eo] at this
def prD (p : Int × Int) : D := .tup [.int p.1, .int p.2]
theorem reps_pr {K : PySem.W.Frag} {C : Hp} : ∀ {ps : List (Int × Int)} {xs : List V}, reps K C (ps.map prD) xs → ∃ zs : List ZP, xs = zs.map zV ∧ zs.map (·.2) = ps ∧ ∀ z ∈ zs, SqT K C z.1 [.int z.2.1, .int z.2.2]
  | [], xs, h => by simp only [List.map_nil, reps] at h; subst h; exact ⟨[], rfl, rfl, fun _ h => (nomatch h)⟩
  | p :: ps, xs, h => by
    simp only [List.map_cons, reps] at h
    obtain ⟨x, r, rfl, h2, h3⟩ := h
    obtain ⟨zs, rfl, h4, h5⟩ := reps_pr h3
    obtain ⟨a, ys, rfl, h6, h7⟩ := rep_tup h2
    have e := reps_ints (ns := [p.1, p.2]) h7
    subst e
    refine ⟨(a, p) :: zs, rfl, by rw [List.map_cons, h4], fun z hz => ?_⟩
    rcases List.mem_cons.mp hz with q | q
    · subst q; exact h6
    · exact h5 z q
theorem pr_reps {K : PySem.W.Frag} {C : Hp} : ∀ {zs : List ZP}, (∀ z ∈ zs, SqT K C z.1 [.int z.2.1, .int z.2.2]) → reps K C ((zs.map (·.2)).map prD) (zs.map zV)
  | [], _ => reps_nil
  | z :: zs, h => reps_cons (tup_rep (h z (by simp)) (ints_reps [z.2.1, z.2.2])) (pr_reps fun z' h' => h z' (by simp [h']))
section
variable {X : Cx} {e : Expr} {te : TE} {de : DE} {dl : DL} {p pos : Pos}
def dSortP (dl : DL) : DL := fun ρ k => dl ρ fun x => ∃ ps : List (Int × Int), x = ps.map prD ∧ ∀ ps' : List (Int × Int), ps'.Perm ps → ps'.Pairwise pOrd → k (ps'.map prD)
theorem okSortP {K : PySem.W.Frag} (h : FOk K te dl) : FOk K (tCB (rSortedPT K) (tCons te tNil)) (dSortP dl) := fun W B ρ σ H k Q at' d q =>
  h W B ρ σ H _ _ at' d fun ds l xs H1 a1 g1 hl hl' r1 ⟨ps, ex, kk⟩ => by
    subst ex
    obtain ⟨zs, rfl, e2, h3⟩ := reps_pr r1
    refine ⟨l, zs, rfl, .inl (.inl hl'), fun z hz => st_sub cl_sub (h3 z hz), fun zs' p pm so hn => ?_⟩
    have h4 : ∀ z ∈ zs', SqT K (cl (fun a => Av W ρ a ∨ a = p) (upd H1 p (.lst (zs'.map zV)))) z.1 [.int z.2.1, .int z.2.2] := fun z hz => by
      refine st_sub (Sub.trans ?_ (cl_more hn)) (h3 z (pm.mem_iff.mp hz))
      exact cl_mono fun b o e n => ⟨e, fun z => n (.inl z)⟩
    have := kk (zs'.map (·.2)) (e2 ▸ pm.map _) (List.pairwise_map.mpr so)
    exact q _ p _ _ (a1.alloc hn) (g1.trans (Gr.of (Sub.new hn))) (Gr.back (W := W) a1 g1 hn) upd_same (pr_reps h4) this
theorem f_sortP (hm : X.mg "sorted" = none) (h : XF X e te dl) (hg : Gl X "sorted" := by rfl) (hs : starEach [e] X.env = [(false, eval e X.env)] := by rfl) : XF X (.Call (.Name "sorted" p) [e] [] pos) (tCB (rSortedPT X.K) (tCons te tNil)) (dSortP dl) :=
  ⟨pe_callB cr_sortedPT hg hm (by decide +kernel) (pa_cons h.pe pa_nil hs) (he := hs), okSortP h.ok⟩
end
end DL

/-! set(xs) of a list of ints: as the kit's lemma for a tuple of ints, turned to lists. UNFINISHED where it does not build -/
namespace DL
open PySem PySem.Spec L2 PyProof.Rows
section
variable {P : Program} {w : World} {B : Around} {E : Value → Shared → Prop} {z : Shared}
abbrev s0 (w : World) : Obj := { cls := .type "set", dict := none, data := .set #[] 0 (.fresh 0 0 (!w.params.followText "set-order")) }
set_option maxHeartbeats 3200000 in
theorem set_of_list {l : Addr} {us : Array Value} (ns : List Int) {Q : Value → Shared → Prop} (hh : B.handled = none) (hl : z.heap.IsList l us) (hit : IntsAre us.toList ns) (hb : ns.length + 1 < scanBound)
    (h : ∀ (h' : Heap) (tk c : Nat), SetR w h' z.heap.objs.size (fun j => decide (j ∈ ns)) c → c ≤ ns.length → (∀ b o, z.heap.get? b = some o → h'.get? b = some o) → Q (.ref z.heap.objs.size) { z with heap := h', toks := tk }) :
    wpAny (model P w) B (call (.type "set") [.ref l]) Q E z := by
  have hisz : us.size = ns.length := by have q := IntsAre.length hit; rwa [Array.length_toList] at q
  obtain ⟨c, tl, m0⟩ := F.called_set.mro
  have m1 := F.called_set.made; have m2 := F.called_set.sub; have m3 := F.called_set.notType; have m4 := F.called_set.canCreate; have m5 := F.typeCall_set_1 (.ref l)
  refine wpAny_call (codeAny_of_tree ?_)
  show wpAny _ _ (callAny (.type "set") _) _ _ _
  refine wpAny_pure ⟨Code.quiet_builtin _ (by decide +kernel), codeAny_builtin F.entry_type_call ?_⟩
  rw [Around.under_plain (weight_type_call_type "set" [.ref l] []) rfl]
  repeat (any_goals (first | assumption | wp_step))
  refine codeAny_mono (code_set_led1 (.ref l) (E := E) (Q₁ := fun obj s₁ => obj = .ref z.heap.objs.size ∧ s₁ = { z with heap := z.heap.push (s0 w) }) ⟨rfl, rfl⟩) fun r s₁ hr => ?_
  cases r with
  | error e => exact hr
  | ok fl =>
    cases fl with
    | ret obj =>
      obtain ⟨rfl, rfl⟩ := hr
      have g0 : (z.heap.push (s0 w)).get? z.heap.objs.size = some (s0 w) := Heap.get?_push_size _ rfl
      have hT : Shared.TypeIs { z with heap := z.heap.push (s0 w) } (.ref z.heap.objs.size) "set" := ⟨_, g0, rfl⟩
      have m6 := F.called_set.init.lookup; have m7 := F.called_set.init.bind (.ref z.heap.objs.size)
      repeat (any_goals (first | assumption | wp_step))
      refine codeAny_mono (codeAny_call_builtin (R := wants (fun r y => r = .none ∧ ∃ h' tk c, y = { z with heap := h', toks := tk } ∧ SetR w h' z.heap.objs.size (fun j => decide (j ∈ ns)) c ∧ c ≤ ns.length ∧ (∀ b o, z.heap.get? b = some o → h'.get? b = some o)) E)
        F.called_set.init.plain F.entry_set_init (check_set_init_1 hT ?_)) fun r₂ s₂ hr₂ => ?_
      · obtain ⟨ol, go, hcl, nl, hdl⟩ := hl
        obtain ⟨oc, od, oda, osl⟩ := ol
        simp only at hcl hdl
        subst hcl; subst hdl
        have go' : (z.heap.push (s0 w)).get? l = some { cls := .type "list", dict := od, data := .seq us nl, slots := osl } := Heap.get?_push_of_some _ go
        have n1 := F.sub_list_set; have n2 := F.sub_list_frozenset
        have n3 : (Value.type "list" == Value.type "dict") = false := by decide
        have hl1 : (z.heap.push (s0 w)).IsList l us := ⟨_, go', rfl, nl, rfl⟩
        unfold Builtin.«set.__init__» noKeywords Builtin.Frozenset.updateFrom
        generalize hPI : pyIter = PI
        wp_walk
        subst hPI
        refine wpAny_pyIter_list hl1 (wpAny_bind (wpAny_runValue ?_))
        have lt : l < z.heap.objs.size := Heap.lt_size go
        have h3 : B.in1.in1.in1.handled = none := by simp [hh]
        have sz : (z.heap.push (s0 w)).objs.size = z.heap.objs.size + 1 := Heap.size_push ..
        have ne : l ≠ (z.heap.push (s0 w)).objs.size := by rw [sz]; exact Nat.ne_of_lt (Nat.lt_succ_of_lt lt)
        have nf : z.heap.objs.size ∉ [(z.heap.push (s0 w)).objs.size, l] := by
          rw [sz]; simp only [List.mem_cons, List.not_mem_nil, or_false, not_or]; exact ⟨Nat.ne_of_lt (Nat.lt_succ_self _), Nat.ne_of_gt lt⟩
        have hv : ∀ (i : Nat) (v : Value), us[i]? = some v → ∃ k t, ns[i]? = some k ∧ v = .int k t := fun i v q => by
          have hi : i < ns.length := by rw [← hisz]; exact (Array.getElem?_eq_some_iff.mp q).1
          obtain ⟨t, e⟩ := IntsAre.int_at hit i v (by rw [Array.getElem?_toList]; exact q)
          refine ⟨ns[i], t, List.getElem?_eq_getElem hi, ?_⟩
          rw [e, List.getD_eq_getElem?_getD, List.getElem?_eq_getElem hi] <;> rfl
        refine set_update_ints ((Walks.list h3 _ l ne us).toS) z.heap.objs.size nf ns hisz hb hv (us.size - 0) 0 _ (by omega) (Nat.zero_le _) ⟨⟨_, Heap.get?_push_size _ rfl, rfl, rfl⟩, (hl1.push _)⟩ ⟨0, Nat.le_refl 0, setR_new_at (Heap.get?_push_of_some _ g0)⟩ ?_
        intro s' c' hm hc' hS'
        obtain ⟨h', g2, d', tk', os'⟩ := s'
        have eg : g2 = z.gens := hm.gens
        have ed : d' = z.drawn := hm.drawn
        have eo : os' = z.os := hm.os
        subst eg; subst ed; subst eo
        show wpAny _ _ _ _ _ _
        refine wpAny_pure ?_
        show wpAny _ _ (ret Value.none) _ _ _
        rw [hisz] at hc'
        refine wpAny_pure ⟨rfl, h', tk', c', rfl, hS', hc', fun b o e => ?_⟩
        have b0 : b < z.heap.objs.size := Heap.lt_size e
        exact hm.heap b o (by simp only [List.mem_cons, List.not_mem_nil, or_false, not_or]; rw [sz]; exact ⟨Nat.ne_of_lt b0, Nat.ne_of_lt (Nat.lt_succ_of_lt b0)⟩) (Heap.get?_push_of_some _ (Heap.get?_push_of_some _ e))
      · cases r₂ with
        | error e => exact hr₂
        | ok fl₂ =>
          cases fl₂ with
          | ret r =>
            obtain ⟨rfl, h', tk, c', rfl, hS', hc', hk'⟩ := hr₂
            repeat (any_goals (first | assumption | wp_step))
            exact h _ _ _ hS' hc' hk'
          | _ => exact hr₂.elim
    | _ => exact hr.elim
end
end DL

namespace DL
open PySem PySem.Spec L2 PyProof.Rows
/-! sorted(set(xs)), xs a list of ints -/
def rSetS (K : PySem.W.Frag) : V → Hp → VK → Prop := fun x H Q => ∃ (a : Addr) (ns : List Int), x = .ref a ∧ SqL K H a (ns.map V.int) ∧ ns.length < 60 ∧ ∀ (ns' : List Int) (p : Addr), ns'.Pairwise (· < ·) → (∀ k, k ∈ ns' ↔ k ∈ ns) → H p = none → Q (.ref p) (upd H p (.lst (ns'.map V.int)))
def tSetS (K : PySem.W.Frag) (te : TE) : TE := fun σ H Q => te σ H fun x H1 => rSetS K x H1 Q
section
variable {X : Cx} {e : Expr} {te : TE} {dl : DL} {p p2 pos pos2 : Pos}
theorem pe_sortSet (hc : X.calm = true) (hm : X.mg "sorted" = none) (hm2 : X.mg "set" = none) (h : PE X e te) (hg : Gl X "sorted" := by rfl) (hg2 : Gl X "set" := by rfl) (hs : starEach [e] X.env = [(false, eval e X.env)] := by rfl)
    (hs2 : starEach [.Call (.Name "set" p2) [e] [] pos2] X.env = (false, eval (.Call (.Name "set" p2) [e] [] pos2) X.env) :: starEach [] X.env := by rfl) :
    PE X (.Call (.Name "sorted" p) [.Call (.Name "set" p2) [e] [] pos2] [] pos) (tSetS X.K te) := by
  refine ⟨fun pins s σ H Q I hw => ?_⟩
  refine Call_ (ld_blt I hg hm PyProof.Rows.boot_sorted (PyProof.Rows.callWith_builtin1 (args_cons (Call_ (ld_blt I hg2 hm2 PyProof.Rows.boot_set (PyProof.Rows.callWith_type1 (args_cons (thn (h.run pins s σ H _ I hw) fun u s1 ⟨v, H1, I1, r1, q1⟩ => args_nil ?_) hs) hs rfl))) hs2) hs2 rfl))
  obtain ⟨a, ns, ev, hq, hl60, q⟩ := q1
  subst ev
  obtain rfl : u = Value.ref a := r1
  obtain ⟨its, rv, p', hz⟩ := I1.list hq
  have hi := rv.ints
  have hlen : its.length = ns.length := by rw [← rv.length, List.length_map]
  refine set_of_list ns (I1.ok.hd hc) p'.isList (by simpa using hi) (by unfold scanBound; omega) fun h' tk c R hc' hk => args_nil ?_
  have I2 : Inv X pins σ H1 { s1 with heap := h', toks := tk } := I1.kept hk
  generalize hs2' : ({ s1 with heap := h', toks := tk } : Shared) = s2 at I2 ⊢
  have R : SetR X.w s2.heap s1.heap.objs.size (fun j => decide (j ∈ ns)) c := by rw [← hs2']; exact R
  refine sorted_set R (I2.ok.hd hc) (by omega) fun s' p out c2 ns' k g o hp hg' hi' hs' hm' hl' => ?_
  have hlen' : (ns'.map V.int).length ≤ sizeLine := by rw [List.length_map, hl', sizeLine_eq]; omega
  have hn : H1 p = none := I2.hok.fresh hp
  have J : Inv X pins σ (upd H1 p (.lst (ns'.map V.int))) { s2 with heap := s'.heap, gens := s'.gens, drawn := s'.drawn, toks := s'.toks } :=
    I2.call (ch := []) (Un.laid k hp hn) (I2.hok.laid k hp ⟨hlen', out.toList, c2, vals_of_ints hi', hg'⟩) (by rw [g]; exact I2.bare) (fun _ z => nomatch z)
  have e : s' = { s2 with heap := s'.heap, gens := s'.gens, drawn := s'.drawn, toks := s'.toks } := by
    cases s'
    cases s2
    cases o
    rfl
  rw [e]
  exact ⟨.ref p, _, J, rfl, q ns' p hs' (fun k => by rw [hm']; simp) hn⟩
def dSortSet (dl : DL) : DL := fun ρ k => dl ρ fun ds => ∃ ns : List Int, ds = ns.map D.int ∧ ns.length < 60 ∧ ∀ ns' : List Int, ns'.Pairwise (· < ·) → (∀ k, k ∈ ns' ↔ k ∈ ns) → k (ns'.map D.int)
theorem f_sortSet (hc : X.calm = true) (hm : X.mg "sorted" = none) (hm2 : X.mg "set" = none) (h : XLL X e te dl) (hg : Gl X "sorted" := by rfl) (hg2 : Gl X "set" := by rfl) (hs : starEach [e] X.env = [(false, eval e X.env)] := by rfl)
    (hs2 : starEach [.Call (.Name "set" p2) [e] [] pos2] X.env = (false, eval (.Call (.Name "set" p2) [e] [] pos2) X.env) :: starEach [] X.env := by rfl) :
    XF X (.Call (.Name "sorted" p) [.Call (.Name "set" p2) [e] [] pos2] [] pos) (tSetS X.K te) (dSortSet dl) := ⟨pe_sortSet hc hm hm2 h.pe hg hg2 hs hs2, fun W B ρ σ H k Q at' d q =>
  h.ok W B ρ σ H _ _ at' d fun ds a xs H1 a1 g1 h1 r1 ⟨ns, ed, hl, kk⟩ => by
    subst ed
    have := reps_ints r1
    subst this
    exact ⟨a, ns, rfl, .inl (.inl (of_cl h1).1), hl, fun ns' p hs' hmem hn => q _ p _ _ (a1.alloc hn) (g1.trans (Gr.of (Sub.new hn))) (Gr.back (W := W) a1 g1 hn) upd_same (ints_reps ns') (kk ns' hs' hmem)⟩⟩
end
end DL

/-! sorted of tuples of ints (shape 0), of pairs (int, tuple of ints) (shape 1) -/
namespace DL
open PySem PySem.Spec L2 PyProof.Rows

def lexL : List Int → List Int → Bool
  | [], [] => false
  | [], _ :: _ => true
  | _ :: _, [] => false
  | x :: xs, y :: ys => if x = y then lexL xs ys else decide (x < y)
theorem lexL_same (x : Int) (xs ys : List Int) : lexL (x :: xs) (x :: ys) = lexL xs ys := by simp [lexL]
theorem lexL_ne {x y : Int} (h : x ≠ y) (xs ys : List Int) : lexL (x :: xs) (y :: ys) = decide (x < y) := by simp [lexL, h]
theorem lexL_asym : ∀ xs ys : List Int, lexL xs ys = true → lexL ys xs = false
  | [], [], h => by simp [lexL] at h
  | [], _ :: _, _ => rfl
  | _ :: _, [], h => by simp [lexL] at h
  | x :: xs, y :: ys, h => by
    by_cases e : x = y
    · subst e
      rw [lexL_same] at h ⊢
      exact lexL_asym xs ys h
    · rw [lexL_ne e] at h
      rw [lexL_ne (fun z => e z.symm)]
      have := of_decide_eq_true h
      exact decide_eq_false (by omega)
theorem lexL_tr : ∀ xs ys zs : List Int, lexL ys xs = false → lexL zs ys = false → lexL zs xs = false
  | [], _, [], _, _ => rfl
  | [], [], z :: zs, _, _ => rfl
  | [], y :: ys, z :: zs, _, _ => rfl
  | x :: xs, [], zs, h, _ => by simp [lexL] at h
  | x :: xs, y :: ys, [], _, h => by simp [lexL] at h
  | x :: xs, y :: ys, z :: zs, h1, h2 => by
    by_cases e : y = x
    · subst e
      rw [lexL_same] at h1
      by_cases e2 : z = y
      · subst e2
        rw [lexL_same] at h2 ⊢
        exact lexL_tr xs ys zs h1 h2
      · rw [lexL_ne e2] at h2 ⊢
        exact h2
    · rw [lexL_ne e] at h1
      have q1 := of_decide_eq_false h1
      by_cases e2 : z = y
      · subst e2
        rw [lexL_ne e]
        exact h1
      · rw [lexL_ne e2] at h2
        have q2 := of_decide_eq_false h2
        rw [lexL_ne (by omega)]
        exact decide_eq_false (by omega)
theorem lexL_eq : ∀ xs ys : List Int, lexL xs ys = false → lexL ys xs = false → xs = ys
  | [], [], _, _ => rfl
  | [], _ :: _, h, _ => by simp [lexL] at h
  | _ :: _, [], _, h => by simp [lexL] at h
  | x :: xs, y :: ys, h1, h2 => by
    by_cases e : x = y
    · subst e
      rw [lexL_same] at h1 h2
      rw [lexL_eq xs ys h1 h2]
    · rw [lexL_ne e] at h1
      rw [lexL_ne (fun z => e z.symm)] at h2
      have := of_decide_eq_false h1
      have := of_decide_eq_false h2
      omega
theorem lexL_irr (xs : List Int) : lexL xs xs = false := by
  cases h : lexL xs xs with
  | false => rfl
  | true => rw [lexL_asym xs xs h] at h; cases h
theorem swo_lexL (k : Value → List Int) : SrtO.Swo fun v u => lexL (k v) (k u) := ⟨fun _ _ h => lexL_asym _ _ h, fun _ _ _ h1 h2 => lexL_tr _ _ _ h1 h2⟩

section
variable {prog : Program} {w : World} {A : Around} {E : Value → Shared → Prop} {s : Shared} {Q : Bool → Shared → Prop}
theorem kat_lexL {b : Bool} {xs ys : List Value} {ns ms : List Int} (i : Nat) (hx : IntsAre xs ns) (hy : IntsAre ys ms) (h : Q (lexL ns ms) s) : PySem.W.KatLex prog w A b (decide (ns.length < ms.length)) Q (xs.zip ys) i s := by
  induction hx generalizing ys ms i with
  | nil =>
    cases hy with
    | nil => exact PySem.W.kat_nil h
    | cons q u hy => exact PySem.W.kat_nil (by simpa [lexL] using h)
  | @cons p t xs ns hx ih =>
    cases hy with
    | nil => exact PySem.W.kat_nil (by simpa [lexL] using h)
    | @cons q u ys ms hy =>
      have e0 : decide ((p :: ns).length < (q :: ms).length) = decide (ns.length < ms.length) := by simp
      rw [e0]
      show PySem.W.KatLex prog w A b _ Q ((Value.int p t, Value.int q u) :: xs.zip ys) i s
      refine PySem.W.kat_cons (wpAny_eqBool_int ?_)
      by_cases e : p = q
      · subst e
        rw [beq_self_eq_true]
        rw [lexL_same] at h
        refine PySem.W.kat_yes ?_
        first
          | exact ih (i + 1) hy h
          | exact ih _ _ (i + 1) hy h
      · rw [show (p == q) = false from beq_eq_false_iff_ne.mpr e]
        rw [lexL_ne e] at h
        exact PySem.W.kat_no (TS.oneLt_ints _ h)

theorem lexAt_lexL (ns ms : List Int) : ∀ (k i : Nat), i + k = min ns.length ms.length → Ob.lexAt (fun j => decide (ns.getD j 0 = ms.getD j 0)) (fun j => decide (ns.getD j 0 < ms.getD j 0)) (decide (ns.length < ms.length)) i k = lexL (ns.drop i) (ms.drop i)
  | 0, i, h => by
    rw [Ob.lexAt_zero]
    rcases Nat.lt_or_ge ns.length ms.length with q | q
    · rw [List.drop_of_length_le (show ns.length ≤ i by omega), decide_eq_true q]
      have : i < ms.length := by omega
      rw [List.drop_eq_getElem_cons this]; rfl
    · rw [decide_eq_false (by omega)]
      rw [List.drop_of_length_le (show ms.length ≤ i by omega)]
      cases ns.drop i <;> rfl
  | k + 1, i, h => by
    have h1 : i < ns.length := by omega
    have h2 : i < ms.length := by omega
    rw [Ob.lexAt_succ, List.drop_eq_getElem_cons h1, List.drop_eq_getElem_cons h2]
    have g1 : ns.getD i 0 = ns[i] := by simp [h1]
    have g2 : ms.getD i 0 = ms[i] := by simp [h2]
    rw [g1, g2]
    by_cases e : ns[i] = ms[i]
    · rw [if_pos (decide_eq_true e), e, lexL_same]
      exact lexAt_lexL ns ms k (i + 1) (by omega)
    · rw [if_neg (by simpa using e), lexL_ne e]
theorem isTup_inj {h : Heap} {a : Addr} {xs ys : Array Value} (h1 : IsTup h a xs) (h2 : IsTup h a ys) : xs = ys := by
  obtain ⟨o, ho, _, n, hd⟩ := h1
  obtain ⟨o', ho', _, n', hd'⟩ := h2
  rw [ho] at ho'; cases ho'
  rw [hd] at hd'; cases hd'
  rfl
theorem ints_inj : ∀ {vs : List Value} {ns ms : List Int}, IntsAre vs ns → IntsAre vs ms → ns = ms
  | _, _, _, .nil, .nil => rfl
  | _, _, _, .cons n t h, .cons _ _ h' => by rw [ints_inj h h']
theorem all_getD {ns ms : List Int} (hl : ns.length = ms.length) : ((List.range (min ns.length ms.length)).all fun j => decide (ns.getD j 0 = ms.getD j 0)) = decide (ns = ms) := by
  by_cases e : ns = ms
  · subst e; simp
  · rw [decide_eq_false e]
    rw [Bool.eq_false_iff]
    intro h
    apply e
    rw [List.all_eq_true] at h
    apply List.ext_getElem hl
    intro i h1 h2
    have := h i (by rw [List.mem_range]; omega)
    simpa [h1, h2] using this
theorem eq_tups {v u : Value} {ns ms : List Int} (h1 : TS.TupInts s.heap v ns) (h2 : TS.TupInts s.heap u ms) (hu : A.units < cLine) : SeqAt.EqAt A s v u (decide (ns = ms)) := by
  obtain ⟨a, xs, rfl, t1, i1⟩ := h1
  obtain ⟨b, ys, rfl, t2, i2⟩ := h2
  by_cases e : a = b
  · subst e
    obtain rfl := isTup_inj t1 t2
    rw [decide_eq_true (ints_inj i1 i2)]
    exact SeqAt.EqAt.same _
  · have l1 : xs.size = ns.length := by rw [← i1.length, Array.length_toList]
    have l2 : ys.size = ms.length := by rw [← i2.length, Array.length_toList]
    have at1 : ∀ j (h1 : j < xs.size), ∃ t, xs[j] = .int (ns.getD j 0) t := fun j h1 => PyProof.Rows.IntsAre.int_at i1 _ _ (by simp [h1])
    have at2 : ∀ j (h1 : j < ys.size), ∃ t, ys[j] = .int (ms.getD j 0) t := fun j h1 => PyProof.Rows.IntsAre.int_at i2 _ _ (by simp [h1])
    have R := SeqAt.RcAt.tuples (A := A) (s := s) (e := fun j => decide (ns.getD j 0 = ms.getD j 0)) t1 t2 hu (fun j h1 h2 => by
      obtain ⟨t, et⟩ := at1 j h1
      obtain ⟨t', et'⟩ := at2 j h2
      rw [et, et']
      have z : (ns.getD j 0 == ms.getD j 0) = decide (ns.getD j 0 = ms.getD j 0) := by
        by_cases q : ns.getD j 0 = ms.getD j 0
        · rw [decide_eq_true q]; exact beq_iff_eq.mpr q
        · rw [decide_eq_false q]; exact beq_eq_false_iff_ne.mpr q
      rw [← z]
      exact SeqAt.EqAt.int_int _ _ _ _)
    rw [l1, l2] at R
    have e2 : (((List.range (min ns.length ms.length)).all fun j => decide (ns.getD j 0 = ms.getD j 0)) && ns.length == ms.length) = decide (ns = ms) := by
      by_cases hl : ns.length = ms.length
      · rw [all_getD hl, hl]; simp
      · rw [decide_eq_false (fun z => hl (by rw [z]))]
        simp [hl]
    rw [e2] at R
    exact SeqAt.EqAt.of_refs e R
theorem lt_tups {v u : Value} {ns ms : List Int} (h1 : TS.TupInts s.heap v ns) (h2 : TS.TupInts s.heap u ms) (hu : A.units < cLine) : Ob.RcOp .Lt A s v u (lexL ns ms) := by
  obtain ⟨a, xs, rfl, t1, i1⟩ := h1
  obtain ⟨b, ys, rfl, t2, i2⟩ := h2
  have l1 : xs.size = ns.length := by rw [← i1.length, Array.length_toList]
  have l2 : ys.size = ms.length := by rw [← i2.length, Array.length_toList]
  have at1 : ∀ j (h1 : j < xs.size), ∃ t, xs[j] = .int (ns.getD j 0) t := fun j h1 => PyProof.Rows.IntsAre.int_at i1 _ _ (by simp [h1])
  have at2 : ∀ j (h1 : j < ys.size), ∃ t, ys[j] = .int (ms.getD j 0) t := fun j h1 => PyProof.Rows.IntsAre.int_at i2 _ _ (by simp [h1])
  have R := Ob.RcOp.tuples_lt (A := A) (s := s) (e := fun j => decide (ns.getD j 0 = ms.getD j 0)) (r := fun j => decide (ns.getD j 0 < ms.getD j 0)) t1 t2 hu (fun j h1 h2 => by
    obtain ⟨t, et⟩ := at1 j h1
    obtain ⟨t', et'⟩ := at2 j h2
    rw [et, et']
    have z : (ns.getD j 0 == ms.getD j 0) = decide (ns.getD j 0 = ms.getD j 0) := by
      by_cases q : ns.getD j 0 = ms.getD j 0
      · rw [decide_eq_true q]; exact beq_iff_eq.mpr q
      · rw [decide_eq_false q]; exact beq_eq_false_iff_ne.mpr q
    rw [← z]
    exact SeqAt.EqAt.int_int _ _ _ _) (fun j h1 h2 _ => by
    obtain ⟨t, et⟩ := at1 j h1
    obtain ⟨t', et'⟩ := at2 j h2
    rw [et, et']
    exact Ob.RcOp.lt_int _ _ _ _)
  rw [l1, l2, lexAt_lexL ns ms _ 0 (by omega)] at R
  exact R

/-! the keys of values -/
def KyH (h : Heap) : Nat → Value → List Int → Prop
  | 0, v, ks => TS.TupInts h v ks ∧ ks ≠ []
  | _, v, ks => ∃ n t ns a xs u, v = .ref a ∧ IsTup h a xs ∧ xs.toList = [.int n t, u] ∧ TS.TupInts h u ns ∧ ks = n :: ns
theorem KyH.keeps {h h' : Heap} {sh : Nat} {v : Value} {ks : List Int} (x : KyH h sh v ks) (k : ∀ b o, h.get? b = some o → o.cls = .type "tuple" → h'.get? b = some o) : KyH h' sh v ks := by
  cases sh with
  | zero => exact ⟨x.1.keeps k, x.2⟩
  | succ m =>
    obtain ⟨n, t, ns, a, xs, u, e, ⟨o, ho, hc, hd⟩, ex, tu, ek⟩ := x
    exact ⟨n, t, ns, a, xs, u, e, ⟨o, k _ _ ho hc, hc, hd⟩, ex, tu.keeps k, ek⟩
theorem ky_cmp {vs : List Value} {sh : Nat} {k : Value → List Int} (hu : A.units + 8 < cLine) (hp : ∀ v ∈ vs, KyH s.heap sh v (k v)) : SrtO.Cmp prog w A s (tuples' true) (fun p => p.1 ∈ vs) (SrtO.lt2 fun v u => lexL (k v) (k u)) := by
  intro p q hm hm'
  have h1 := hp _ hm
  have h2 := hp _ hm'
  show wpAny (model prog w) A (keyLt' (tuples' true) p.1 q.1) (fun r s' => s' = s ∧ r = lexL (k p.1) (k q.1)) (fun _ _ => False) s
  generalize k p.1 = x at h1 ⊢
  generalize k q.1 = y at h2 ⊢
  cases sh with
  | zero =>
    obtain ⟨⟨a, xs, e, ⟨o, ho, hc, n, hd⟩, i⟩, _⟩ := h1
    obtain ⟨⟨a', xs', e', ⟨o', ho', hc', n', hd'⟩, i'⟩, _⟩ := h2
    rw [e, e']
    refine PySem.W.kat_lt ho hd ho' hd' ?_
    have l1 : xs.size = x.length := by rw [← i.length, Array.length_toList]
    have l2 : xs'.size = y.length := by rw [← i'.length, Array.length_toList]
    rw [l1, l2]
    exact kat_lexL 0 i i' ⟨rfl, rfl⟩
  | succ m =>
    obtain ⟨n, t, ns, a, xs, u, e, ⟨o, ho, hc, nn, hd⟩, ex, tu, ek⟩ := h1
    obtain ⟨n', t', ns', a', xs', u', e', ⟨o', ho', hc', nn', hd'⟩, ex', tu', ek'⟩ := h2
    rw [e, e', ek, ek']
    refine PySem.W.kat_lt ho hd ho' hd' ?_
    have l1 : xs.size = 2 := by rw [← Array.length_toList, ex]; rfl
    have l2 : xs'.size = 2 := by rw [← Array.length_toList, ex']; rfl
    rw [l1, l2, ex, ex']
    show PySem.W.KatLex prog w A true (decide (2 < 2)) _ [(.int n t, .int n' t'), (u, u')] 0 s
    refine PySem.W.kat_cons (SeqAt.EqAt.int_int n t n' t' prog w _ _ ?_)
    refine PySem.W.kat_go (fun e1 => ?_) (fun e1 => ?_)
    · have ex : n = n' := by simpa using e1
      subst ex
      rw [lexL_same]
      refine PySem.W.kat_yes (PySem.W.kat_cons (eq_tups tu tu' (by omega) prog w _ _ ?_))
      refine PySem.W.kat_go (fun e2 => ?_) (fun e2 => ?_)
      · have ey : ns = ns' := by simpa using e2
        subst ey
        exact PySem.W.kat_yes (PySem.W.kat_nil ⟨rfl, (lexL_irr _).symm⟩)
      · exact PySem.W.kat_no (PySem.W.kat_one _ _ (lt_tups tu tu' (by omega) prog w _ _ ⟨rfl, rfl⟩))
    · have ex : ¬ n = n' := by simpa using e1
      rw [lexL_ne ex]
      exact PySem.W.kat_no (TS.oneLt_ints _ ⟨rfl, rfl⟩)
theorem ky_first {h : Heap} {sh : Nat} {v : Value} {ks : List Int} (x : KyH h sh v ks) : ∃ a o xs n f, v = .ref a ∧ h.get? a = some o ∧ o.cls = .type "tuple" ∧ o.data = .seq xs n ∧ xs[0]? = some f ∧ ∃ z t, f = Value.int z t := by
  cases sh with
  | zero =>
    obtain ⟨⟨a, xs, e, ⟨o, ho, hc, n, hd⟩, i⟩, hne⟩ := x
    cases ks with
    | nil => exact absurd rfl hne
    | cons z ks =>
      obtain ⟨t, ht⟩ := i.get 0 z rfl
      exact ⟨a, o, xs, n, _, e, ho, hc, hd, by rw [← Array.getElem?_toList]; exact ht, z, t, rfl⟩
  | succ m =>
    obtain ⟨n, t, ns, a, xs, u, e, ⟨o, ho, hc, nn, hd⟩, ex, tu, ek⟩ := x
    exact ⟨a, o, xs, nn, _, e, ho, hc, hd, by rw [← Array.getElem?_toList, ex]; rfl, n, t, rfl⟩
theorem ky_firsts {h : Heap} {sh : Nat} : ∀ vs : List Value, (∀ v ∈ vs, ∃ ks, KyH h sh v ks) → ∃ fs, PySem.W.KatTups h vs fs ∧ fs.length = vs.length ∧ ∀ f, f ∈ fs → ∃ n t, f = Value.int n t
  | [], _ => ⟨[], PySem.W.KatTups.nil, rfl, fun f hf => by simp at hf⟩
  | v :: vs, x => by
    obtain ⟨fs, k, hl, hi⟩ := ky_firsts vs fun u hu => x u (List.mem_cons_of_mem _ hu)
    obtain ⟨ks, hk⟩ := x v (List.mem_cons_self ..)
    obtain ⟨a, o, xs, n, f, rfl, ho, hc, hd, hf, z, t, e⟩ := ky_first hk
    refine ⟨f :: fs, PySem.W.KatTups.cons ho hc hd hf k, by simp [hl], ?_⟩
    intro g hg
    rcases List.mem_cons.mp hg with rfl | hg
    · exact ⟨z, t, e⟩
    · exact hi g hg
theorem ky_sortable {a : Addr} {vs : List Value} {sh : Nat} {k : Value → List Int} (hu : A.units + 8 < cLine) (h0 : 0 < vs.length) (hp : ∀ v ∈ vs, KyH s.heap sh v (k v)) (ha : ∀ o, s.heap.get? a = some o → o.cls ≠ .type "tuple") : SrtO.SortableO prog w A s a vs fun v u => lexL (k v) (k u) := by
  intro h' keep
  have hp' : ∀ v ∈ vs, KyH h' sh v (k v) := fun v hm => (hp v hm).keeps fun b o e c => keep b o (fun z => by subst z; exact ha o e c) e
  obtain ⟨fs, h1, h2, h3⟩ := ky_firsts vs fun v hm => ⟨_, hp' v hm⟩
  refine ⟨tuples' true, fun Q E hq => ?_, ky_cmp hu hp'⟩
  refine PySem.W.kat_kind (T := .type "int") h1 (by omega) (fun f hm => ?_) (by rfl) ?_
  · obtain ⟨x, t, rfl⟩ := h3 f hm
    exact PySem.W.Looks.of_pure rfl
  · have e : (Value.type "int" != Value.type "tuple") = true := by first | decide +kernel | rfl | decide
    rw [e]
    exact hq
theorem sorted_ky {l : Addr} {vs : List Value} {sh : Nat} {k : Value → List Int} {Q : Value → Shared → Prop} (hu : A.units + 16 < cLine) (hl : s.heap.IsList l vs.toArray) (hz : vs.length ≤ sizeLine) (hp : ∀ v ∈ vs, KyH s.heap sh v (k v))
    (h : ∀ (h' : Heap) (d : Addr) (out : List Value), SrtO.Srtd (fun v u => lexL (k v) (k u)) out → SrtO.Stb (fun v u => lexL (k v) (k u)) out vs → (∀ b o, s.heap.get? b = some o → h'.get? b = some o) → s.heap.objs.size ≤ d → (∃ n, h'.get? d = some (seqObj "list" out.toArray n)) → Q (.ref d) { s with heap := h' }) :
    wpAny (model prog w) A (call (.builtin "sorted") [.ref l]) Q E s := by
  refine SrtO.sorted_ord (swo_lexL k) hl hz (fun h2 h₁ a ha kk => ?_) fun out hs hb => ?_
  · refine ky_sortable (s := { s with heap := h₁ }) (by simp only [Around.in1_units]; omega) (by omega) (fun v hm => (hp v hm).keeps fun b o e _ => (kk b o e).2) fun o e => ?_
    have e' : some o = some (seqObj "list" vs.toArray 0) := e.symm.trans ha
    cases e'
    intro c
    exact absurd (Value.type.inj c) (by decide)
  · exact h _ _ out hs hb (fun b o e => sortedAll_old e) (Nat.le_succ _) (sortedAll_at s.heap vs out.toArray)
end
end DL

/-! sorted of words (shape 0), of pairs of a number and a word (shape 1): the data -/
namespace DL
open PySem PySem.Spec L2 PyProof.Rows
abbrev ZK := Addr × List Int
def zkV (z : ZK) : V := V.ref z.1
def KyV (K : PySem.W.Frag) (H : Hp) : Nat → Addr → List Int → Prop
  | 0, a, ks => SqT K H a (ks.map V.int) ∧ ks ≠ []
  | _, a, ks => ∃ n ns b, SqT K H a [.int n, .ref b] ∧ SqT K H b (ns.map V.int) ∧ ks = n :: ns
theorem KyV.sub {K : PySem.W.Frag} {H H' : Hp} (e : Sub H H') {sh : Nat} {a : Addr} {ks : List Int} (h : KyV K H sh a ks) : KyV K H' sh a ks := by
  cases sh with
  | zero => exact ⟨st_sub e h.1, h.2⟩
  | succ m =>
    obtain ⟨n, ns, b, h1, h2, h3⟩ := h
    exact ⟨n, ns, b, st_sub e h1, st_sub e h2, h3⟩
def rSortedK (K : PySem.W.Frag) (sh : Nat) : List V → Hp → VK → Prop := fun vs H Q => ∃ (a : Addr) (zs : List ZK), vs = [V.ref a] ∧ SqL K H a (zs.map zkV) ∧ (∀ z ∈ zs, KyV K H sh z.1 z.2) ∧
  ∀ (zs' : List ZK) (p : Addr), zs'.Perm zs → zs'.Pairwise (fun x y => lexL y.2 x.2 = false) → H p = none → Q (.ref p) (upd H p (.lst (zs'.map zkV)))
theorem vals_zk : ∀ {zs : List ZK} {us : List Value}, Vals (zs.map zkV) us → us = zs.map fun z => Value.ref z.1
  | [], us, h => by cases h; rfl
  | z :: zs, us, h => by
    cases h with
    | cons r t =>
      cases r
      rw [vals_zk t, List.map_cons]
theorem zk_vals : ∀ (zs : List ZK), Vals (zs.map zkV) (zs.map fun z => Value.ref z.1)
  | [] => .nil
  | z :: zs => .cons rfl (zk_vals zs)
def zkK (zs : List ZK) (u : Value) : List Int := match u with
  | .ref t => ((zs.find? fun z => decide (z.1 = t)).map (·.2)).getD []
  | _ => []
def zkG (zs : List ZK) (u : Value) : ZK := match u with
  | .ref t => (t, zkK zs (.ref t))
  | _ => (0, [])
section
variable {X : Cx} {pins : List (Addr × Obj)} {σ : L2.St} {H : Hp} {s : Shared}
theorem map_int_inj : ∀ {ns ms : List Int}, ns.map V.int = ms.map V.int → ns = ms
  | [], [], _ => rfl
  | [], _ :: _, h => by simp at h
  | _ :: _, [], h => by simp at h
  | n :: ns, m :: ms, h => by
    simp only [List.map_cons, List.cons.injEq, V.int.injEq] at h
    rw [h.1, map_int_inj h.2]
theorem ky_inj (I : Inv X pins σ H s) {sh : Nat} {a : Addr} {ks ls : List Int} (h1 : KyV X.K H sh a ks) (h2 : KyV X.K H sh a ls) : ks = ls := by
  cases sh with
  | zero => exact map_int_inj (I.tuple_inj h1.1 h2.1)
  | succ m =>
    obtain ⟨n, ns, b, a1, a2, rfl⟩ := h1
    obtain ⟨n', ns', b', b1, b2, rfl⟩ := h2
    have e := I.tuple_inj a1 b1
    simp only [List.cons.injEq, V.int.injEq, V.ref.injEq, and_true] at e
    obtain ⟨rfl, rfl⟩ := e
    rw [map_int_inj (I.tuple_inj a2 b2)]
theorem tup_ints (I : Inv X pins σ H s) {a : Addr} {ns : List Int} (h : SqT X.K H a (ns.map V.int)) : TS.TupInts s.heap (.ref a) ns := by
  obtain ⟨us, rv, ht, _⟩ := I.tuple h
  exact ⟨a, _, rfl, ht, rv.ints⟩
theorem ky_heap (I : Inv X pins σ H s) {sh : Nat} {a : Addr} {ks : List Int} (h : KyV X.K H sh a ks) : KyH s.heap sh (.ref a) ks := by
  cases sh with
  | zero => exact ⟨tup_ints I h.1, h.2⟩
  | succ m =>
    obtain ⟨n, ns, b, a1, a2, rfl⟩ := h
    obtain ⟨us, rv, ht, _⟩ := I.tuple a1
    obtain ⟨u1, u2, rfl, ri, rj⟩ := vals2 rv
    obtain ⟨t1, rfl⟩ := ri
    obtain rfl : u2 = Value.ref b := rj
    exact ⟨n, t1, ns, a, _, _, rfl, ht, rfl, tup_ints I a2, rfl⟩
end
theorem cr_sortedK {X : Cx} {sh : Nat} (hu : X.A.units + 64 < cLine) : CallR X (.builtin "sorted") (rSortedK X.K sh) := by
  intro pins s σ H vs us Q I r ⟨a, zs, ev, hs, ht, q⟩
  subst ev
  obtain ⟨its, rv, hl, hz⟩ := I.list hs
  rw [Vals.ref1 r]
  have e := vals_zk rv
  subst e
  have hk : ∀ z ∈ zs, zkK zs (.ref z.1) = z.2 := fun z hm => by
    show ((zs.find? fun z' => decide (z'.1 = z.1)).map (·.2)).getD [] = z.2
    cases f : zs.find? fun z' => decide (z'.1 = z.1) with
    | none =>
      have := List.find?_eq_none.mp f z hm
      simp at this
    | some z' =>
      have h1 : z'.1 = z.1 := by simpa using List.find?_some f
      have h2 := List.mem_of_find?_eq_some f
      have h3 := ht z' h2
      rw [h1] at h3
      exact ky_inj I h3 (ht z hm)
  have hg : ∀ z ∈ zs, zkG zs (.ref z.1) = z := fun z hm => by
    show (z.1, zkK zs (.ref z.1)) = z
    rw [hk z hm]
  refine sorted_ky (sh := sh) (k := zkK zs) (by omega) hl.isList (by rw [List.length_map]; simpa using hz) (fun v hv => ?_) fun h' d out h1 h2 kp hd hn => ?_
  · obtain ⟨z, hm, rfl⟩ := List.mem_map.mp hv
    rw [hk z hm]
    exact ky_heap I (ht z hm)
  · have pm : out.Perm (zs.map fun z => Value.ref z.1) := h2.perm
    have mem : ∀ u ∈ out, ∃ z ∈ zs, u = Value.ref z.1 := fun u hu => by
      obtain ⟨z, hm, e⟩ := List.mem_map.mp (pm.mem_iff.mp hu)
      exact ⟨z, hm, e.symm⟩
    have pz : (out.map (zkG zs)).Perm zs := by
      have := pm.map (zkG zs)
      rw [List.map_map] at this
      have e : zs.map (zkG zs ∘ fun z => Value.ref z.1) = zs := by
        have : zs.map (zkG zs ∘ fun z => Value.ref z.1) = zs.map id := List.map_congr_left fun z hm => hg z hm
        rw [this, List.map_id]
      rwa [e] at this
    have eo : out = (out.map (zkG zs)).map fun z => Value.ref z.1 := by
      rw [List.map_map]
      have : out.map ((fun z : ZK => Value.ref z.1) ∘ zkG zs) = out.map id := List.map_congr_left fun u hu => by
        obtain ⟨z, hm, rfl⟩ := mem u hu
        rfl
      rw [this, List.map_id]
    obtain ⟨n, hn⟩ := hn
    have so : (out.map (zkG zs)).Pairwise (fun x y => lexL y.2 x.2 = false) := by
      rw [List.pairwise_map]
      refine h1.imp_of_mem ?_
      intro x y hx hy hxy
      obtain ⟨z, hm, rfl⟩ := mem x hx
      obtain ⟨z', hm', rfl⟩ := mem y hy
      exact hxy
    refine ⟨.ref d, upd H d (.lst ((out.map (zkG zs)).map zkV)), I.laid (t' := s.toks) kp hd ⟨?_, out, n, ?_, hn⟩, rfl, q _ d pz so (I.hok.fresh hd)⟩
    · rw [List.length_map, pz.length_eq]; simpa using hz
    · have := zk_vals (out.map (zkG zs))
      rwa [← eo] at this
def kyD : Nat → List Int → D
  | 0, ks => .tup (ks.map .int)
  | _, n :: ns => .tup [.int n, .tup (ns.map .int)]
  | _, [] => .non
theorem rep_ky {K : PySem.W.Frag} {C : Hp} {sh : Nat} {ks : List Int} {v : V} (hne : ks ≠ []) (h : rep K C (kyD sh ks) v) : ∃ a, v = .ref a ∧ KyV K C sh a ks := by
  cases sh with
  | zero =>
    obtain ⟨a, ys, rfl, h6, h7⟩ := rep_tup h
    have e := reps_ints h7
    subst e
    exact ⟨a, rfl, h6, hne⟩
  | succ m =>
    cases ks with
    | nil => exact absurd rfl hne
    | cons n ns =>
      obtain ⟨a, ys, rfl, h6, h7⟩ := rep_tup h
      simp only [reps] at h7
      obtain ⟨x, r, rfl, h8, y, r2, rfl, h9, rfl⟩ := h7
      obtain rfl := rep_int h8
      obtain ⟨b, zs, rfl, h10, h11⟩ := rep_tup h9
      have e := reps_ints h11
      subst e
      exact ⟨a, rfl, n, ns, b, h6, h10, rfl⟩
theorem ky_rep {K : PySem.W.Frag} {C : Hp} {sh : Nat} {ks : List Int} {a : Addr} (h : KyV K C sh a ks) : rep K C (kyD sh ks) (.ref a) := by
  cases sh with
  | zero => exact tup_rep h.1 (ints_reps ks)
  | succ m =>
    obtain ⟨n, ns, b, h1, h2, rfl⟩ := h
    exact tup_rep h1 (reps_cons int_rep (reps_one (tup_rep h2 (ints_reps ns))))
theorem reps_ky {K : PySem.W.Frag} {C : Hp} {sh : Nat} : ∀ {kss : List (List Int)} {xs : List V}, (∀ ks ∈ kss, ks ≠ []) → reps K C (kss.map (kyD sh)) xs → ∃ zs : List ZK, xs = zs.map zkV ∧ zs.map (·.2) = kss ∧ ∀ z ∈ zs, KyV K C sh z.1 z.2
  | [], xs, _, h => by simp only [List.map_nil, reps] at h; subst h; exact ⟨[], rfl, rfl, fun _ h => (nomatch h)⟩
  | ks :: kss, xs, hne, h => by
    simp only [List.map_cons, reps] at h
    obtain ⟨x, r, rfl, h2, h3⟩ := h
    obtain ⟨zs, rfl, h4, h5⟩ := reps_ky (fun k hk => hne k (by simp [hk])) h3
    obtain ⟨a, rfl, h6⟩ := rep_ky (hne ks (by simp)) h2
    refine ⟨(a, ks) :: zs, rfl, by rw [List.map_cons, h4], fun z hz => ?_⟩
    rcases List.mem_cons.mp hz with q | q
    · subst q; exact h6
    · exact h5 z q
theorem ky_reps {K : PySem.W.Frag} {C : Hp} {sh : Nat} : ∀ {zs : List ZK}, (∀ z ∈ zs, KyV K C sh z.1 z.2) → reps K C ((zs.map (·.2)).map (kyD sh)) (zs.map zkV)
  | [], _ => reps_nil
  | z :: zs, h => reps_cons (ky_rep (h z (by simp))) (ky_reps fun z' h' => h z' (by simp [h']))
section
variable {X : Cx} {e : Expr} {te : TE} {de : DE} {dl : DL} {p pos : Pos} {sh : Nat}
def dSortK (sh : Nat) (dl : DL) : DL := fun ρ k => dl ρ fun x => ∃ kss : List (List Int), x = kss.map (kyD sh) ∧ (∀ ks ∈ kss, ks ≠ []) ∧ ∀ kss' : List (List Int), kss'.Perm kss → kss'.Pairwise (fun x y => lexL y x = false) → k (kss'.map (kyD sh))
theorem f_sortK (hu : X.A.units + 64 < cLine) (hm : X.mg "sorted" = none) (h : XLL X e te dl) (hg : Gl X "sorted" := by rfl) (hs : starEach [e] X.env = [(false, eval e X.env)] := by rfl) : XF X (.Call (.Name "sorted" p) [e] [] pos) (tCB (rSortedK X.K sh) (tCons te tNil)) (dSortK sh dl) :=
  ⟨pe_callB (cr_sortedK hu) hg hm (by decide +kernel) (pa_cons h.pe pa_nil hs) (he := hs), fun W B ρ σ H k Q at' d q =>
  h.ok W B ρ σ H _ _ at' d fun ds l xs H1 a1 g1 hl r1 ⟨kss, ex, hne, kk⟩ => by
    subst ex
    obtain ⟨zs, rfl, e2, h3⟩ := reps_ky hne r1
    refine ⟨l, zs, rfl, .inl (.inl (of_cl hl).1), fun z hz => (h3 z hz).sub cl_sub, fun zs' p pm so hn => ?_⟩
    have h4 : ∀ z ∈ zs', KyV X.K (cl (fun a => Av W ρ a ∨ a = p) (upd H1 p (.lst (zs'.map zkV)))) sh z.1 z.2 := fun z hz =>
      (h3 z (pm.mem_iff.mp hz)).sub (cl_more hn)
    have := kk (zs'.map (·.2)) (e2 ▸ pm.map _) (List.pairwise_map.mpr so)
    exact q _ p _ _ (a1.alloc hn) (g1.trans (Gr.of (Sub.new hn))) (Gr.back (W := W) a1 g1 hn) upd_same (ky_reps h4) this⟩
end
end DL

/-! [e for x in .. if .. for y in .. if ..] -/
namespace DL
open PySem PySem.Spec L2 PyProof.Rows
section
variable {J : It} {n : Nat} {G : Hp → Prop} {Y : Nat → Hp → V → Hp → Prop}
theorem gen_it (w : Walk J n G Y) {Hs : Hp} {F : V → Hp → (Hp → Prop) → Prop} {Qd : Hp → Prop} (Pv : Nat → Hp → Prop) (h0 : Pv 0 Hs) (hG : ∀ i H, i ≤ n → Pv i H → G H)
    (hs : ∀ i x H H', i < n → Pv i H → Y i H x H' → F x H' (Pv (i + 1))) (hd : ∀ H, Pv n H → Qd H) :
    ∃ W : Nat → Nat → Hp → Prop, (∃ m, W 0 m Hs) ∧ ∀ i m H, W i m H →
      (J.stop i H ∧ Qd H) ∨ (J.go i H ∧ ∃ Nx : Hp → Prop, (∀ H', Nx H' → ∃ m', m' < m ∧ W (i + 1) m' H') ∧ ∀ x H', J.yld i H x H' → F x H' Nx) := by
  refine ⟨fun i m H => m = n - i ∧ i ≤ n ∧ Pv i H, ⟨n, by simp, Nat.zero_le _, h0⟩, ?_⟩
  rintro i m H ⟨rfl, hi, p⟩
  have q := hG i H hi p
  by_cases hlt : i < n
  · refine .inr ⟨w.goes i H hlt q, Pv (i + 1), fun H' p' => ⟨n - (i + 1), by omega, rfl, hlt, p'⟩, fun x H' y => hs i x H H' hlt p (w.yields i H x H' hlt q y)⟩
  · have e : i = n := by omega
    subst e
    exact .inl ⟨w.stops H q, hd H p⟩
end
def cmp2 (step : D → (List D → Prop) → Prop) : List D → (List D → Prop) → Prop
  | [], k => k []
  | d :: ds, k => step d fun o => cmp2 step ds fun r => k (o ++ r)
def dStep2 (dg : DG) (dt : DT) (di1 : DL) (dg1 : DG) (dt1 : DT) (de : DE) (vs1 : List Nat) (M : Nat) (ρ : List Sl) : D → (List D → Prop) → Prop := fun d k =>
  dg d ρ fun r => dt r fun b => if b = true then di1 r fun ds => ds.length ≤ M ∧ noOwn r vs1 = true ∧ cmp (dStep dg1 dt1 de (wipeS r vs1)) ds k else k []
def dLc2 (di : DL) (dg : DG) (dt : DT) (di1 : DL) (dg1 : DG) (dt1 : DT) (de : DE) (vs vs1 : List Nat) : DL := fun ρ k => di ρ fun ds => ∃ M, ds.length * M ≤ 10000000 ∧ noOwn ρ vs = true ∧ cmp2 (dStep2 dg dt di1 dg1 dt1 de vs1 M (wipeS ρ vs)) ds k
def GrD (p : Addr) (ρ : List Sl) (H H' : Hp) : Prop := ∀ a o, ¬ Dv ρ a → a ≠ p → H a = some o → H' a = some o
theorem GrD.of {p : Addr} {ρ : List Sl} {H H' : Hp} (g : Gr ρ H H') : GrD p ρ H H' := fun a o n _ e => g a o n e
theorem GrD.trans {p : Addr} {ρ : List Sl} {H H1 H2 : Hp} (a : GrD p ρ H H1) (b : GrD p ρ H1 H2) : GrD p ρ H H2 := fun x o n m e => b x o n m (a x o n m e)
section
variable {K : PySem.W.Frag}
theorem lc_in {wi : TI} {g : TG} {tt : TT} {te : TE} {di : DL} {dg : DG} {dt : DT} {de : DE} {is vs : List Nat} (hi : IOk K wi di) (hg : GsOk K g dg is) (ht : TOk K tt dt) (he : EOk K te de) (hv : ∀ i ∈ is, i ∈ vs)
    {W : Addr → Prop} {B : Hp} {Da : Addr} {xs : List V} {ρ : List Sl} {σ : L2.St} {H : Hp} {M : Nat} {kin : List D → Prop} {Nx : Hp → Prop} (hW : W Da) (hu : ∀ (xs xs' : List V) (H : Hp), At K W (upd B Da (.lst xs)) ρ σ H → At K W (upd B Da (.lst xs')) ρ σ (upd H Da (.lst xs'))) (at' : At K W (upd B Da (.lst xs)) ρ σ H)
    (hM : xs.length + M ≤ 10000000) (d : di ρ fun ds => ds.length ≤ M ∧ noOwn ρ vs = true ∧ cmp (dStep dg dt de (wipeS ρ vs)) ds kin)
    (q : ∀ done ys H', At K W (upd B Da (.lst (xs ++ ys))) ρ σ H' → H' Da = some (.lst (xs ++ ys)) → reps K (cl (Av W ρ) H') done ys → done.length ≤ M → GrD Da ρ H H' → kin done → Nx H') :
    wi σ H fun J1 H4 => ∃ W1 : Nat → Nat → Hp → Prop, (∃ m, W1 0 m H4) ∧ ∀ j k H, W1 j k H →
      (J1.stop j H ∧ Nx H) ∨ (J1.go j H ∧ ∃ Nx1 : Hp → Prop, (∀ H', Nx1 H' → ∃ k', k' < k ∧ W1 (j + 1) k' H') ∧ ∀ x H', J1.yld j H x H' → g x (wipe σ vs) H' fun σ3 H5 => wipe σ3 vs = wipe σ vs ∧ tt σ3 H5 fun b H6 =>
        if b = true then te σ3 H6 fun y H7 => ∃ acc, H7 Da = some (.lst acc) ∧ acc.length < sizeLine ∧ Nx1 (upd H7 Da (.lst (acc ++ [y]))) else Nx1 H6) :=
  hi W _ ρ σ H _ _ at' d fun ds J H1 a1 g1 ⟨Gd, Y, wk, hG, hY⟩ ⟨hl, hno, hc⟩ => by
    refine gen_it (F := fun x H' Nx1 => g x (wipe σ vs) H' fun σ3 H5 => wipe σ3 vs = wipe σ vs ∧ tt σ3 H5 fun b H6 =>
        if b = true then te σ3 H6 fun y H7 => ∃ acc, H7 Da = some (.lst acc) ∧ acc.length < sizeLine ∧ Nx1 (upd H7 Da (.lst (acc ++ [y]))) else Nx1 H6) wk
      (fun i H' => ∃ acc ys, At K W (upd B Da (.lst (xs ++ ys))) ρ σ H' ∧ H' Da = some (.lst (xs ++ ys)) ∧ reps K (cl (Av W ρ) H') acc ys ∧ acc.length ≤ i ∧ Sub (cl (Av W ρ) H1) (cl (Av W ρ) H') ∧ GrD Da ρ H H' ∧ cmp (dStep dg dt de (wipeS ρ vs)) (ds.drop i) fun r => kin (acc ++ r))
      ⟨[], [], by simpa using a1, by simpa using a1.kp Da _ upd_same, reps_nil, Nat.le_refl _, Sub.refl _, GrD.of g1, by simpa using hc⟩
      (fun i H' _ p => hG H' (p.choose_spec.choose_spec.2.2.2.2.1.trans cl_sub)) (fun i x H' H2 hi2 p y => ?_) fun H' p => ?_
    · obtain ⟨acc, ys, a', hDx, r, hle, hC, gr, hc'⟩ := p
      have hd : ds[i]? = some ds[i] := by simp [hi2]
      obtain ⟨s, rx⟩ := hY i H' x H2 ds[i] hd y (Av W ρ) (fun a z => a'.av_dom z) hC
      have a2 : At K W (upd B Da (.lst (xs ++ ys))) ρ σ H2 := a'.grow s
      have aw := a2.wipe hno
      rw [List.drop_eq_getElem_cons hi2] at hc'
      have so0 : SameO ρ (wipeS ρ vs) := sameO_wipe hno
      refine hg W _ (wipeS ρ vs) (wipe σ vs) H2 ds[i] x _ _ aw (rep_sub (cl_mono fun b o e n => ⟨e, fun z => n (so0.av.mpr z)⟩) _ _ rx) hc' fun ρ2 σ2 a3 w3 _ oth k3 => ?_
      have so : SameO ρ ρ2 := so0.trans (sameO_othr oth fun i hi s hs => by
        obtain ⟨t, _, _, h3, _⟩ := wipeS_get hs
        rw [h3 (hv i hi)]; rfl)
      refine ⟨(w3 vs hv).trans (wipe_wipe σ vs), ?_⟩
      refine ht W _ ρ2 σ2 H2 _ _ a3 k3 fun b H4 a4 g4 k4 => ?_
      cases b with
      | true =>
        refine iteT (he W _ ρ2 σ2 H4 _ _ a4 (by simpa using k4) fun dd v H5 a5 g5 r5 k5 => ?_)
        have h5 : H5 Da = some (.lst (xs ++ ys)) := a5.kp Da _ upd_same
        obtain ⟨a6, g6⟩ := a2.back (B2 := B) a5 so (g4.trans g5)
        have m : Sub (cl (Av W ρ) H5) (cl (Av W ρ) (upd H5 Da (.lst (xs ++ (ys ++ [v]))))) := cl_mono fun b u e n => by
          have : b ≠ Da := fun z => n (by subst z; exact .inl hW)
          exact ⟨by rw [upd_ne this]; exact e, n⟩
        have ml : ys.length = acc.length := reps_len r
        have ea : (xs ++ ys) ++ [v] = xs ++ (ys ++ [v]) := List.append_assoc ..
        refine ⟨xs ++ ys, h5, sl7' (by rw [List.length_append, ml]; omega), ?_⟩
        rw [ea]
        refine ⟨acc ++ [dd], ys ++ [v], ?_, ?_, reps_append (reps_sub (((cl_grow s).trans (Gr_cl g6)).trans m) _ _ r) (reps_one (rep_sub m _ _ (rep_sub (cl_mono fun b o e n => ⟨e, fun z => n (so.av.mp z)⟩) _ _ r5))), by rw [List.length_append, List.length_singleton]; omega, ?_, ?_, ?_⟩
        · exact hu _ _ _ a6
        · exact upd_same
        · exact (hC.trans (cl_grow s)).trans ((Gr_cl g6).trans m)
        · intro b o n nb e
          rw [upd_ne nb]
          exact g6 b o n (s b o (gr b o n nb e))
        · simpa [List.append_assoc] using k5
      | false =>
        refine iteF ?_
        obtain ⟨a6, g6⟩ := a2.back (B2 := B) a4 so g4
        exact ⟨acc, ys, a6, a6.kp Da _ upd_same, reps_sub (Gr_cl g6) _ _ (reps_sub (cl_grow s) _ _ r), by omega, (hC.trans (cl_grow s)).trans (Gr_cl g6), fun b o n nb e => g6 b o n (s b o (gr b o n nb e)), by simpa using k4⟩
    · obtain ⟨acc, ys, a', hDx, r, hle, hC, gr, hc'⟩ := p
      rw [List.drop_of_length_le (Nat.le_refl _)] at hc'
      exact q acc ys H' a' hDx r (by omega) gr (by simpa [cmp] using hc')
theorem okLc2 {wi wi1 : TI} {g g1 : TG} {tt tt1 : TT} {te : TE} {di di1 : DL} {dg dg1 : DG} {dt dt1 : DT} {de : DE} {is vs is1 vs1 : List Nat} (hi : IOk K wi di) (hg : GsOk K g dg is) (ht : TOk K tt dt)
    (hi1 : IOk K wi1 di1) (hg1 : GsOk K g1 dg1 is1) (ht1 : TOk K tt1 dt1) (he : EOk K te de) (hv : ∀ i ∈ is, i ∈ vs) (hv1 : ∀ i ∈ is1, i ∈ vs1) : FOk K (tLc2 wi g tt wi1 g1 tt1 te vs vs1) (dLc2 di dg dt di1 dg1 dt1 de vs vs1) := fun W B ρ σ H k Q at' d q =>
  hi W B ρ σ H _ _ at' d fun ds J H1 a1 g1' ⟨Gd, Y, wk, hG, hY⟩ ⟨M, hl, hno, hc⟩ => by
    intro Da hD
    have bD : B Da = none := by
      cases e : B Da with
      | none => rfl
      | some o => rw [a1.kp Da o e] at hD; cases hD
    have hD0 : H Da = none := Gr.back (W := W) a1 g1' hD
    let W' : Addr → Prop := fun a => W a ∨ a = Da
    let step := dStep2 dg dt di1 dg1 dt1 de vs1 M (wipeS ρ vs)
    refine gen_it (F := fun x H' Nx => g x (wipe σ vs) H' fun σ2 H2 => wipe σ2 vs = wipe σ vs ∧ tt σ2 H2 fun b H3 =>
      if b = true then wi1 σ2 H3 fun J1 H4 => ∃ W1 : Nat → Nat → Hp → Prop, (∃ m, W1 0 m H4) ∧ ∀ j k H, W1 j k H →
        (J1.stop j H ∧ Nx H) ∨ (J1.go j H ∧ ∃ Nx1 : Hp → Prop, (∀ H', Nx1 H' → ∃ k', k' < k ∧ W1 (j + 1) k' H') ∧ ∀ x H', J1.yld j H x H' → g1 x (wipe σ2 vs1) H' fun σ3 H5 => wipe σ3 vs1 = wipe σ2 vs1 ∧ tt1 σ3 H5 fun b H6 =>
          if b = true then te σ3 H6 fun y H7 => ∃ acc, H7 Da = some (.lst acc) ∧ acc.length < sizeLine ∧ Nx1 (upd H7 Da (.lst (acc ++ [y]))) else Nx1 H6)
      else Nx H3) wk (fun i H' => ∃ acc xs, At K W' (upd B Da (.lst xs)) ρ σ H' ∧ H' Da = some (.lst xs) ∧ reps K (cl (Av W' ρ) H') acc xs ∧ acc.length ≤ i * M ∧ Sub (cl (Av W ρ) H1) (cl (Av W' ρ) H') ∧ Gr ρ H H' ∧ cmp2 step (ds.drop i) fun r => k (acc ++ r))
      ⟨[], [], a1.hide hD (Gr.of (Sub.new hD)) (a1.alloc hD) upd_same, upd_same, reps_nil, Nat.zero_le _, cl_mono fun b o e n => ?_, g1'.trans (Gr.of (Sub.new hD)), by simpa using hc⟩
      (fun i H' _ p => hG H' (p.choose_spec.choose_spec.2.2.2.2.1.trans cl_sub)) (fun i x H' H2 hi2 p y => ?_) fun H' p => ?_
    · have nb : b ≠ Da := ne_of_none e hD
      exact ⟨by rw [upd_ne nb]; exact e, fun z => by
        rcases z with (z | z) | z
        · exact n (.inl z)
        · exact nb z
        · exact n (.inr z)⟩
    · obtain ⟨acc, xs, a', hDx, r, hle, hC, gr, hc'⟩ := p
      have hd : ds[i]? = some ds[i] := by simp [hi2]
      obtain ⟨s, rx⟩ := hY i H' x H2 ds[i] hd y (Av W' ρ) (fun a z => a'.av_dom z) hC
      have a2 : At K W' (upd B Da (.lst xs)) ρ σ H2 := a'.grow s
      have aw := a2.wipe hno
      rw [List.drop_eq_getElem_cons hi2] at hc'
      have so0 : SameO ρ (wipeS ρ vs) := sameO_wipe hno
      have hiM : (i + 1) * M ≤ 10000000 := Nat.le_trans (Nat.mul_le_mul_right M (by omega)) hl
      have hiM' : (i + 1) * M = i * M + M := by rw [Nat.add_mul, Nat.one_mul]
      have ml : xs.length = acc.length := reps_len r
      refine hg W' (upd B Da (.lst xs)) (wipeS ρ vs) (wipe σ vs) H2 ds[i] x _ _ aw (rep_sub (cl_mono fun b o e n => ⟨e, fun z => n (so0.av.mpr z)⟩) _ _ rx) hc' fun ρ2 σ2 a3 w3 _ oth k3 => ?_
      have so : SameO ρ ρ2 := so0.trans (sameO_othr oth fun i hi s hs => by
        obtain ⟨t, _, _, h3, _⟩ := wipeS_get hs
        rw [h3 (hv i hi)]; rfl)
      refine ⟨(w3 vs hv).trans (wipe_wipe σ vs), ?_⟩
      refine ht W' (upd B Da (.lst xs)) ρ2 σ2 H2 _ _ a3 k3 fun b H4 a4 g4 k4 => ?_
      cases b with
      | true =>
        refine iteT (lc_in (B := B) hi1 hg1 ht1 he hv1 (.inr rfl) (fun _ _ _ a => a.updW) a4 (M := M) (by omega) (by simpa using k4) fun done ys H5 a5 h5 r5 l5 g5 k5 => ?_)
        have a2' : At K W' (upd B Da (.lst (xs ++ ys))) ρ σ (upd H2 Da (.lst (xs ++ ys))) := by
          have z := a2.updW (o' := .lst (xs ++ ys))
          exact z
        have g6' : Gr ρ2 (upd H2 Da (.lst (xs ++ ys))) H5 := fun b o n e => by
          by_cases nb : b = Da
          · subst nb
            rw [upd_same] at e
            cases e
            exact h5
          · rw [upd_ne nb] at e
            exact g5 b o n nb (g4 b o n e)
        obtain ⟨a6, g6⟩ := a2'.back (B2 := B) a5 so g6'
        have m2 : Sub (cl (Av W' ρ) H2) (cl (Av W' ρ) (upd H2 Da (.lst (xs ++ ys)))) := cl_mono fun b u e n => by
          have : b ≠ Da := fun z => n (by subst z; exact .inl (.inr rfl))
          exact ⟨by rw [upd_ne this]; exact e, n⟩
        refine ⟨acc ++ done, xs ++ ys, a6, h5, reps_append (reps_sub ((cl_grow s).trans (m2.trans (Gr_cl g6))) _ _ r) (reps_sub (cl_mono fun b o e n => ⟨e, fun z => n (so.av.mp z)⟩) _ _ r5), by rw [List.length_append]; omega, (hC.trans (cl_grow s)).trans (m2.trans (Gr_cl g6)), ?_, by simpa [List.append_assoc] using k5⟩
        intro b o n e
        refine g6 b o n ?_
        rw [upd_ne (ne_of_none e hD0)]
        exact s b o (gr b o n e)
      | false =>
        refine iteF ?_
        obtain ⟨a6, g6⟩ := a2.back (B2 := B) a4 so g4
        exact ⟨acc, xs, a6, a6.kp Da _ upd_same, reps_sub (Gr_cl g6) _ _ (reps_sub (cl_grow s) _ _ r), by omega, (hC.trans (cl_grow s)).trans (Gr_cl g6), (gr.trans (Gr.of s)).trans g6, by simpa using k4⟩
    · obtain ⟨acc, xs, a', hDx, r, hle, hC, gr, hc'⟩ := p
      rw [List.drop_of_length_le (Nat.le_refl _)] at hc'
      refine q acc Da xs H' (a'.unhide (Sub.new bD) (fun x z => .inl z) at'.wd) gr hD0 hDx (reps_sub (cl_mono fun b o e n => ⟨e, fun z => ?_⟩) _ _ r) (by simpa [cmp2] using hc')
      rcases z with (z | z) | z
      · exact n (.inl (.inl z))
      · exact n (.inr z)
      · exact n (.inl (.inr z))
end
section
variable {X : Cx} {it tg elt it1 tg1 : Expr} {ifs ifs1 : List Expr} {scope : Scope} {own : List (Str × Nat)} {is is1 vs1 : List Nat} {wi : TI} {di di1 : DL} {dg dg1 : DG} {dt dt1 : DT} {de : DE} {pos : Pos}
theorem f_lc2G {g g1 : Dep TG} {tt tt1 : Dep TT} {wi1 : Dep TI} {te : Dep TE} (hc : X.calm = true) (hN : X.N.Nodup) (hi : XI X tg it wi di) (ok : BlkOk X.N X.env.scope scope own)
    (hg : ∀ s H C cl fp, XGs (X.blk s H scope (compEnvC scope cl C X.env) fp) tg (g s H C cl fp) dg is)
    (ht : ∀ s H C cl fp, XTs (X.blk s H scope (compEnvC scope cl C X.env) fp) ifs (tt s H C cl fp) dt)
    (hi1 : ∀ s H C cl fp, XI (X.blk s H scope (compEnvC scope cl C X.env) fp) tg1 it1 (wi1 s H C cl fp) di1)
    (hg1 : ∀ s H C cl fp, XGs (X.blk s H scope (compEnvC scope cl C X.env) fp) tg1 (g1 s H C cl fp) dg1 is1)
    (ht1 : ∀ s H C cl fp, XTs (X.blk s H scope (compEnvC scope cl C X.env) fp) ifs1 (tt1 s H C cl fp) dt1)
    (he : ∀ s H C cl fp, XE (X.blk s H scope (compEnvC scope cl C X.env) fp) elt (te s H C cl fp) de)
    (eg : ∀ s H C cl fp, g s H C cl fp = g X.s_0 X.H_0 0 [] [] := by intros; rfl) (et : ∀ s H C cl fp, tt s H C cl fp = tt X.s_0 X.H_0 0 [] [] := by intros; rfl)
    (ei1 : ∀ s H C cl fp, wi1 s H C cl fp = wi1 X.s_0 X.H_0 0 [] [] := by intros; rfl)
    (eg1 : ∀ s H C cl fp, g1 s H C cl fp = g1 X.s_0 X.H_0 0 [] [] := by intros; rfl) (et1 : ∀ s H C cl fp, tt1 s H C cl fp = tt1 X.s_0 X.H_0 0 [] [] := by intros; rfl)
    (ee : ∀ s H C cl fp, te s H C cl fp = te X.s_0 X.H_0 0 [] [] := by intros; rfl)
    (hv : ∀ i ∈ is, i ∈ own.map (·.2) := by decide) (hv1 : ∀ i ∈ is1, i ∈ vs1 := by decide) (hvo : ∀ i ∈ vs1, i ∈ own.map (·.2) := by decide) (hs : ∀ x, foldedSetIterable it X.env x = pure x := by intro _; rfl) (hs1 : ∀ env x, foldedSetIterable it1 env x = pure x := by intro _ _; rfl) :
    XF X (.ListComp elt [⟨tg, it, ifs, 0⟩, ⟨tg1, it1, ifs1, 0⟩] scope pos) (tLc2 wi (g X.s_0 X.H_0 0 [] []) (tt X.s_0 X.H_0 0 [] []) (wi1 X.s_0 X.H_0 0 [] []) (g1 X.s_0 X.H_0 0 [] []) (tt1 X.s_0 X.H_0 0 [] []) (te X.s_0 X.H_0 0 [] []) (own.map (·.2)) vs1) (dLc2 di dg dt di1 dg1 dt1 de (own.map (·.2)) vs1) :=
  ⟨pe_lc2 hc hN hi.pi ok hvo (fun s H C cl fp => eg s H C cl fp ▸ (hg s H C cl fp).pg) (fun s H C cl fp => et s H C cl fp ▸ (ht s H C cl fp).pt) (fun s H C cl fp => ei1 s H C cl fp ▸ (hi1 s H C cl fp).pi) (fun s H C cl fp => eg1 s H C cl fp ▸ (hg1 s H C cl fp).pg) (fun s H C cl fp => et1 s H C cl fp ▸ (ht1 s H C cl fp).pt) (fun s H C cl fp => ee s H C cl fp ▸ (he s H C cl fp).pe) hs hs1,
    okLc2 hi.ok (hg X.s_0 X.H_0 0 [] []).ok (ht X.s_0 X.H_0 0 [] []).ok (hi1 X.s_0 X.H_0 0 [] []).ok (hg1 X.s_0 X.H_0 0 [] []).ok (ht1 X.s_0 X.H_0 0 [] []).ok (he X.s_0 X.H_0 0 [] []).ok hv hv1⟩
theorem s_setLc2G {g g1 : Dep TG} {tt tt1 : Dep TT} {wi1 : Dep TI} {te : Dep TE} {i : Nat} {y : Str} {py spos : Pos} (hc : X.calm = true) (hN : X.N.Nodup) (hy : X.N[i]? = some y)
    (hsw : swapsWith (.ListComp elt [⟨tg, it, ifs, 0⟩, ⟨tg1, it1, ifs1, 0⟩] scope pos) (some (.Name y py)) spos.line X.env = pure true) (hi : XI X tg it wi di) (ok : BlkOk X.N X.env.scope scope own)
    (hg : ∀ s H C cl fp, XGs (X.blk s H scope (compEnvC scope cl C X.env) fp) tg (g s H C cl fp) dg is)
    (ht : ∀ s H C cl fp, XTs (X.blk s H scope (compEnvC scope cl C X.env) fp) ifs (tt s H C cl fp) dt)
    (hi1 : ∀ s H C cl fp, XI (X.blk s H scope (compEnvC scope cl C X.env) fp) tg1 it1 (wi1 s H C cl fp) di1)
    (hg1 : ∀ s H C cl fp, XGs (X.blk s H scope (compEnvC scope cl C X.env) fp) tg1 (g1 s H C cl fp) dg1 is1)
    (ht1 : ∀ s H C cl fp, XTs (X.blk s H scope (compEnvC scope cl C X.env) fp) ifs1 (tt1 s H C cl fp) dt1)
    (he : ∀ s H C cl fp, XE (X.blk s H scope (compEnvC scope cl C X.env) fp) elt (te s H C cl fp) de)
    (eg : ∀ s H C cl fp, g s H C cl fp = g X.s_0 X.H_0 0 [] [] := by intros; rfl) (et : ∀ s H C cl fp, tt s H C cl fp = tt X.s_0 X.H_0 0 [] [] := by intros; rfl)
    (ei1 : ∀ s H C cl fp, wi1 s H C cl fp = wi1 X.s_0 X.H_0 0 [] [] := by intros; rfl)
    (eg1 : ∀ s H C cl fp, g1 s H C cl fp = g1 X.s_0 X.H_0 0 [] [] := by intros; rfl) (et1 : ∀ s H C cl fp, tt1 s H C cl fp = tt1 X.s_0 X.H_0 0 [] [] := by intros; rfl)
    (ee : ∀ s H C cl fp, te s H C cl fp = te X.s_0 X.H_0 0 [] [] := by intros; rfl)
    (hv : ∀ i ∈ is, i ∈ own.map (·.2) := by decide) (hv1 : ∀ i ∈ is1, i ∈ vs1 := by decide) (hvo : ∀ i ∈ vs1, i ∈ own.map (·.2) := by decide) (hyl : X.env.scope.names.lookup y = some .local := by rfl) (hs : ∀ x, foldedSetIterable it X.env x = pure x := by intro _; rfl) (hs1 : ∀ env x, foldedSetIterable it1 env x = pure x := by intro _ _; rfl) :
    XS X (.Assign [.Name y py] (.ListComp elt [⟨tg, it, ifs, 0⟩, ⟨tg1, it1, ifs1, 0⟩] scope pos) spos) (tAsg (tLc2 wi (g X.s_0 X.H_0 0 [] []) (tt X.s_0 X.H_0 0 [] []) (wi1 X.s_0 X.H_0 0 [] []) (g1 X.s_0 X.H_0 0 [] []) (tt1 X.s_0 X.H_0 0 [] []) (te X.s_0 X.H_0 0 [] []) (own.map (·.2)) vs1) (gName i)) (dSet i (dvF (dLc2 di dg dt di1 dg1 dt1 de (own.map (·.2)) vs1))) :=
  ⟨ps_setLc2 hc hN hy hyl hsw hi.pi ok hvo (fun s H C cl fp => eg s H C cl fp ▸ (hg s H C cl fp).pg) (fun s H C cl fp => et s H C cl fp ▸ (ht s H C cl fp).pt) (fun s H C cl fp => ei1 s H C cl fp ▸ (hi1 s H C cl fp).pi) (fun s H C cl fp => eg1 s H C cl fp ▸ (hg1 s H C cl fp).pg) (fun s H C cl fp => et1 s H C cl fp ▸ (ht1 s H C cl fp).pt) (fun s H C cl fp => ee s H C cl fp ▸ (he s H C cl fp).pe) hs hs1,
    okSet (okLc2 hi.ok (hg X.s_0 X.H_0 0 [] []).ok (ht X.s_0 X.H_0 0 [] []).ok (hi1 X.s_0 X.H_0 0 [] []).ok (hg1 X.s_0 X.H_0 0 [] []).ok (ht1 X.s_0 X.H_0 0 [] []).ok (he X.s_0 X.H_0 0 [] []).ok hv hv1).v⟩
end
end DL

/-! tuple * number; in, not in; is True; slices; tuples together; xs[i] += e; isinstance of several -/
namespace DL
open PySem PySem.Spec L2 PyProof.Rows
/-! ### tuple * number -/
theorem tuple_mul1 (l : Addr) (items : Array Value) (n : Nat) (sl : Array (Option Value)) (dd : Option Addr) (u : Tok) :
    Meets (Builtin.«tuple.__mul__» ⟨[.ref l, .int 1 u], []⟩) (fun _ R s => s.heap.get? l = some { cls := .type "tuple", dict := dd, data := .seq items n, slots := sl } ∧
      R (.ok (.ret (Value.ref l))) s) :=
  .of_wp fun prog w A R s h => by
    obtain ⟨hp, g, d, tk, os⟩ := s
    obtain ⟨hl, h⟩ := h
    have f1 := AutoSeq1.idx_int
    have c0 : (decide ((1 : Int) < -(2 ^ 63)) || decide ((1 : Int) ≥ 2 ^ 63)) = false := by decide
    have c1 : (items.isEmpty || (1 : Int) == 1) = true := by simp
    wp_walk using wpAny_loadPart' hl
    exact ⟨_, rfl, h⟩
theorem tuple_mul0 (l : Addr) (items : Array Value) (n : Nat) (sl : Array (Option Value)) (dd : Option Addr) (x : Int) (u : Tok) (c0 : (decide (x < -(2 ^ 63)) || decide (x ≥ 2 ^ 63)) = false) (c1 : (items.isEmpty || x == 1) = false) (c2 : (decide (x ≤ 0) || items.isEmpty) = true) :
    Meets (Builtin.«tuple.__mul__» ⟨[.ref l, .int x u], []⟩) (fun _ R s => s.heap.get? l = some { cls := .type "tuple", dict := dd, data := .seq items n, slots := sl } ∧
      R (.ok (.ret (Value.ref s.heap.objs.size))) { s with heap := s.heap.push { cls := Value.type "tuple", data := Data.seq #[] }, toks := s.toks }) :=
  .of_wp fun prog w A R s h => by
    obtain ⟨hp, g, d, tk, os⟩ := s
    obtain ⟨hl, h⟩ := h
    have f1 := AutoSeq1.idx_int
    wp_walk using wpAny_loadPart' hl
    repeat (first
      | (refine wpAny_ite_false (decide_eq_false (by rw [c0]; exact Bool.false_ne_true)) ?_; wp_walk using wpAny_loadPart' hl)
      | (refine wpAny_ite_false (decide_eq_false (by rw [c1]; exact Bool.false_ne_true)) ?_; wp_walk using wpAny_loadPart' hl)
      | (refine wpAny_ite_true (decide_eq_true (by rw [c2])) ?_; wp_walk using wpAny_loadPart' hl))
    exact ⟨_, rfl, h⟩
def rRepA (K : PySem.W.Frag) : R2 := fun x y H Q => ∃ l k xs, x = .ref l ∧ y = .int k ∧ SqT K H l xs ∧ xs ≠ [] ∧ -1000 ≤ k ∧ k ≤ 1000 ∧ xs.length ≤ 1000 ∧ (k = 1 → Q (.ref l) H) ∧ (k ≠ 1 → ∀ p, H p = none → Q (.ref p) (upd H p (.tup (List.replicate k.toNat xs).flatten)))
section
variable {X : Cx}
theorem op_repA : OpR X (binaryOp .Mult) (rRepA X.K) := by
  intro pins s σ H x y v u Q I rx ry h
  obtain ⟨l, k, xs, rfl, rfl, hT, hne, h1, h2, hz, q1, q⟩ := h
  by_cases h3 : 2 ≤ k
  · exact op_repT pins s σ H _ _ v u Q I rx ry ⟨l, k, xs, rfl, rfl, hT, hne, h3, h2, hz, q (by omega)⟩
  cases rx
  obtain ⟨t, rfl⟩ := ry
  obtain ⟨its, r, ⟨⟨cls, dd, data, sl⟩, ho, hc, n, hd⟩, hs⟩ := I.tuple hT
  simp only at hc hd
  subst hc hd
  have hle : its.length = xs.length := r.length.symm
  have hn : its ≠ [] := fun e => hne (by
    rw [e] at hle
    exact List.eq_nil_of_length_eq_zero hle.symm)
  have hi : its.toArray.isEmpty = false := by
    cases its with
    | nil => exact absurd rfl hn
    | cons a b => rfl
  by_cases h4 : k = 1
  · subst h4
    exact wpAny_binaryOp_repeat_ref (T := "tuple") (U := "int") (by decide) ⟨_, ho, rfl⟩ (fun s' => typeIs_int s' 1 t) noFill_tuple_mul F.fills_int_mul F.slot_int_rmul repeat_tuple F.slot_int_index.lookup
      (call_meets F.slot_int_rmul (typeIs_int s 1 t) F.entry_int_rmul (F.args_int_rmul_2 _ _) (int_rmul_tuple 1 t l its.toArray n dd sl)
        ⟨ho, rfl, ⟨_, ho, rfl⟩, call_meets F.slot_tuple_mul ⟨_, ho, rfl⟩ F.entry_tuple_mul (F.args_tuple_mul_2 _ _) (tuple_mul1 l its.toArray n sl dd t) ⟨ho, .ref l, H, I, rfl, q1 rfl⟩⟩)
  · have c0 : (decide (k < -(2 ^ 63)) || decide (k ≥ 2 ^ 63)) = false := by
      rw [decide_eq_false (by omega), decide_eq_false (by omega)] <;> rfl
    have c1 : (its.toArray.isEmpty || k == 1) = false := by
      rw [hi, Bool.false_or]
      exact beq_eq_false_iff_ne.mpr (by omega)
    have c2 : (decide (k ≤ 0) || its.toArray.isEmpty) = true := by
      rw [decide_eq_true (by omega)]; rfl
    refine wpAny_binaryOp_repeat_ref (T := "tuple") (U := "int") (by decide) ⟨_, ho, rfl⟩ (fun s' => typeIs_int s' k t) noFill_tuple_mul F.fills_int_mul F.slot_int_rmul repeat_tuple F.slot_int_index.lookup
      (call_meets F.slot_int_rmul (typeIs_int s k t) F.entry_int_rmul (F.args_int_rmul_2 _ _) (int_rmul_tuple k t l its.toArray n dd sl)
        ⟨ho, rfl, ⟨_, ho, rfl⟩, call_meets F.slot_tuple_mul ⟨_, ho, rfl⟩ F.entry_tuple_mul (F.args_tuple_mul_2 _ _) (tuple_mul0 l its.toArray n sl dd k t c0 c1 c2) ⟨ho, ?_⟩⟩)
    have e0 : (List.replicate k.toNat xs).flatten = [] := by
      have : k.toNat = 0 := by omega
      rw [this]; rfl
    have q' := q h4
    rw [e0] at q'
    refine ⟨.ref s.heap.objs.size, _, I.laid (t' := s.toks) (o := .tup []) (fun b ob q => Heap.get?_push_of_some _ q) (Nat.le_refl _) ?_, rfl, q' _ (I.hok.fresh (Nat.le_refl _))⟩
    exact ⟨Nat.zero_le _, [], .nil, IsTup.new _ _⟩
end
section
variable {X : Cx} {a b e : Expr} {ta tb te : TE} {da db de : DE} {dl dm : DL} {pos : Pos}
def dRepT (da db : DE) : DE := fun ρ k => da ρ fun x => db ρ fun y => ∃ (xs : List D) (j : Int), x = .tup xs ∧ y = .int j ∧ xs ≠ [] ∧ xs.length ≤ 1000 ∧ -1000 ≤ j ∧ j ≤ 1000 ∧ k (.tup (List.replicate j.toNat xs).flatten)
theorem x_repT (ha : XE X a ta da) (hb : XB X b tb db) : XE X (.BinOp a .Mult b pos) (tOp (rRepA X.K) ta tb) (dRepT da db) := ⟨pe_op op_repA ha.pe hb.pe, fun W B ρ σ H k Q at' d q =>
  ha.ok W B ρ σ H _ _ at' d fun x v H1 a1 g1 r1 k1 => hb.ok W B ρ σ H1 _ _ a1 k1 fun y u H2 a2 g2 r2 ⟨xs, j, ex, ey, h1, h2, h3, h4, kk⟩ => by
    subst ex; subst ey
    obtain rfl := rep_int r2
    obtain ⟨p, vs, rfl, hp, hr⟩ := rep_tup (rep_sub (Gr_cl g2) _ _ r1)
    have hl := reps_len hr
    refine ⟨p, j, vs, rfl, rfl, st_sub cl_sub hp, fun z => h1 (List.eq_nil_of_length_eq_zero (by rw [← hl, z]; rfl)), h3, h4, by rw [hl]; exact h2, fun e1 => ?_, fun _ l hn => ?_⟩
    · subst e1
      have e2 : (List.replicate (Int.toNat 1) xs).flatten = xs := by simp
      rw [e2] at kk
      exact q _ _ _ a2 (g1.trans g2) (tup_rep hp hr) kk
    · exact q _ _ _ (a2.alloc hn) ((g1.trans g2).trans (Gr.of (Sub.new hn))) (tup_rep (.inl (.inl (cl_new hn (a2.new_av hn)))) (reps_sub (cl_grow (Sub.new hn)) _ _ (reps_rep hr _))) kk⟩
/-! ### tuples together -/
def dCatT (da db : DE) : DE := fun ρ k => da ρ fun x => db ρ fun y => ∃ xs ys : List D, x = .tup xs ∧ y = .tup ys ∧ xs.length + ys.length ≤ 10000000 ∧ k (.tup (xs ++ ys))
theorem x_catT (ha : XE X a ta da) (hb : XE X b tb db) : XE X (.BinOp a .Add b pos) (tOp (rCatA X.K) ta tb) (dCatT da db) := ⟨pe_op op_catA ha.pe hb.pe, fun W B ρ σ H k Q at' d q =>
  ha.ok W B ρ σ H _ _ at' d fun x v H1 a1 g1 r1 k1 => hb.ok W B ρ σ H1 _ _ a1 k1 fun y u H2 a2 g2 r2 ⟨xs, ys, ex, ey, h1, kk⟩ => by
    subst ex; subst ey
    obtain ⟨p, vs, rfl, hp, hr⟩ := rep_tup (rep_sub (Gr_cl g2) _ _ r1)
    obtain ⟨p', us, rfl, hp', hr'⟩ := rep_tup r2
    have hl := reps_len hr
    have hl' := reps_len hr'
    refine ⟨p, p', vs, us, rfl, rfl, st_sub cl_sub hp, st_sub cl_sub hp', by rw [hl, hl']; rw [sizeLine_eq]; omega, fun e1 => ?_, fun _ e2 => ?_, fun _ _ l hn => ?_⟩
    · have : xs = [] := List.eq_nil_of_length_eq_zero (by rw [← hl, e1]; rfl)
      subst this
      exact q _ _ _ a2 (g1.trans g2) (tup_rep hp' hr') kk
    · have : ys = [] := List.eq_nil_of_length_eq_zero (by rw [← hl', e2]; rfl)
      subst this
      rw [List.append_nil] at kk
      exact q _ _ _ a2 (g1.trans g2) (tup_rep hp hr) kk
    · exact q _ _ _ (a2.alloc hn) ((g1.trans g2).trans (Gr.of (Sub.new hn))) (tup_rep (.inl (.inl (cl_new hn (a2.new_av hn)))) (reps_sub (cl_grow (Sub.new hn)) _ _ (reps_append hr hr'))) kk⟩
/-! ### slices -/
def cutD (xs : List D) (lo hi : Option Int) : List D := (xs.drop (HT.sIx xs.length 0 lo)).take (HT.sIx xs.length xs.length hi - HT.sIx xs.length 0 lo)
abbrev DO := List Sl → (Option Int → Prop) → Prop
def OOk (K : PySem.W.Frag) (to : TO) (d : DO) : Prop := ∀ (W : Addr → Prop) (B : Hp) (ρ : List Sl) (σ : L2.St) (H : Hp) (k : Option Int → Prop) (Q : Option Int → Hp → Prop), At K W B ρ σ H → d ρ k →
  (∀ i H', At K W B ρ σ H' → Gr ρ H H' → k i → Q i H') → to σ H Q
structure XO (X : Cx) (e : Option Expr) (to : TO) (d : DO) : Prop where
  po : PO X e to
  ok : OOk X.K to d
def dONo : DO := fun _ k => k none
def dOSo (de : DE) : DO := fun ρ k => de ρ fun x => ∃ i : Int, x = .int i ∧ k (some i)
theorem o_no : XO X none tNoPart dONo := ⟨po_none, fun W B ρ σ H k Q at' d q => q none H at' (Gr.refl H) d⟩
theorem o_so (h : XB X e te de) : XO X (some e) (tPart te) (dOSo de) := ⟨po_some h.pe, fun W B ρ σ H k Q at' d q => h.ok W B ρ σ H _ _ at' d fun x v H1 a1 g1 r1 ⟨i, ex, kk⟩ => by
  subst ex
  obtain rfl := rep_int r1
  exact ⟨i, rfl, q _ _ a1 g1 kk⟩⟩
theorem reps_cut {K : PySem.W.Frag} {C : Hp} {ds : List D} {xs : List V} (h : reps K C ds xs) (lo hi : Option Int) : reps K C (cutD ds lo hi) (cutV xs lo hi) := by
  unfold cutD cutV
  rw [reps_len h]
  exact reps_take _ (reps_drop _ h)
variable {lo hi : Option Expr} {tl th : TO} {dlo dhi : DO} {p2 : Pos}
def dSlT (de : DE) (dlo dhi : DO) : DE := fun ρ k => de ρ fun x => dlo ρ fun l => dhi ρ fun h => ∃ ds, x = .tup ds ∧ k (.tup (cutD ds l h))
theorem x_slT (he : XE X e te de) (hl : XO X lo tl dlo) (hh : XO X hi th dhi) : XE X (.Subscript e (.Slice lo hi none p2) pos) (tSl (rSlA X.K) te tl th) (dSlT de dlo dhi) := ⟨pe_slice sl_tupA he.pe hl.po hh.po, fun W B ρ σ H k Q at' d q =>
  he.ok W B ρ σ H _ _ at' d fun x v H1 a1 g1 r1 k1 => hl.ok W B ρ σ H1 _ _ a1 k1 fun l H2 a2 g2 k2 => hh.ok W B ρ σ H2 _ _ a2 k2 fun h H3 a3 g3 ⟨ds, ex, kk⟩ => by
    subst ex
    obtain ⟨p, vs, rfl, hp, hr⟩ := rep_tup (rep_sub (Gr_cl (g2.trans g3)) _ _ r1)
    refine ⟨p, vs, rfl, st_sub cl_sub hp, fun hw => ?_, fun _ l' hn => ?_⟩
    · have e1 : cutD ds l h = ds := by
        unfold cutD
        rw [← reps_len hr, hw.1, hw.2]
        simp [reps_len hr]
      rw [e1] at kk
      exact q _ _ _ a3 (g1.trans (g2.trans g3)) (tup_rep hp hr) kk
    · exact q _ _ _ (a3.alloc hn) ((g1.trans (g2.trans g3)).trans (Gr.of (Sub.new hn))) (tup_rep (.inl (.inl (cl_new hn (a3.new_av hn)))) (reps_sub (cl_grow (Sub.new hn)) _ _ (reps_cut hr l h))) kk⟩
def dSlL (dl : DL) (dlo dhi : DO) : DL := fun ρ k => dl ρ fun ds => dlo ρ fun l => dhi ρ fun h => k (cutD ds l h)
theorem f_slL (he : XLL X e te dl) (hl : XO X lo tl dlo) (hh : XO X hi th dhi) : XF X (.Subscript e (.Slice lo hi none p2) pos) (tSl (rSlL X.K) te tl th) (dSlL dl dlo dhi) := ⟨pe_slice sl_list he.pe hl.po hh.po, fun W B ρ σ H k Q at' d q =>
  he.ok W B ρ σ H _ _ at' d fun ds a xs H1 a1 g1 h1 r1 k1 => hl.ok W B ρ σ H1 _ _ a1 k1 fun l H2 a2 g2 k2 => hh.ok W B ρ σ H2 _ _ a2 k2 fun h H3 a3 g3 kk => by
    have g := g1.trans (g2.trans g3)
    refine ⟨a, xs, rfl, .inl (.inl (of_cl ((Gr_dv (g2.trans g3)) _ _ h1)).1), fun p hn => q _ p _ _ (a3.alloc hn) (g.trans (Gr.of (Sub.new hn))) (Gr.back (W := W) a3 g hn) upd_same (reps_sub (cl_more hn) _ _ (reps_cut (reps_sub (Gr_cl (g2.trans g3)) _ _ r1) l h)) kk⟩⟩
/-! ### in, not in; is True -/
def inI (n : Int) (ns : List Int) : Bool := decide (n ∈ ns)
def dInI (neg : Bool) (da : DE) (dl : DL) : DE := fun ρ k => da ρ fun x => dl ρ fun ys => ∃ (n : Int) (ns : List Int), x = .int n ∧ ys = ns.map D.int ∧ k (.bl (neg ^^ decide (n ∈ ns)))
theorem inV_ints (n : Int) : ∀ ns : List Int, inV (.int n) (ns.map V.int) = decide (n ∈ ns)
  | [] => by simp [inV]
  | m :: ns => by
    have := inV_ints n ns
    unfold inV at this ⊢
    rw [List.map_cons, List.any_cons, this]
    by_cases h : m = n
    · subst h; simp [eqV]
    · have h' : ¬ n = m := fun z => h z.symm
      simp [eqV, h, h']
theorem flat_ints : ∀ ns : List Int, (ns.map V.int).all flatV = true
  | [] => rfl
  | n :: ns => by rw [List.map_cons, List.all_cons, flat_ints ns]; rfl
theorem okIn {K : PySem.W.Frag} {neg : Bool} (ha : BOk K ta da) (hb : LOk K tb dl) : EOk K (tOp (rIn K neg) ta tb) (dInI neg da dl) := fun W B ρ σ H k Q at' d q =>
  ha W B ρ σ H _ _ at' d fun x v H1 a1 g1 r1 k1 => hb W B ρ σ H1 _ _ a1 k1 fun ys u H2 a2 g2 s2 ⟨n, ns, ex, ey, kk⟩ => by
    subst ex; subst ey
    obtain rfl := rep_int r1
    obtain ⟨p, xs, rfl, h1, h2⟩ := s2.out
    have := reps_ints h2
    subst this
    refine ⟨p, _, rfl, h1, rfl, flat_ints ns, q _ _ _ a2 (g1.trans g2) bl_rep ?_⟩
    rw [inV_ints]
    cases neg <;> simpa using kk
theorem x_in (ha : XB X a ta da) (hb : XL X b tb dl) (hm : behindInMarks .In b = false := by with_unfolding_all rfl) : XE X (.Compare a [.In] [b] pos) (tOp (rIn X.K false) ta tb) (dInI false da dl) := ⟨pe_cmpR op_in_seq ha.pe hb.pe hm, okIn ha.ok hb.ok⟩
theorem x_nin (ha : XB X a ta da) (hb : XL X b tb dl) (hm : behindInMarks .NotIn b = false := by with_unfolding_all rfl) : XE X (.Compare a [.NotIn] [b] pos) (tOp (rIn X.K true) ta tb) (dInI true da dl) := ⟨pe_cmpR op_notIn_seq ha.pe hb.pe hm, okIn ha.ok hb.ok⟩
theorem t_in (ha : XB X a ta da) (hb : XL X b tb dl) (hm : behindInMarks .In b = false := by with_unfolding_all rfl) : XT X (.Compare a [.In] [b] pos) (tTest (tOp (rIn X.K false) ta tb)) (dTest (dInI false da dl)) := ⟨pt_cmpR op_in_seq ha.pe hb.pe hm, okTest (okIn ha.ok hb.ok).b⟩
theorem t_nin (ha : XB X a ta da) (hb : XL X b tb dl) (hm : behindInMarks .NotIn b = false := by with_unfolding_all rfl) : XT X (.Compare a [.NotIn] [b] pos) (tTest (tOp (rIn X.K true) ta tb)) (dTest (dInI true da dl)) := ⟨pt_cmpR op_notIn_seq ha.pe hb.pe hm, okTest (okIn ha.ok hb.ok).b⟩
def rIsB : R2 := fun x y H Q => ∃ a b, x = .bl a ∧ y = .bl b ∧ Q (.bl (decide (a = b))) H
def rIsntB : R2 := fun x y H Q => ∃ a b, x = .bl a ∧ y = .bl b ∧ Q (.bl (!decide (a = b))) H
def dIsB (neg b : Bool) (de : DE) : DE := fun ρ k => de ρ fun x => ∃ c, x = .bl c ∧ k (.bl (neg ^^ decide (c = b)))
theorem okIsB {K : PySem.W.Frag} {c : Bool} (h : BOk K te de) : EOk K (tOp rIsB te (tC (.bl c))) (dIsB false c de) := fun W B ρ σ H k Q at' d q => h W B ρ σ H _ _ at' d fun x v H1 a1 g1 r1 ⟨b, e, kk⟩ => by
  subst e
  obtain rfl := rep_bl r1
  exact ⟨b, c, rfl, rfl, q _ _ _ a1 g1 bl_rep (by simpa using kk)⟩
theorem okIsntB {K : PySem.W.Frag} {c : Bool} (h : BOk K te de) : EOk K (tOp rIsntB te (tC (.bl c))) (dIsB true c de) := fun W B ρ σ H k Q at' d q => h W B ρ σ H _ _ at' d fun x v H1 a1 g1 r1 ⟨b, e, kk⟩ => by
  subst e
  obtain rfl := rep_bl r1
  exact ⟨b, c, rfl, rfl, q _ _ _ a1 g1 bl_rep (by simpa using kk)⟩
variable {c : Bool}
theorem x_isB (h : XB X a te de) (hc : PE X b (tC (.bl c))) : XE X (.Compare a [.Is] [b] pos) (tOp rIsB te (tC (.bl c))) (dIsB false c de) := ⟨pe_cmpR op_is_bl h.pe hc (nomark _), okIsB h.ok⟩
theorem x_isntB (h : XB X a te de) (hc : PE X b (tC (.bl c))) : XE X (.Compare a [.IsNot] [b] pos) (tOp rIsntB te (tC (.bl c))) (dIsB true c de) := ⟨pe_cmpR op_isnot_bl h.pe hc (nomark _), okIsntB h.ok⟩
theorem t_isB (h : XB X a te de) (hc : PE X b (tC (.bl c))) : XT X (.Compare a [.Is] [b] pos) (tTest (tOp rIsB te (tC (.bl c)))) (dTest (dIsB false c de)) := ⟨pt_cmpR op_is_bl h.pe hc (nomark _), okTest (okIsB h.ok).b⟩
theorem t_isntB (h : XB X a te de) (hc : PE X b (tC (.bl c))) : XT X (.Compare a [.IsNot] [b] pos) (tTest (tOp rIsntB te (tC (.bl c)))) (dTest (dIsB true c de)) := ⟨pt_cmpR op_isnot_bl h.pe hc (nomark _), okTest (okIsntB h.ok).b⟩
end
end DL

/-! xs[i] += e; isinstance of several classes; the least of (number, word) pairs -/
namespace DL
open PySem PySem.Spec L2 PyProof.Rows
section
variable {X : Cx} {o i e : Expr} {te ti : TE} {de di : DE} {pos tpos : Pos}
def rGetLn : V → V → Hp → VK → Prop := fun x y H Q => ∃ (a : Addr) (xs : List V) (m : Nat) (v : V), x = .ref a ∧ y = .int (m : Int) ∧ H a = some (.lst xs) ∧ xs[m]? = some v ∧ Q v H
theorem get_ln : PGet X rGetLn := by
  intro pins s σ H x y ov iv Q I ro ri h
  obtain ⟨a, xs, m, v, rfl, rfl, ha, hv, q⟩ := h
  cases ro
  obtain ⟨t, rfl⟩ := ri
  obtain ⟨its, r, pl, hz⟩ := I.list (.inl (.inl ha))
  obtain ⟨w, ew, rw'⟩ := r.get hv
  have hl := r.length
  have hn := line63
  have hm : m < xs.length := (List.getElem?_eq_some_iff.mp hv).1
  refine wpAny_getItem_list (k := (m : Int)) pl.isList (by omega) (by omega) (by simpa using ew) ⟨v, H, I, rw', q⟩
def dAugIx (j : Nat) (di de : DE) : DS := fun E ρ => ∃ a ds, ρ[j]? = some (.ol a ds) ∧ di ρ fun y => ∃ (m : Nat) (u : Int), y = .int (m : Int) ∧ ds[m]? = some (.int u) ∧ de ρ fun z => ∃ w : Int, z = .int w ∧ E.nx (ρ.set j (.ol a (ds.set m (.int (u + w)))))
theorem okAugIx {K : PySem.W.Frag} {j : Nat} (hi : BOk K ti di) (he : BOk K te de) : SOk K (tAugS (tVar j) ti te rGetLn (ipI fun i j => i + j) rSetL) (dAugIx j di de) := fun W B ρ σ H E G at' ⟨a, ds, hj, d⟩ nx rt bk ct => by
  obtain ⟨h1, _⟩ := at'.sl j _ hj
  refine ⟨.ref a, h1, hi W B ρ σ H _ _ at' d fun x v H1 a1 g1 r1 ⟨m, u, ex, hm, d2⟩ => ?_⟩
  subst ex
  obtain rfl := rep_int r1
  obtain ⟨q1, xs, q2, q3⟩ := a1.sl j _ hj
  obtain ⟨y, hy, ry⟩ := reps_get q3 hm
  obtain rfl := rep_int ry
  refine ⟨a, xs, m, _, rfl, rfl, q2, hy, he W B ρ σ H1 _ _ a1 d2 fun z w H2 a2 g2 r2 ⟨n, ez, kk⟩ => ?_⟩
  subst ez
  obtain rfl := rep_int r2
  obtain ⟨p1, ys, p2, p3⟩ := a2.sl j _ hj
  have hlt : m < ds.length := (List.getElem?_eq_some_iff.mp hm).1
  exact ⟨u, n, rfl, rfl, a, ys, (m : Int), m, rfl, rfl, p2, by rw [reps_len p3]; exact ixN_nat hlt, nx _ _ _ (a2.updO (s' := .ol a (ds.set m (.int (u + n)))) hj rfl rfl ⟨p1, _, upd_same, reps_set m p3 int_rep⟩) kk⟩
theorem s_augIx {j : Nat} (ho : PE X o (tVar j)) (hi : XB X i ti di) (he : XB X e te de)
    (ha : ∀ ov iv new, augStore i ov iv new = (do holding [new, ov, iv] (setItem ov iv new); release [new, ov, iv] []; pure .next) := by intros; rfl) :
    XS X (.AugAssign (.Subscript o i tpos) .Add e pos) (tAugS (tVar j) ti te rGetLn (ipI fun i j => i + j) rSetL) (dAugIx j di de) := ⟨ps_augS ho hi.pe get_ln he.pe ip_add set_list ha, okAugIx hi.ok he.ok⟩
/-! ### isinstance(e, (A, B)) -/
def dIsI2 (t u : String) (de : DE) : DE := fun ρ k => de ρ fun x => (∀ ns, x ≠ .fz ns) ∧ k (.bl (isInst x.cls t || isInst x.cls u))
variable {p p2 p3 p4 : Pos} {j2 : Nat}
theorem kitAny2 {K : PySem.W.Frag} {c t u : String} (hc : c ∈ ["NoneType", "bool", "int", "str", "list", "tuple", "dict"]) (ht : t ∈ isTypes) (hu : u ∈ isTypes) : PySem.W.kitAny K (.type c) [.type t, .type u] = some (isInst c t || isInst c u) := by
  refine kitAny_cons (kit_ty (kitB_ok c t hc ht)) (fun h => ?_) (fun h => by rw [h]; rfl)
  rw [h, Bool.false_or]
  refine kitAny_cons (kit_ty (kitB_ok c u hc hu)) (fun h' => ?_) (fun h' => h')
  rw [h']; rfl
theorem x_isI2 {t u : String} {nm nm2 : Str} (ht : t ∈ isTypes) (hu : u ∈ isTypes) (hm : X.mg "isinstance" = none) (hmT : X.mg nm = none) (hmU : X.mg nm2 = none) (hvT : bootBuiltins nm = some (.type t)) (hvU : bootBuiltins nm2 = some (.type u)) (h : XB X e te de) (hg : Gl X "isinstance" := by rfl) (hgT : Gl X nm := by rfl) (hgU : Gl X nm2 := by rfl)
    (hdT : (nm == ("__debug__" : Str)) = false := by decide) (hnT : nm ≠ "__name__" := by decide) (hdU : (nm2 == ("__debug__" : Str)) = false := by decide) (hnU : nm2 ≠ "__name__" := by decide)
    (hs : starEach [e, .Tuple [.Name nm p2, .Name nm2 p3] j2 p4] X.env = [(false, eval e X.env), (false, eval (.Tuple [.Name nm p2, .Name nm2 p3] j2 p4) X.env)] := by rfl) (hs2 : starEach [.Tuple [.Name nm p2, .Name nm2 p3] j2 p4] X.env = [(false, eval (.Tuple [.Name nm p2, .Name nm2 p3] j2 p4) X.env)] := by rfl)
    (hs3 : starEach [.Name nm p2, .Name nm2 p3] X.env = [(false, eval (.Name nm p2) X.env), (false, eval (.Name nm2 p3) X.env)] := by rfl) (hs4 : starEach [.Name nm2 p3] X.env = [(false, eval (.Name nm2 p3) X.env)] := by rfl) :
    XE X (.Call (.Name "isinstance" p) [e, .Tuple [.Name nm p2, .Name nm2 p3] j2 p4] [] pos) (tCB (rIsiT X.K) (tCons te (tCons (tTup (tCons (tC (.ty t)) (tCons (tC (.ty u)) tNil))) tNil))) (dIsI2 t u de) :=
  ⟨pe_callB call_isiT hg hm (by decide +kernel) (pa_cons h.pe (pa_cons (pe_tup (pa_cons (pe_bltn (v := .ty t) hgT hmT hvT rfl hnT hdT) (pa_cons (pe_bltn (v := .ty u) hgU hmU hvU rfl hnU hdU) pa_nil hs4) (by rw [hs3, hs4]))) pa_nil hs2) (by rw [hs, hs2])) (he := by rw [hs, hs2]) (hpl := by rw [hs2]; rfl), fun W B ρ σ H k Q at' d q =>
    h.ok W B ρ σ H _ _ at' d fun x v H1 a1 g1 r1 ⟨hz, kk⟩ => by
      refine ⟨by rw [sizeLine_eq]; simp, fun l hn => ?_⟩
      refine ⟨v, l, [.ty t, .ty u], .type x.cls, [.type t, .type u], isInst x.cls t || isInst x.cls u, rfl, upd_same, .cons (.ty t) (.cons (.ty u) .nil), tyX_of (Sub.trans cl_sub (Sub.new hn)) hz r1, kitAny2 (cls_mem x) ht hu, q _ _ _ (a1.alloc hn) (g1.trans (Gr.of (Sub.new hn))) bl_rep kk⟩⟩
end
end DL

/-! zip of two tuples; a, b = x, y by way of a tuple, new lists owned -/
namespace DL
open PySem PySem.Spec L2 PyProof.Rows RZ
section
variable {K : PySem.W.Frag}
theorem walk_zipT {a b : Addr} {xs ys : List V} {n : Nat} (hn : n = min xs.length ys.length) : Walk (ItzT K a b) n (fun H => SqT K H a xs ∧ SqT K H b ys) (YPair (fun i => xs[i]?) (fun i => ys[i]?)) := by
  subst hn
  refine ⟨fun i _ hi q => ?_, fun _ q => ⟨xs, ys, q.1, q.2, by omega⟩, fun i H v H' _ q y => ?_⟩
  · have h1 : i < xs.length := by omega
    have h2 : i < ys.length := by omega
    exact ⟨xs, ys, xs[i], ys[i], q.1, q.2, by simp [h1], by simp [h2]⟩
  · obtain ⟨T, x, z, h1, h2, h3, h4, h5⟩ := y
    exact ⟨T, x, z, h1, h2, h3, h4 xs q.1, h5 ys q.2⟩
theorem it_zipT {C : Hp} {a b : Addr} {xs ys : List V} {ds es : List D} (h : SqT K C a xs) (h' : SqT K C b ys) (r : reps K C ds xs) (r' : reps K C es ys) : ItOk K C (ItzT K a b) (zipD ds es) := by
  refine ⟨fun H => SqT K H a xs ∧ SqT K H b ys, YPair (fun i => xs[i]?) (fun i => ys[i]?), walk_zipT (by unfold zipD; rw [List.length_zipWith, reps_len r, reps_len r']), fun H s => ⟨st_sub s h, st_sub s h'⟩, fun i H x H' d hd y N hN s => ?_⟩
  obtain ⟨T, x1, x2, e1, hT, e2, e3, e4⟩ := y
  subst e1; subst e2
  unfold zipD at hd
  rw [List.getElem?_zipWith] at hd
  cases q : ds[i]? with
  | none => rw [q] at hd; cases hd
  | some dd =>
    cases q' : es[i]? with
    | none => rw [q, q'] at hd; cases hd
    | some ee =>
      rw [q, q'] at hd; cases hd
      obtain ⟨y, h1, h2⟩ := reps_get r q
      obtain ⟨y', h3, h4⟩ := reps_get r' q'
      have z1 : xs[i]? = some x1 := e3
      have z2 : ys[i]? = some x2 := e4
      rw [z1] at h1; cases h1
      rw [z2] at h3; cases h3
      exact pair_new hN hT (rep_sub s dd _ h2) (rep_sub s ee _ h4)
def dZipT (da db : DE) : DL := fun ρ k => da ρ fun x => db ρ fun y => ∃ ds es, x = .tup ds ∧ y = .tup es ∧ k (zipD ds es)
theorem okZipT {ta tb : TE} {da db : DE} (ha : EOk K ta da) (hb : EOk K tb db) : IOk K (iZipA K (tCons ta (tCons tb tNil))) (dZipT da db) := fun W B ρ σ H k R at' d q =>
  ha W B ρ σ H _ _ at' d fun x v H1 a1 g1 r1 k1 => hb W B ρ σ H1 _ _ a1 k1 fun y u H2 a2 g2 r2 ⟨ds, es, e1, e2, kk⟩ => by
    subst e1; subst e2
    obtain ⟨a, xs, rfl, h2, h3⟩ := rep_tup (rep_sub (Gr_cl g2) _ _ r1)
    obtain ⟨b, ys, rfl, h4, h5⟩ := rep_tup r2
    exact ⟨a, b, xs, ys, rfl, .inr ⟨st_sub cl_sub h2, st_sub cl_sub h4, q _ _ _ a2 (g1.trans g2) (it_zipT h2 h4 h3 h5) kk⟩⟩
end
section
variable {X : Cx} {e e2 : Expr} {te tf : TE} {de df : DE} {pos p tpos : Pos} {elts : List Expr} {kk : Nat}
theorem i_zipT (hm : X.mg "zip" = none) (h : XE X e te de) (h' : XE X e2 tf df) (hg : Gl X "zip" := by rfl) (hs : starEach [e, e2] X.env = [(false, eval e X.env), (false, eval e2 X.env)] := by rfl) (hs2 : starEach [e2] X.env = [(false, eval e2 X.env)] := by rfl) :
    XI X (.Tuple elts kk tpos) (.Call (.Name "zip" p) [e, e2] [] pos) (iZipA X.K (tCons te (tCons tf tNil))) (dZipT de df) := ⟨pi_zipA hg hm (pa_cons h.pe (pa_cons h'.pe pa_nil hs2) (by rw [hs, hs2])) (by rw [hs, hs2]) (by rw [hs2]; rfl), okZipT h.ok h'.ok⟩
end
section
variable {ta tb : TE} {dv dw : DV}
theorem okAsgV {K : PySem.W.Frag} {i j : Nat} (hij : i ≠ j) (h : VOk K ta dv) (h' : VOk K tb dw) : SOk K (tAsg (tTup (tCons ta (tCons tb tNil))) (gTup K 2 (gCons (gName i) (gCons (gName j) gNil)))) (dPar i j dv dw) := fun W B ρ σ H E G at' ⟨nd, d⟩ nx rt bk ct =>
  h W B ρ σ H _ _ at' d fun vv v H1 a1 g1 r1 k1 => by
    have low : ∀ (s : Sl) (x : Option V) (H2 : Hp) (w : V) (ww : VV), Gr ρ H1 H2 → At K W B (ρ.set i s) (σ.set i x) H1 → At K W B (ρ.set i s) (σ.set i x) H2 → VRel K W (ρ.set i s) H1 H2 w ww → ww.put j (ρ.set i s) E.nx → ∀ (q : Addr) (o : HO), H2 q = none → G.nx ((σ.set i x).set j (some w)) (upd H2 q o) := fun s x H2 w ww g2 b1 b2 r k q o hq => by
      obtain ⟨ρ', a3, n3, _⟩ := b1.put (fun b o n e => g2 b o (fun ⟨c, z⟩ => n (by
        obtain ⟨l, hl⟩ := mem_get z
        have : i ≠ l := fun q => by subst q; exact nd b c hl
        exact ⟨c, List.mem_of_getElem? (i := l) (by rw [List.getElem?_set_ne this]; exact hl)⟩)) e) b2 r k
      exact nx ρ' _ _ (a3.alloc hq) n3
    cases vv with
    | c d =>
      refine h' W B ρ σ H1 _ _ a1 k1 fun ww w H2 a2 g2 r2 k2 => ⟨by rw [sizeLine_eq]; simp, fun q hq => ⟨q, [v, w], rfl, .inl (.inl upd_same), rfl, v, [w], rfl, w, [], rfl, rfl, ?_⟩⟩
      have m : ∀ b, Av W (ρ.set i (.da d)) b → Av W ρ b := fun b z => av_less (fun t ht a e => by
        rcases mem_set ht with q | q
        · subst q; cases e
        · exact q) z
      refine low (.da d) (some v) H2 w ww g2 (a1.setD r1) (a2.setD (rep_sub (Gr_cl g2) d v r1)) ?_ k2 q _ hq
      cases ww with
      | c d' => exact rep_sub (cl_mono fun b o e n => ⟨e, fun z => n (m b z)⟩) d' w r2
      | f ds =>
        obtain ⟨p, xs, e, hp, hp', r⟩ := r2
        exact ⟨p, xs, e, hp, hp', reps_sub (cl_mono fun b o e n => ⟨e, fun z => n (z.imp (m b) id)⟩) ds xs r⟩
    | f ds =>
      obtain ⟨p, xs, rfl, hp, hp', r⟩ := r1
      have bp : B p = none := by
        cases e : B p with
        | none => rfl
        | some o => rw [at'.kp p o e] at hp; cases hp
      refine h' (fun b => W b ∨ b = p) (upd B p (.lst xs)) ρ σ H1 _ _ (at'.hide hp g1 a1 hp') k1 fun ww w H2 a2 g2 r2 k2 => ⟨by rw [sizeLine_eq]; simp, fun q hq => ⟨q, [.ref p, w], rfl, .inl (.inl upd_same), rfl, .ref p, [w], rfl, w, [], rfl, rfl, ?_⟩⟩
      have a2' : At K W B ρ σ H2 := a2.unhide (Sub.new bp) (fun x z => .inl z) at'.wd
      have npd : ¬ Dv ρ p := fun z => at'.new_av hp (dr_av z)
      have m : ∀ b, Av W (ρ.set i (.ol p ds)) b → Av (fun b => W b ∨ b = p) ρ b := fun b z => by
        rcases z with z | ⟨t, ht, e⟩
        · exact .inl (.inl z)
        · rcases mem_set ht with q | q
          · subst q; cases e; exact .inl (.inr rfl)
          · exact .inr ⟨t, q, e⟩
      refine low (.ol p ds) _ H2 w ww g2 (at'.setO hp g1 a1 (s := .ol p ds) rfl ⟨rfl, xs, hp', r⟩) (at'.setO hp (g1.trans g2) a2' (s := .ol p ds) rfl ⟨rfl, xs, g2 p _ npd hp', reps_sub (cl_mono fun b o e n => ⟨g2 b o (fun z => n (.inl (dr_av z))) e, n⟩) ds xs r⟩) ?_ (k2 p) q _ hq
      cases ww with
      | c d' => exact rep_sub (cl_mono fun b o e n => ⟨e, fun z => n (m b z)⟩) d' w r2
      | f es =>
        obtain ⟨p', xs', e, hq, hq', r⟩ := r2
        exact ⟨p', xs', e, hq, hq', reps_sub (cl_mono fun b o e n => ⟨e, fun z => n (z.imp (m b) id)⟩) es xs' r⟩
end
section
variable {X : Cx} {a b : Expr} {ta tb : TE} {dv dw : DV} {pos : Pos}
theorem s_asgV {i j : Nat} {x y : Str} {px py pt : Pos} {kt k2 : Nat} {pt2 : Pos} (hc : X.calm = true) (hN : X.N.Nodup) (hi : X.N[i]? = some x) (hj : X.N[j]? = some y) (hij : i ≠ j)
    (ha : XV X a ta dv) (hb : XV X b tb dw) (hx : Loc X.env.scope x := by first | exact .inl rfl | exact .inr rfl) (hfx : X.fn x = true ∨ X.env.scope.names.lookup x = some .local := by first | exact .inl rfl | exact .inr rfl)
    (hy : Loc X.env.scope y := by first | exact .inl rfl | exact .inr rfl) (hfy : X.fn y = true ∨ X.env.scope.names.lookup y = some .local := by first | exact .inl rfl | exact .inr rfl)
    (hs1 : starEach [a, b] X.env = [(false, eval a X.env), (false, eval b X.env)] := by rfl) (hs2 : starEach [b] X.env = [(false, eval b X.env)] := by rfl)
    (hw : swappedStores [.Tuple [.Name x px, .Name y py] kt pt] (.Tuple [a, b] k2 pt2) X.env = pure none := by rfl)
    (hs : swapsWithSole [.Tuple [.Name x px, .Name y py] kt pt] (.Tuple [a, b] k2 pt2) pos.line X.env = pure false := by rfl)
    (h1 : (assignEach [.Tuple [.Name x px, .Name y py] kt pt] X.env).map (·.2) = [assign (.Tuple [.Name x px, .Name y py] kt pt) X.env] := by rfl)
    (hn : (assignEach [.Name x px, .Name y py] X.env).length = 2 := by rfl) (hst : (assignEach [.Name x px, .Name y py] X.env).findIdx? (·.1) = none := by rfl)
    (hc1 : (assignEach [.Name x px, .Name y py] X.env).map (·.2) = assign (.Name x px) X.env :: (assignEach [.Name y py] X.env).map (·.2) := by rfl)
    (hc2 : (assignEach [.Name y py] X.env).map (·.2) = assign (.Name y py) X.env :: (assignEach [] X.env).map (·.2) := by rfl) :
    XS X (.Assign [.Tuple [.Name x px, .Name y py] kt pt] (.Tuple [a, b] k2 pt2) pos) (tAsg (tTup (tCons ta (tCons tb tNil))) (gTup X.K 2 (gCons (gName i) (gCons (gName j) gNil)))) (dPar i j dv dw) :=
  ⟨ps_asg (pe_tup (pa_cons ha.pe (pa_cons hb.pe pa_nil hs2) (by rw [hs1, hs2]))) (pg_tup hc (pgs_cons (pg_name hN hi hx hfx) (pgs_cons (pg_name hN hj hy hfy) pgs_nil hc2) hc1) hn hst) hs hw h1, okAsgV hij ha.ok hb.ok⟩
end
end DL

/-! the least of a list of words, of pairs of a number and a word -/
namespace DL
open PySem PySem.Spec L2 PyProof.Rows
section
variable {prog : Program} {w : World} {A : Around} {E : Value → Shared → Prop} {s : Shared}
theorem lt_ky {v u : Value} {sh : Nat} {ks ls : List Int} (h1 : KyH s.heap sh v ks) (h2 : KyH s.heap sh u ls) (hu : A.units + 8 < cLine) : Ob.RcOp .Lt A s v u (lexL ks ls) := by
  cases sh with
  | zero => exact lt_tups h1.1 h2.1 (by omega)
  | succ m =>
    obtain ⟨n, t, ns, a, xs, x, e, it, ex, tu, ek⟩ := h1
    obtain ⟨n', t', ns', a', xs', x', e', it', ex', tu', ek'⟩ := h2
    subst e; subst e'; subst ek; subst ek'
    have l1 : xs.size = 2 := by rw [← Array.length_toList, ex]; rfl
    have l2 : xs'.size = 2 := by rw [← Array.length_toList, ex']; rfl
    have g0 : ∀ h, xs[0]'h = .int n t := fun h => by
      have : xs.toList[0]? = some (.int n t) := by rw [ex]; rfl
      rw [Array.getElem?_toList] at this
      exact (Array.getElem?_eq_some_iff.mp this).2
    have g1 : ∀ h, xs[1]'h = x := fun h => by
      have : xs.toList[1]? = some x := by rw [ex]; rfl
      rw [Array.getElem?_toList] at this
      exact (Array.getElem?_eq_some_iff.mp this).2
    have f0 : ∀ h, xs'[0]'h = .int n' t' := fun h => by
      have : xs'.toList[0]? = some (.int n' t') := by rw [ex']; rfl
      rw [Array.getElem?_toList] at this
      exact (Array.getElem?_eq_some_iff.mp this).2
    have f1 : ∀ h, xs'[1]'h = x' := fun h => by
      have : xs'.toList[1]? = some x' := by rw [ex']; rfl
      rw [Array.getElem?_toList] at this
      exact (Array.getElem?_eq_some_iff.mp this).2
    have R := Ob.RcOp.tuples_lt (A := A) (s := s) (e := fun j => if j = 0 then decide (n = n') else decide (ns = ns')) (r := fun j => if j = 0 then decide (n < n') else lexL ns ns') it it' (by omega) (fun j h1 h2 => by
      have : j = 0 ∨ j = 1 := by omega
      rcases this with rfl | rfl
      · rw [g0, f0, if_pos rfl]
        have z : (n == n') = decide (n = n') := by
          by_cases q : n = n'
          · rw [decide_eq_true q]; exact beq_iff_eq.mpr q
          · rw [decide_eq_false q]; exact beq_eq_false_iff_ne.mpr q
        rw [← z]
        exact SeqAt.EqAt.int_int _ _ _ _
      · rw [g1, f1, if_neg (by decide)]
        exact eq_tups tu tu' (by simp only [Around.in1_units]; omega)) (fun j h1 h2 _ => by
      have : j = 0 ∨ j = 1 := by omega
      rcases this with rfl | rfl
      · rw [g0, f0, if_pos rfl]
        exact Ob.RcOp.lt_int _ _ _ _
      · rw [g1, f1, if_neg (by decide)]
        exact lt_tups tu tu' (by simp only [Around.in1_units]; omega))
    rw [l1, l2] at R
    have er : Ob.lexAt (fun j => if j = 0 then decide (n = n') else decide (ns = ns')) (fun j => if j = 0 then decide (n < n') else lexL ns ns') (decide (2 < 2)) 0 (min 2 2) = lexL (n :: ns) (n' :: ns') := by
      show Ob.lexAt _ _ _ 0 2 = _
      rw [Ob.lexAt_succ, Ob.lexAt_succ, Ob.lexAt_zero]
      by_cases q : n = n'
      · subst q
        rw [lexL_same]
        by_cases q2 : ns = ns'
        · subst q2; simp [lexL_irr]
        · simp [q2]
      · rw [lexL_ne q]
        simp [q]
    rw [er] at R
    exact R
theorem argBest_lex (num : Nat → List Int) : ∀ k, argBest (fun i j => lexL (num i) (num j)) k ≤ k ∧ ∀ j, j ≤ k → lexL (num j) (num (argBest (fun i j => lexL (num i) (num j)) k)) = false
  | 0 => ⟨Nat.le_refl _, fun j hj => by
    have : j = 0 := by omega
    subst this; exact lexL_irr _⟩
  | k + 1 => by
    obtain ⟨h1, h2⟩ := argBest_lex num k
    simp only [argBest]
    by_cases hc : lexL (num (k + 1)) (num (argBest (fun i j => lexL (num i) (num j)) k)) = true
    · rw [if_pos hc]
      refine ⟨Nat.le_refl _, fun j hj => ?_⟩
      rcases Nat.lt_or_ge j (k + 1) with q | q
      · have h3 := h2 j (by omega)
        exact lexL_tr _ _ _ (lexL_asym _ _ hc) h3
      · have : j = k + 1 := by omega
        subst this; exact lexL_irr _
    · rw [if_neg hc]
      refine ⟨by omega, fun j hj => ?_⟩
      rcases Nat.lt_or_ge j (k + 1) with q | q
      · exact h2 j (by omega)
      · have : j = k + 1 := by omega
        subst this
        cases e : lexL (num (k + 1)) (num (argBest (fun i j => lexL (num i) (num j)) k)) with
        | false => rfl
        | true => exact absurd e hc
theorem min_ky {l : Addr} {vs : List Value} {sh : Nat} {k : Value → List Int} {Q : Value → Shared → Prop} (hh : A.handled = none) (hu : A.units + 16 < cLine) (hl : s.heap.IsList l vs.toArray) (hne : 0 < vs.length) (hp : ∀ v ∈ vs, KyH s.heap sh v (k v))
    (h : ∀ v h' tk, v ∈ vs → (∀ u ∈ vs, lexL (k u) (k v) = false) → (∀ b o, s.heap.get? b = some o → h'.get? b = some o) → Q v { s with heap := h', toks := tk }) :
    wpAny (model prog w) A (call (.builtin "min") [.ref l]) Q E s := by
  obtain ⟨ol, go, hcl⟩ := id hl
  have lt : l < s.heap.objs.size := Heap.lt_size go
  refine PySem.call_min_walkH (wpAny_pyIter_list hl ?_)
  have hl1 : (s.heap.push { cls := .type "list_iterator", data := .fields #[.ref l, .int 0 0] }).IsList l vs.toArray := hl.push _
  have hsz : (s.heap.push { cls := .type "list_iterator", data := .fields #[.ref l, .int 0 0] }).objs.size = s.heap.objs.size + 1 := Heap.size_push ..
  refine ⟨s.heap.objs.size, _, _, _, _, _, _, s.heap, fun i j => lexL (k (vs.getD i .none)) (k (vs.getD j .none)), rfl, (Walks.list (A := A.in1) hh _ l (Nat.ne_of_lt lt) vs.toArray).toS, ⟨⟨_, Heap.get?_push_size _ rfl, rfl, rfl⟩, hl1⟩, fun b hb => ?_, by simpa using hne, fun b o e hb => ?_, fun b o e => Heap.get?_push_of_some _ e, ?_, ?_⟩
  · show b < _
    rw [show ({ s with heap := s.heap.push { cls := Value.type "list_iterator", data := Data.fields #[Value.ref l, Value.int 0 0] } } : Shared).heap.objs.size = s.heap.objs.size + 1 from hsz]
    simp only [List.mem_cons, List.not_mem_nil, or_false] at hb
    rcases hb with q | q
    · rw [q]; exact Nat.lt_succ_self _
    · rw [q]; exact Nat.lt_succ_of_lt lt
  · have := Heap.lt_size e
    rw [List.mem_singleton.mp hb] at this
    exact absurd this (Nat.lt_irrefl _)
  · intro i j vi vj s2 Q2 E2 hk hi hj q
    have m : ∀ {i : Nat} {v : Value}, vs.toArray[i]? = some v → v ∈ vs ∧ vs.getD i .none = v := fun {i v} e => by
      have e : vs[i]? = some v := by simpa using e
      exact ⟨List.mem_of_getElem? e, by simp [List.getD_eq_getElem?_getD, e]⟩
    obtain ⟨m1, e1⟩ := m hi
    obtain ⟨m2, e2⟩ := m hj
    have k1 : KyH s2.heap sh vi (k vi) := (hp vi m1).keeps fun b o e _ => hk b o e
    have k2 : KyH s2.heap sh vj (k vj) := (hp vj m2).keeps fun b o e _ => hk b o e
    refine lt_ky k1 k2 (A := A.in1) (by simp only [Around.in1_units]; omega) _ _ _ _ ?_
    have q : Q2 (.bool (lexL (k (vs.getD i .none)) (k (vs.getD j .none)))) s2 := q
    rw [e1, e2] at q
    exact q
  · intro v s' hv hm
    obtain ⟨h1, h2⟩ := argBest_lex (fun i => k (vs.getD i .none)) (vs.toArray.size - 1)
    have e : vs[argBest (fun i j => lexL (k (vs.getD i .none)) (k (vs.getD j .none))) (vs.toArray.size - 1)]? = some v := by simpa using hv
    have eg : vs.getD (argBest (fun i j => lexL (k (vs.getD i .none)) (k (vs.getD j .none))) (vs.toArray.size - 1)) .none = v := by rw [List.getD_eq_getElem?_getD, e]; rfl
    obtain ⟨h', g', d', tk', os'⟩ := s'
    have e1 : g' = s.gens := hm.gens
    have e2 : d' = s.drawn := hm.drawn
    have e3 : os' = s.os := hm.os
    subst e1; subst e2; subst e3
    refine h v h' tk' (List.mem_of_getElem? e) (fun u hu' => ?_) fun b o e => hm.heap b o ?_ (Heap.get?_push_of_some _ e)
    · obtain ⟨j, hj, rfl⟩ := List.getElem_of_mem hu'
      have := h2 j (by simp; omega)
      rw [eg] at this
      have e4 : vs.getD j .none = vs[j] := by simp [List.getD_eq_getElem?_getD, hj]
      rw [e4] at this
      exact this
    · intro hb
      have := Heap.lt_size e
      rw [List.mem_singleton.mp hb] at this
      exact absurd this (Nat.lt_irrefl _)
end
section
variable {X : Cx}
def rMinK (K : PySem.W.Frag) (sh : Nat) : List V → Hp → VK → Prop := fun vs H Q => ∃ (a : Addr) (zs : List ZK), vs = [V.ref a] ∧ SqL K H a (zs.map zkV) ∧ (∀ z ∈ zs, KyV K H sh z.1 z.2) ∧ 0 < zs.length ∧
  ∀ z ∈ zs, (∀ y ∈ zs, lexL y.2 z.2 = false) → Q (zkV z) H
theorem cr_minK {sh : Nat} (hc : X.calm = true) (hu : X.A.units + 64 < cLine) : CallR X (.builtin "min") (rMinK X.K sh) := by
  intro pins s σ H vs us Q I r ⟨a, zs, ev, hs, ht, hne, q⟩
  subst ev
  obtain ⟨its, rv, hl, hz⟩ := I.list hs
  rw [Vals.ref1 r]
  have e := vals_zk rv
  subst e
  have hk : ∀ z ∈ zs, zkK zs (.ref z.1) = z.2 := fun z hm => by
    show ((zs.find? fun z' => decide (z'.1 = z.1)).map (·.2)).getD [] = z.2
    cases f : zs.find? fun z' => decide (z'.1 = z.1) with
    | none =>
      have := List.find?_eq_none.mp f z hm
      simp at this
    | some z' =>
      have h1 : z'.1 = z.1 := by simpa using List.find?_some f
      have h2 := List.mem_of_find?_eq_some f
      have h3 := ht z' h2
      rw [h1] at h3
      exact ky_inj I h3 (ht z hm)
  refine min_ky (sh := sh) (k := zkK zs) (I.ok.hd hc) (by omega) hl.isList (by rw [List.length_map]; exact hne) (fun v hv => ?_) fun v h' tk hm hle hk' => ?_
  · obtain ⟨z, hm, rfl⟩ := List.mem_map.mp hv
    rw [hk z hm]
    exact ky_heap I (ht z hm)
  · obtain ⟨z, hz1, rfl⟩ := List.mem_map.mp hm
    refine ⟨zkV z, H, I.kept hk', rfl, q z hz1 fun y hy => ?_⟩
    have := hle (.ref y.1) (List.mem_map.mpr ⟨y, hy, rfl⟩)
    rw [hk y hy, hk z hz1] at this
    exact this
variable {e : Expr} {te : TE} {dl : DL} {p pos : Pos} {sh : Nat}
def dMinK (sh : Nat) (dl : DL) : DE := fun ρ k => dl ρ fun x => ∃ kss : List (List Int), x = kss.map (kyD sh) ∧ (∀ ks ∈ kss, ks ≠ []) ∧ 0 < kss.length ∧ ∀ m ∈ kss, (∀ y ∈ kss, lexL y m = false) → k (kyD sh m)
theorem x_minK (hc : X.calm = true) (hu : X.A.units + 64 < cLine) (hm : X.mg "min" = none) (h : XLL X e te dl) (hg : Gl X "min" := by rfl) (hs : starEach [e] X.env = [(false, eval e X.env)] := by rfl) : XE X (.Call (.Name "min" p) [e] [] pos) (tCB (rMinK X.K sh) (tCons te tNil)) (dMinK sh dl) :=
  ⟨pe_callB (cr_minK hc hu) hg hm (by decide +kernel) (pa_cons h.pe pa_nil hs) (he := hs), fun W B ρ σ H k Q at' d q =>
  h.ok W B ρ σ H _ _ at' d fun ds l xs H1 a1 g1 hl r1 ⟨kss, ex, hne, h0, kk⟩ => by
    subst ex
    obtain ⟨zs, rfl, e2, h3⟩ := reps_ky hne r1
    refine ⟨l, zs, rfl, .inl (.inl (of_cl hl).1), fun z hz => (h3 z hz).sub cl_sub, by rw [← e2, List.length_map] at h0; exact h0, fun z hz hle => ?_⟩
    refine q (kyD sh z.2) _ H1 a1 g1 (ky_rep (h3 z hz)) (kk z.2 (by rw [← e2]; exact List.mem_map_of_mem hz) fun y hy => ?_)
    rw [← e2] at hy
    obtain ⟨z', hz', rfl⟩ := List.mem_map.mp hy
    exact hle z' hz'⟩
end
end DL

/-! math.comb, a name taken in from its module. -/
namespace DL
open PySem PySem.Spec PyProof.Rows L2
def rComb : List V → Hp → VK → Prop := fun vs H Q => ∃ a b : Int, vs = [.int a, .int b] ∧ 0 ≤ a ∧ 0 ≤ b ∧ a ≤ 18000 ∧ Q (.int (PySem.W.mcComb a b)) H
section
variable {X : Cx} {a b : Expr} {ta tb : TE} {da db : DE} {p pos : Pos} {K : PySem.W.Frag}
theorem cr_comb : CallR X (.builtin "math.comb") rComb := by
  intro pins s σ H vs us Q I r h
  obtain ⟨a, b, rfl, h1, h2, h3, q⟩ := h
  obtain ⟨t, u, rfl⟩ := Vals.int2 r
  exact PySem.W.mc_comb h1 h2 (by omega) (.inr h3) fun _ => ⟨.int _, H, I.tok _, ⟨_, rfl⟩, q⟩
def dComb (da db : DE) : DE := fun ρ k => da ρ fun x => db ρ fun y => ∃ i j : Int, x = .int i ∧ y = .int j ∧ 0 ≤ i ∧ 0 ≤ j ∧ i ≤ 18000 ∧ k (.int (PySem.W.mcComb i j))
theorem okComb (ha : BOk K ta da) (hb : BOk K tb db) : EOk K (tCB rComb (tCons ta (tCons tb tNil))) (dComb da db) := fun W B ρ σ H k Q at' d q =>
  two ha hb at' d fun x y v u H' a' gr r1 r2 ⟨i, j, e1, e2, h1, h2, h3, kk⟩ => by
    subst e1; subst e2
    obtain rfl := rep_int r1
    obtain rfl := rep_int r2
    exact ⟨i, j, rfl, h1, h2, h3, q _ _ _ a' gr int_rep kk⟩
theorem x_comb (hm : X.mg "comb" = some (.builtin "math.comb")) (ha : XB X a ta da) (hb : XB X b tb db) (hg : Gl X "comb" := by rfl) (hs : starEach [a, b] X.env = [(false, eval a X.env), (false, eval b X.env)] := by rfl) (hs2 : starEach [b] X.env = [(false, eval b X.env)] := by rfl) :
    XE X (.Call (.Name "comb" p) [a, b] [] pos) (tCB rComb (tCons ta (tCons tb tNil))) (dComb da db) :=
  ⟨pe_callBfun cr_comb hg hm (pa_cons ha.pe (pa_cons hb.pe pa_nil hs2) (by rw [hs, hs2])) (he := by rw [hs, hs2]) (hpl := by rw [hs2]; rfl), okComb ha.ok hb.ok⟩
end
end DL

namespace M
open PySem PySem.Spec L2 DL
def topS (i : Nat) : Stmt := PySem.Challenge.pw_nimfield_k85_across_powers_and_duals.main.body.getD i (.Pass ⟨0, 0, 0, 0⟩)
abbrev s_is_whole : Stmt := topS 15
theorem sc_is_whole : FnScope ["thing"] ["thing"] (defScope s_is_whole) := ⟨rfl, rfl, rfl, by decide +kernel, rfl, by decide +kernel, by decide +kernel⟩
abbrev s_is_number_of : Stmt := topS 16
theorem sc_is_number_of : FnScope ["thing"] ["thing"] (defScope s_is_number_of) := ⟨rfl, rfl, rfl, by decide +kernel, rfl, by decide +kernel, by decide +kernel⟩
abbrev s_refuse : Stmt := topS 17
theorem sc_refuse : FnScope ["word"] ["word"] (defScope s_refuse) := ⟨rfl, rfl, rfl, by decide +kernel, rfl, by decide +kernel, by decide +kernel⟩
abbrev s_need_number : Stmt := topS 18
theorem sc_need_number : FnScope ["number", "word"] ["number", "word"] (defScope s_need_number) := ⟨rfl, rfl, rfl, by decide +kernel, rfl, by decide +kernel, by decide +kernel⟩
abbrev s_need_level : Stmt := topS 19
theorem sc_need_level : FnScope ["level"] ["level"] (defScope s_need_level) := ⟨rfl, rfl, rfl, by decide +kernel, rfl, by decide +kernel, by decide +kernel⟩
abbrev s_in_level : Stmt := topS 20
theorem sc_in_level : FnScope ["level", "number"] ["level", "number"] (defScope s_in_level) := ⟨rfl, rfl, rfl, by decide +kernel, rfl, by decide +kernel, by decide +kernel⟩
abbrev s_need_in : Stmt := topS 21
theorem sc_need_in : FnScope ["level", "number", "word"] ["level", "number", "word"] (defScope s_need_in) := ⟨rfl, rfl, rfl, by decide +kernel, rfl, by decide +kernel, by decide +kernel⟩
abbrev s_level_by : Stmt := topS 22
theorem sc_level_by : FnScope ["number", "level", "size"] ["number"] (defScope s_level_by) := ⟨rfl, rfl, rfl, by decide +kernel, rfl, by decide +kernel, by decide +kernel⟩
abbrev s_times_by : Stmt := topS 24
theorem sc_times_by : FnScope ["one", "other"] ["one", "other"] (defScope s_times_by) := ⟨rfl, rfl, rfl, by decide +kernel, rfl, by decide +kernel, by decide +kernel⟩
abbrev s_times_within : Stmt := topS 25
theorem sc_times_within : FnScope ["level", "one", "other", "root", "high", "low", "late", "near", "tops", "ends", "both"] ["level", "one", "other"] (defScope s_times_within) := ⟨rfl, rfl, rfl, by decide +kernel, rfl, by decide +kernel, by decide +kernel⟩
abbrev s_power_by : Stmt := topS 26
theorem sc_power_by : FnScope ["number", "exponent", "found", "base", "left"] ["number", "exponent"] (defScope s_power_by) := ⟨rfl, rfl, rfl, by decide +kernel, rfl, by decide +kernel, by decide +kernel⟩
abbrev s_inverse_by : Stmt := topS 27
theorem sc_inverse_by : FnScope ["number"] ["number"] (defScope s_inverse_by) := ⟨rfl, rfl, rfl, by decide +kernel, rfl, by decide +kernel, by decide +kernel⟩
abbrev s_power : Stmt := topS 28
theorem sc_power : FnScope ["number", "exponent"] ["number", "exponent"] (defScope s_power) := ⟨rfl, rfl, rfl, by decide +kernel, rfl, by decide +kernel, by decide +kernel⟩
abbrev s_need_small : Stmt := topS 33
theorem sc_need_small : FnScope ["level"] ["level"] (defScope s_need_small) := ⟨rfl, rfl, rfl, by decide +kernel, rfl, by decide +kernel, by decide +kernel⟩
abbrev s_is_word_of : Stmt := topS 34
theorem sc_is_word_of : FnScope ["level", "thing", "number"] ["level", "thing"] (defScope s_is_word_of) := ⟨rfl, rfl, rfl, by decide +kernel, rfl, by decide +kernel, by decide +kernel⟩
abbrev s_are_rows_of : Stmt := topS 35
theorem sc_are_rows_of : FnScope ["level", "thing", "word"] ["level", "thing"] (defScope s_are_rows_of) := ⟨rfl, rfl, rfl, by decide +kernel, rfl, by decide +kernel, by decide +kernel⟩
abbrev s_need_rows : Stmt := topS 36
theorem sc_need_rows : FnScope ["level", "rows"] ["level", "rows"] (defScope s_need_rows) := ⟨rfl, rfl, rfl, by decide +kernel, rfl, by decide +kernel, by decide +kernel⟩
abbrev s_need_word : Stmt := topS 37
theorem sc_need_word : FnScope ["level", "rows", "word"] ["level", "rows", "word"] (defScope s_need_word) := ⟨rfl, rfl, rfl, by decide +kernel, rfl, by decide +kernel, by decide +kernel⟩
abbrev s_less : Stmt := topS 38
theorem sc_less : FnScope ["word", "row", "number", "one", "other"] ["word", "row", "number"] (defScope s_less) := ⟨rfl, rfl, rfl, by decide +kernel, rfl, by decide +kernel, by decide +kernel⟩
abbrev s_lead_of : Stmt := topS 39
theorem sc_lead_of : FnScope ["word", "at", "number"] ["word"] (defScope s_lead_of) := ⟨rfl, rfl, rfl, by decide +kernel, rfl, by decide +kernel, by decide +kernel⟩
abbrev s_rows_by : Stmt := topS 40
theorem sc_rows_by : FnScope ["rows", "found", "word", "here", "row", "lead", "back", "number", "late"] ["rows"] (defScope s_rows_by) := ⟨rfl, rfl, rfl, by decide +kernel, rfl, by decide +kernel, by decide +kernel⟩
abbrev s_words_by : Stmt := topS 41
theorem sc_words_by : FnScope ["level", "reduced", "length", "found", "row", "number", "word"] ["level", "reduced", "length"] (defScope s_words_by) := ⟨rfl, rfl, rfl, by decide +kernel, rfl, by decide +kernel, by decide +kernel⟩
abbrev s_dual_by : Stmt := topS 42
theorem sc_dual_by : FnScope ["reduced", "length", "leads", "found", "free", "word", "lead", "row", "at"] ["reduced", "length"] (defScope s_dual_by) := ⟨rfl, rfl, rfl, by decide +kernel, rfl, by decide +kernel, by decide +kernel⟩
abbrev s_reduced_rows : Stmt := topS 43
theorem sc_reduced_rows : FnScope ["level", "rows"] ["level", "rows"] (defScope s_reduced_rows) := ⟨rfl, rfl, rfl, by decide +kernel, rfl, by decide +kernel, by decide +kernel⟩
abbrev s_is_in : Stmt := topS 44
theorem sc_is_in : FnScope ["level", "rows", "word"] ["level", "rows", "word"] (defScope s_is_in) := ⟨rfl, rfl, rfl, by decide +kernel, rfl, by decide +kernel, by decide +kernel⟩
abbrev s_dual_rows : Stmt := topS 45
theorem sc_dual_rows : FnScope ["level", "rows"] ["level", "rows"] (defScope s_dual_rows) := ⟨rfl, rfl, rfl, by decide +kernel, rfl, by decide +kernel, by decide +kernel⟩
abbrev s_order_by : Stmt := topS 48
theorem sc_order_by : FnScope ["number", "found", "prime"] ["number"] (defScope s_order_by) := ⟨rfl, rfl, rfl, by decide +kernel, rfl, by decide +kernel, by decide +kernel⟩
abbrev s_order : Stmt := topS 49
theorem sc_order : FnScope ["number"] ["number"] (defScope s_order) := ⟨rfl, rfl, rfl, by decide +kernel, rfl, by decide +kernel, by decide +kernel⟩
abbrev s_is_row_of : Stmt := topS 52
theorem sc_is_row_of : FnScope ["level", "thing", "number"] ["level", "thing"] (defScope s_is_row_of) := ⟨rfl, rfl, rfl, by decide +kernel, rfl, by decide +kernel, by decide +kernel⟩
abbrev s_need_row : Stmt := topS 53
theorem sc_need_row : FnScope ["level", "row", "word"] ["level", "row", "word"] (defScope s_need_row) := ⟨rfl, rfl, rfl, by decide +kernel, rfl, by decide +kernel, by decide +kernel⟩
abbrev s_value_by : Stmt := topS 54
theorem sc_value_by : FnScope ["row", "number", "found", "part"] ["row", "number"] (defScope s_value_by) := ⟨rfl, rfl, rfl, by decide +kernel, rfl, by decide +kernel, by decide +kernel⟩
abbrev s_value_at : Stmt := topS 55
theorem sc_value_at : FnScope ["level", "row", "number"] ["level", "row", "number"] (defScope s_value_at) := ⟨rfl, rfl, rfl, by decide +kernel, rfl, by decide +kernel, by decide +kernel⟩
abbrev s_weight : Stmt := topS 57
theorem sc_weight : FnScope ["word", "number"] ["word"] (defScope s_weight) := ⟨rfl, rfl, rfl, by decide +kernel, rfl, by decide +kernel, by decide +kernel⟩
abbrev s_weights_by : Stmt := topS 58
theorem sc_weights_by : FnScope ["some", "length", "found", "word"] ["some", "length"] (defScope s_weights_by) := ⟨rfl, rfl, rfl, by decide +kernel, rfl, by decide +kernel, by decide +kernel⟩
abbrev s_code_of : Stmt := topS 59
theorem sc_code_of : FnScope ["level", "rows"] ["level", "rows"] (defScope s_code_of) := ⟨rfl, rfl, rfl, by decide +kernel, rfl, by decide +kernel, by decide +kernel⟩
abbrev s_repeated : Stmt := topS 60
theorem sc_repeated : FnScope ["number", "many", "found", "lap"] ["number", "many"] (defScope s_repeated) := ⟨rfl, rfl, rfl, by decide +kernel, rfl, by decide +kernel, by decide +kernel⟩
abbrev s_share : Stmt := topS 61
theorem sc_share : FnScope ["size", "length", "at", "many", "found", "k", "often"] ["size", "length", "at", "many"] (defScope s_share) := ⟨rfl, rfl, rfl, by decide +kernel, rfl, by decide +kernel, by decide +kernel⟩
abbrev s_least_distance : Stmt := topS 62
theorem sc_least_distance : FnScope ["level", "rows", "found", "some", "at"] ["level", "rows"] (defScope s_least_distance) := ⟨rfl, rfl, rfl, by decide +kernel, rfl, by decide +kernel, by decide +kernel⟩
abbrev s_dual_weights : Stmt := topS 63
theorem sc_dual_weights : FnScope ["level", "rows", "some", "length", "counts", "found", "many", "whole", "at", "count"] ["level", "rows"] (defScope s_dual_weights) := ⟨rfl, rfl, rfl, by decide +kernel, rfl, by decide +kernel, by decide +kernel⟩
abbrev s__law_begun : Stmt := topS 65
theorem sc__law_begun : FnScope ["script", "whole", "cells", "cell"] ["script"] (defScope s__law_begun) := ⟨rfl, rfl, rfl, by decide +kernel, rfl, by decide +kernel, by decide +kernel⟩
abbrev s__law_mixed : Stmt := topS 66
theorem sc__law_mixed : FnScope ["draw", "found", "cell"] ["draw"] (defScope s__law_mixed) := ⟨rfl, rfl, rfl, by decide +kernel, rfl, by decide +kernel, by decide +kernel⟩
abbrev s__law_take : Stmt := topS 67
theorem sc__law_take : FnScope ["draw", "amount", "found"] ["draw", "amount"] (defScope s__law_take) := ⟨rfl, rfl, rfl, by decide +kernel, rfl, by decide +kernel, by decide +kernel⟩
abbrev s__law_pick : Stmt := topS 68
theorem sc__law_pick : FnScope ["draw", "items"] ["draw", "items"] (defScope s__law_pick) := ⟨rfl, rfl, rfl, by decide +kernel, rfl, by decide +kernel, by decide +kernel⟩
abbrev s__law_kinds : Stmt := topS 69
theorem sc__law_kinds : FnScope ["thing", "found", "line", "one", "key"] ["thing"] (defScope s__law_kinds) := ⟨rfl, rfl, rfl, by decide +kernel, rfl, by decide +kernel, by decide +kernel⟩
abbrev s__law_says : Stmt := topS 70
theorem sc__law_says : FnScope ["told", "due"] ["told", "due"] (defScope s__law_says) := ⟨rfl, rfl, rfl, by decide +kernel, rfl, by decide +kernel, by decide +kernel⟩
abbrev s__law_doubled : Stmt := topS 71
theorem sc__law_doubled : FnScope ["many", "found", "lap"] ["many"] (defScope s__law_doubled) := ⟨rfl, rfl, rfl, by decide +kernel, rfl, by decide +kernel, by decide +kernel⟩
abbrev s__law_sum : Stmt := topS 72
theorem sc__law_sum : FnScope ["numbers", "found", "number"] ["numbers"] (defScope s__law_sum) := ⟨rfl, rfl, rfl, by decide +kernel, rfl, by decide +kernel, by decide +kernel⟩
abbrev s__law_size : Stmt := topS 73
theorem sc__law_size : FnScope ["level"] ["level"] (defScope s__law_size) := ⟨rfl, rfl, rfl, by decide +kernel, rfl, by decide +kernel, by decide +kernel⟩
abbrev s__law_trim : Stmt := topS 74
theorem sc__law_trim : FnScope ["numbers", "found"] ["numbers"] (defScope s__law_trim) := ⟨rfl, rfl, rfl, by decide +kernel, rfl, by decide +kernel, by decide +kernel⟩
abbrev s__law_right : Stmt := topS 75
theorem sc__law_right : FnScope ["draw", "level", "many", "size", "number", "word", "dual", "lap", "late", "gap", "due", "moved", "one", "k", "place"] ["draw"] (defScope s__law_right) := ⟨rfl, rfl, rfl, by decide +kernel, rfl, by decide +kernel, by decide +kernel⟩
abbrev s_law : Stmt := topS 76
theorem sc_law : FnScope ["script", "draw", "turn", "dual"] ["script"] (defScope s_law) := ⟨rfl, rfl, rfl, by decide +kernel, rfl, by decide +kernel, by decide +kernel⟩
structure DefAt (K : PySem.W.Frag) (mg : Str → Option Value) (x g : Str) (st : Stmt) (ps : List Str) (f : Addr) (fd : FuncData) : Prop where
  F : Fun K x x st f fd
  mg : mg g = some (.ref f)
  bd : Binds K fd ps []
structure Txt (K : PySem.W.Frag) (mg : Str → Option Value) (A : Nat → Addr) (FD : Nat → FuncData) (TK : Nat → Tok) : Prop where
  d_is_whole : DefAt K mg "is_whole" "is_whole" s_is_whole ["thing"] (A 15) (FD 15)
  d_is_number_of : DefAt K mg "is_number_of" "is_number_of" s_is_number_of ["thing"] (A 16) (FD 16)
  d_refuse : DefAt K mg "refuse" "refuse" s_refuse ["word"] (A 17) (FD 17)
  d_need_number : DefAt K mg "need_number" "need_number" s_need_number ["number", "word"] (A 18) (FD 18)
  d_need_level : DefAt K mg "need_level" "need_level" s_need_level ["level"] (A 19) (FD 19)
  d_in_level : DefAt K mg "in_level" "in_level" s_in_level ["level", "number"] (A 20) (FD 20)
  d_need_in : DefAt K mg "need_in" "need_in" s_need_in ["level", "number", "word"] (A 21) (FD 21)
  d_level_by : DefAt K mg "level_by" "level_by" s_level_by ["number"] (A 22) (FD 22)
  d_times_by : DefAt K mg "times_by" "times_by" s_times_by ["one", "other"] (A 24) (FD 24)
  d_times_within : DefAt K mg "times_within" "times_within" s_times_within ["level", "one", "other"] (A 25) (FD 25)
  d_power_by : DefAt K mg "power_by" "power_by" s_power_by ["number", "exponent"] (A 26) (FD 26)
  d_inverse_by : DefAt K mg "inverse_by" "inverse_by" s_inverse_by ["number"] (A 27) (FD 27)
  d_power : DefAt K mg "power" "power" s_power ["number", "exponent"] (A 28) (FD 28)
  d_need_small : DefAt K mg "need_small" "need_small" s_need_small ["level"] (A 33) (FD 33)
  d_is_word_of : DefAt K mg "is_word_of" "is_word_of" s_is_word_of ["level", "thing"] (A 34) (FD 34)
  d_are_rows_of : DefAt K mg "are_rows_of" "are_rows_of" s_are_rows_of ["level", "thing"] (A 35) (FD 35)
  d_need_rows : DefAt K mg "need_rows" "need_rows" s_need_rows ["level", "rows"] (A 36) (FD 36)
  d_need_word : DefAt K mg "need_word" "need_word" s_need_word ["level", "rows", "word"] (A 37) (FD 37)
  d_less : DefAt K mg "less" "less" s_less ["word", "row", "number"] (A 38) (FD 38)
  d_lead_of : DefAt K mg "lead_of" "lead_of" s_lead_of ["word"] (A 39) (FD 39)
  d_rows_by : DefAt K mg "rows_by" "rows_by" s_rows_by ["rows"] (A 40) (FD 40)
  d_words_by : DefAt K mg "words_by" "words_by" s_words_by ["level", "reduced", "length"] (A 41) (FD 41)
  d_dual_by : DefAt K mg "dual_by" "dual_by" s_dual_by ["reduced", "length"] (A 42) (FD 42)
  d_reduced_rows : DefAt K mg "reduced_rows" "reduced_rows" s_reduced_rows ["level", "rows"] (A 43) (FD 43)
  d_is_in : DefAt K mg "is_in" "is_in" s_is_in ["level", "rows", "word"] (A 44) (FD 44)
  d_dual_rows : DefAt K mg "dual_rows" "dual_rows" s_dual_rows ["level", "rows"] (A 45) (FD 45)
  d_order_by : DefAt K mg "order_by" "order_by" s_order_by ["number"] (A 48) (FD 48)
  d_order : DefAt K mg "order" "order" s_order ["number"] (A 49) (FD 49)
  d_is_row_of : DefAt K mg "is_row_of" "is_row_of" s_is_row_of ["level", "thing"] (A 52) (FD 52)
  d_need_row : DefAt K mg "need_row" "need_row" s_need_row ["level", "row", "word"] (A 53) (FD 53)
  d_value_by : DefAt K mg "value_by" "value_by" s_value_by ["row", "number"] (A 54) (FD 54)
  d_value_at : DefAt K mg "value_at" "value_at" s_value_at ["level", "row", "number"] (A 55) (FD 55)
  d_weight : DefAt K mg "weight" "weight" s_weight ["word"] (A 57) (FD 57)
  d_weights_by : DefAt K mg "weights_by" "weights_by" s_weights_by ["some", "length"] (A 58) (FD 58)
  d_code_of : DefAt K mg "code_of" "code_of" s_code_of ["level", "rows"] (A 59) (FD 59)
  d_repeated : DefAt K mg "repeated" "repeated" s_repeated ["number", "many"] (A 60) (FD 60)
  d_share : DefAt K mg "share" "share" s_share ["size", "length", "at", "many"] (A 61) (FD 61)
  d_least_distance : DefAt K mg "least_distance" "least_distance" s_least_distance ["level", "rows"] (A 62) (FD 62)
  d_dual_weights : DefAt K mg "dual_weights" "dual_weights" s_dual_weights ["level", "rows"] (A 63) (FD 63)
  d__law_begun : DefAt K mg "_law_begun" "_law_begun" s__law_begun ["script"] (A 65) (FD 65)
  d__law_mixed : DefAt K mg "_law_mixed" "_law_mixed" s__law_mixed ["draw"] (A 66) (FD 66)
  d__law_take : DefAt K mg "_law_take" "_law_take" s__law_take ["draw", "amount"] (A 67) (FD 67)
  d__law_pick : DefAt K mg "_law_pick" "_law_pick" s__law_pick ["draw", "items"] (A 68) (FD 68)
  d__law_kinds : DefAt K mg "_law_kinds" "_law_kinds" s__law_kinds ["thing"] (A 69) (FD 69)
  d__law_says : DefAt K mg "_law_says" "_law_says" s__law_says ["told", "due"] (A 70) (FD 70)
  d__law_doubled : DefAt K mg "_law_doubled" "_law_doubled" s__law_doubled ["many"] (A 71) (FD 71)
  d__law_sum : DefAt K mg "_law_sum" "_law_sum" s__law_sum ["numbers"] (A 72) (FD 72)
  d__law_size : DefAt K mg "_law_size" "_law_size" s__law_size ["level"] (A 73) (FD 73)
  d__law_trim : DefAt K mg "_law_trim" "_law_trim" s__law_trim ["numbers"] (A 74) (FD 74)
  d__law_right : DefAt K mg "_law_right" "_law_right" s__law_right ["draw"] (A 75) (FD 75)
  d_law : DefAt K mg "law" "law" s_law ["script"] (A 76) (FD 76)
  b_all : mg "all" = none
  b_bool : mg "bool" = none
  b_dict : mg "dict" = none
  b_enumerate : mg "enumerate" = none
  b_int : mg "int" = none
  b_isinstance : mg "isinstance" = none
  b_len : mg "len" = none
  b_list : mg "list" = none
  b_max : mg "max" = none
  b_min : mg "min" = none
  b_range : mg "range" = none
  b_repr : mg "repr" = none
  b_sorted : mg "sorted" = none
  b_str : mg "str" = none
  b_sum : mg "sum" = none
  b_tuple : mg "tuple" = none
  b_zip : mg "zip" = none
  i_comb : mg "comb" = some (.builtin "math.comb")
  g_SIZES : mg "SIZES" = some (.ref (A 14))
  t_SIZES : SqT K (fun _ => none) (A 14) (([2, 4, 16, 256, 65536, 4294967296, 18446744073709551616] : List Int).map V.int)
  g_MOST_LEVEL : mg "MOST_LEVEL" = some (.int 2 (TK 30))
  g_MOST_LENGTH : mg "MOST_LENGTH" = some (.int 12 (TK 31))
  g_MOST_WORDS : mg "MOST_WORDS" = some (.int 4096 (TK 32))
  g_PRIMES : mg "PRIMES" = some (.ref (A 47))
  t_PRIMES : SqT K (fun _ => none) (A 47) (([3, 5, 17, 257, 641, 65537, 6700417] : List Int).map V.int)
  g_MOST_DEGREE : mg "MOST_DEGREE" = some (.int 16 (TK 51))
end M

namespace M
open PySem PySem.Spec L2 DL
theorem frz_da (d : D) : Sl.frz (.da d) = .da d := rfl
theorem frz_no : Sl.frz .no = .no := rfl
theorem frz_ol (a : Addr) (ds : List D) : Sl.frz (.ol a ds) = .da (.lst ds) := rfl
theorem frz_od (a : Addr) (ks : List Key) (ds : List D) : Sl.frz (.od a ks ds) = .da (.dct ks ds) := rfl
theorem frz_dr (a c : Addr) : Sl.frz (.dr a c) = .dr a c := rfl
theorem frz_none {s : Sl} (h : s.addr = none) : Sl.frz s = s := by cases s <;> first | rfl | cases h
theorem pl_int (n : Nat) (i : Int) : D.pl n (.int i) = true := by cases n <;> rfl
theorem pl_bl (n : Nat) (i : Bool) : D.pl n (.bl i) = true := by cases n <;> rfl
theorem pl_non (n : Nat) : D.pl n .non = true := by cases n <;> rfl
theorem pl_lst (n : Nat) (ds : List D) : D.pl (n + 1) (.lst ds) = D.pls n ds := by simp [D.pl]
theorem pl_tup (n : Nat) (ds : List D) : D.pl (n + 1) (.tup ds) = D.pls n ds := by simp [D.pl]
theorem pls_nil (n : Nat) : D.pls n [] = true := by simp [D.pls]
theorem pls_cons (n : Nat) (d : D) (ds : List D) : D.pls n (d :: ds) = (D.pl n d && D.pls n ds) := by simp [D.pls]
theorem pls_ints (n : Nat) : ∀ ns : List Int, D.pls n (ns.map D.int) = true
  | [] => pls_nil n
  | i :: r => by rw [List.map_cons, pls_cons, pl_int, pls_ints n r]; rfl
theorem pls_bls (n : Nat) : ∀ ns : List Bool, D.pls n (ns.map D.bl) = true
  | [] => pls_nil n
  | i :: r => by rw [List.map_cons, pls_cons, pl_bl, pls_bls n r]; rfl
theorem pl_ints (n : Nat) (ns : List Int) : D.pl (n + 1) (.lst (ns.map D.int)) = true := by rw [pl_lst, pls_ints]
theorem eqv_int (i j : Int) : D.eqv (.int i) (.int j) = decide (i = j) := by
  show PyData.eqv (.int i) (.int j) = _
  unfold PyData.eqv
  by_cases h : i = j <;> simp [h]
theorem eqv_bl (i j : Bool) : D.eqv (.bl i) (.bl j) = decide (i = j) := by
  show PyData.eqv (.bool i) (.bool j) = _
  unfold PyData.eqv
  cases i <;> cases j <;> rfl
theorem eqvs_ints : ∀ ns ms : List Int, PyData.eqvAll (D.pys (ns.map D.int)) (D.pys (ms.map D.int)) = decide (ns = ms)
  | [], [] => by simp [D.pys, PyData.eqvAll]
  | [], _ :: _ => by simp [D.pys, PyData.eqvAll]
  | _ :: _, [] => by simp [D.pys, PyData.eqvAll]
  | n :: ns, m :: ms => by
    have := eqvs_ints ns ms
    simp only [List.map_cons, D.pys, D.py, PyData.eqvAll, this, PyData.eqv]
    by_cases h : n = m <;> by_cases h2 : ns = ms <;> simp [h, h2]
theorem eqvs_bls : ∀ ns ms : List Bool, PyData.eqvAll (D.pys (ns.map D.bl)) (D.pys (ms.map D.bl)) = decide (ns = ms)
  | [], [] => by simp [D.pys, PyData.eqvAll]
  | [], _ :: _ => by simp [D.pys, PyData.eqvAll]
  | _ :: _, [] => by simp [D.pys, PyData.eqvAll]
  | n :: ns, m :: ms => by
    have := eqvs_bls ns ms
    simp only [List.map_cons, D.pys, D.py, PyData.eqvAll, this, PyData.eqv]
    cases n <;> cases m <;> by_cases h2 : ns = ms <;> simp [h2]
theorem eqv_ints (ns ms : List Int) : D.eqv (.lst (ns.map D.int)) (.lst (ms.map D.int)) = decide (ns = ms) := by
  unfold D.eqv
  simp only [D.py, PyData.eqv]
  exact eqvs_ints ns ms
theorem eqv_tints (ns ms : List Int) : D.eqv (.tup (ns.map D.int)) (.tup (ms.map D.int)) = decide (ns = ms) := by
  unfold D.eqv
  simp only [D.py, PyData.eqv]
  exact eqvs_ints ns ms
theorem eqv_bls (ns ms : List Bool) : D.eqv (.lst (ns.map D.bl)) (.lst (ms.map D.bl)) = decide (ns = ms) := by
  unfold D.eqv
  simp only [D.py, PyData.eqv]
  exact eqvs_bls ns ms
section
variable {P : Program} {w : World} {K : PySem.W.Frag} {mg : Str → Option Value} {base : Heap} {A : Nat → Addr} {FD : Nat → FuncData} {TK : Nat → Tok}

local macro_rules | `(tactic| walk_at "dl") => `(tactic| simp (config := { decide := false }) only [dRet, dRetN, dAndV, dOrV, dNotV, dIsI, dBVar, dVar, dLVar, dC, dI, dI0, gI, gB, dCmp, dTest, dNot, dAnd, dOr, dChain, dIx, deSeq, deLst, deSc, dCons, dNil, dCall, dLen, dTup, dLst, dTupOf, dIf, dSeq, dNext, dSet, dvC, dvF, VV.put, dPar, dDrop, dMax2, dMin2, dIntOf, dIfE, dEq, dYes, dgName, dgTup, dgCons, dgNil, dStep, wipeS, dCallR, dFor, dRng1, dRng2, dAsgT, dPar3, dApp, dSortI, dMinI, dRep, dCat, dLLVar, deLL, dIsN, dReprB, dDrI, dDrC, dDrSet, isDr, dDisp3, dMinT, dRevT, dRevL, dStar, dPop, dSetIx, dSortP, dSortSet, dSetPop, dSortK, dRepT, dCatT, dSlT, dSlL, dONo, dOSo, dInI, dIsB, dAugIx, dIsI2, dZipT, dMinK, Bool.xor_false, Bool.xor_true, Sl.dr.injEq, bodyR, D.isN, D.reprB, Nat.reduceLeDiff,
  st0, frzAll, frzAt, frz_da, frz_no, frz_ol, frz_od, frz_dr, Sl.look, Sl.seq, D.seq, D.cls, D.sc, D.toI, bodyE, List.map_cons, List.map_nil, List.length_cons, List.length_nil, List.replicate, List.nil_append, List.cons_append, List.append_nil, List.getElem?_cons_zero, List.getElem?_cons_succ, List.set_cons_zero, List.set_cons_succ, Option.some.injEq, Sl.da.injEq, Sl.ol.injEq, D.int.injEq, D.bl.injEq, D.str.injEq, D.lst.injEq, D.tup.injEq, List.cons.injEq,
  exists_eq_left, exists_eq_left', exists_eq_right, exists_and_left, exists_and_right, and_assoc, and_true, true_and, and_self, ne_eq, not_false_eq_true, forall_const, reduceCtorEq, Nat.reduceSub, Nat.reduceAdd, Nat.sub_self, false_or, or_false, exists_const, exists_eq', exists_eq, exists_false, implies_true, and_false, false_and, if_true, if_false, decide_eq_true_eq, decide_true, decide_false, Bool.false_eq_true, reduceIte, Bool.not_true, Bool.not_false, pl_int, pl_bl, pl_non, pl_lst, pl_tup, pls_nil, pls_cons, pl_ints, pls_ints, pls_bls, eqv_int, eqv_bl, eqv_ints, eqv_tints, eqv_bls, Bool.false_xor, Bool.true_xor, Bool.and_true, Bool.true_and, Int.natCast_inj])

/-! numbers -/
theorem bx (a b : Nat) : Builtin.bitXor (a : Int) (b : Int) = ((a ^^^ b : Nat) : Int) := by rw [Bits.bitXor_pp (by omega) (by omega)]; simp
theorem idiv (a b : Nat) : (a : Int) / (b : Int) = ((a / b : Nat) : Int) := (Int.natCast_ediv a b).symm
theorem fmodN (a b : Nat) : (a : Int).fmod (b : Int) = ((a % b : Nat) : Int) := by rw [Int.fmod_eq_emod_of_nonneg _ (by omega)]; exact (Int.natCast_emod a b).symm
theorem imul (a b : Nat) : (a : Int) * (b : Int) = ((a * b : Nat) : Int) := (Int.natCast_mul a b).symm
theorem cmp_pure {step : D → (Option D → Prop) → Prop} {f : D → Option D} : ∀ {ds : List D}, (∀ d ∈ ds, ∀ k, k (f d) → step d k) → ∀ {k : List D → Prop}, k (ds.filterMap f) → cmp step ds k
  | [], _, k, q => q
  | d :: ds, h, k, q => by
    unfold cmp
    refine h d (by simp) _ (cmp_pure (fun e he => h e (by simp [he])) ?_)
    simp only [List.filterMap_cons] at q
    cases e : f d with
    | none => rw [e] at q; exact q
    | some x => rw [e] at q; exact q
theorem cmp_map {step : D → (Option D → Prop) → Prop} {f : D → D} {ds : List D} (h : ∀ d ∈ ds, ∀ k : Option D → Prop, k (some (f d)) → step d k) {k : List D → Prop} (q : k (ds.map f)) : cmp step ds k :=
  cmp_pure (f := fun d => some (f d)) h (by rw [List.filterMap_eq_map']; exact q)
def SZ : List Int := [2, 4, 16, 256, 65536, 4294967296, 18446744073709551616]
theorem at_SZ {l : Nat} (h : l ≤ 6) : atI (SZ.map D.int) (l : Int) = some (.int (NF.sz l : Nat)) := by
  have : l = 0 ∨ l = 1 ∨ l = 2 ∨ l = 3 ∨ l = 4 ∨ l = 5 ∨ l = 6 := by omega
  rcases this with rfl | rfl | rfl | rfl | rfl | rfl | rfl <;> rfl
theorem sz6 : NF.sz 6 = 18446744073709551616 := rfl
theorem szle {l : Nat} (h : l ≤ 6) : NF.sz l ≤ 18446744073709551616 := by rw [← sz6]; exact NF.sz_mono h
theorem at_last_SZ : atI (SZ.map D.int) (-1) = some (.int (NF.sz 6 : Nat)) := rfl

def C_is_whole : DC := fun ds k => ∃ i : Int, ds = [.int i] ∧ k (.bl true)
theorem ok_is_whole (T : Txt K mg A FD TK) : FnOk P w K mg base CX0 1 (A 15) (FD 15) ["thing"] (spD K C_is_whole) := by
  have S := sc_is_whole
  refine fnD T.d_is_whole.F S (fun ds k h => by obtain ⟨i, rfl, _⟩ := h; rfl) fun cdv Ar outer s H E hr ds k h => ?_
  obtain ⟨i, rfl, kk⟩ := h
  refine ⟨_, _, (ss_one (s_ret (x_and (XE.b (x_isI (t := "int") (by simp [isTypes]) T.b_isinstance T.b_int (by decide +kernel) (b_var (pv 0)))) (x_one (x_not (XE.b (x_isI (t := "bool") (by simp [isTypes]) T.b_isinstance T.b_bool (by decide +kernel) (b_var (pv 0))))))))), ?_⟩
  walk_at "dl"
  exact kk

def C_level_by : DC := fun ds k => ∃ n : Nat, ds = [.int n] ∧ n < 18446744073709551616 ∧ k (.int (NF.lev n : Nat))
theorem at0 {α : Type} (xs : List α) : atI xs 0 = xs.head? := by
  unfold atI ixN
  cases xs with
  | nil => rfl
  | cons x r => simp
theorem lev_at {n l : Nat} (h : n < NF.sz l) (h2 : ∀ j, j < l → NF.sz j ≤ n) : NF.lev n = l := by
  have h1 := NF.lev_le h
  rcases Nat.lt_or_ge (NF.lev n) l with h3 | h3
  · have := h2 _ h3
    have := NF.lev_lt n
    omega
  · omega
def lvF (n : Int) : D → Option D
  | .tup [.int i, .int s] => if n < s then some (.int i) else none
  | _ => none
theorem lv_no {n s i : Int} {r : List D} (h : ¬ n < s) : (D.tup [.int i, .int s] :: r).findSome? (lvF n) = r.findSome? (lvF n) := by simp [List.findSome?_cons, lvF, h]
theorem lv_yes {n s i : Int} {r : List D} (h : n < s) : (D.tup [.int i, .int s] :: r).findSome? (lvF n) = some (.int i) := by simp [List.findSome?_cons, lvF, h]
theorem lv_head {n : Nat} (h : n < 18446744073709551616) : atI ((enumD (SZ.map D.int)).filterMap (lvF n)) 0 = some (.int (NF.lev n : Nat)) := by
  have e : enumD (SZ.map D.int) = [.tup [.int 0, .int 2], .tup [.int 1, .int 4], .tup [.int 2, .int 16], .tup [.int 3, .int 256], .tup [.int 4, .int 65536], .tup [.int 5, .int 4294967296], .tup [.int 6, .int 18446744073709551616]] := rfl
  rw [e]
  have z0 : NF.sz 0 = 2 := rfl
  have z1 : NF.sz 1 = 4 := rfl
  have z2 : NF.sz 2 = 16 := rfl
  have z3 : NF.sz 3 = 256 := rfl
  have z4 : NF.sz 4 = 65536 := rfl
  have z5 : NF.sz 5 = 4294967296 := rfl
  rw [at0, List.head?_filterMap]
  by_cases h0 : n < 2
  · rw [lev_at (l := 0) (by omega) (by omega), lv_yes (by omega)]; rfl
  rw [lv_no (by omega)]
  by_cases h1 : n < 4
  · rw [lev_at (l := 1) (by omega) (fun j hj => Nat.le_trans (NF.sz_mono (show j ≤ 0 by omega)) (by omega)), lv_yes (by omega)]; rfl
  rw [lv_no (by omega)]
  by_cases h2 : n < 16
  · rw [lev_at (l := 2) (by omega) (fun j hj => Nat.le_trans (NF.sz_mono (show j ≤ 1 by omega)) (by omega)), lv_yes (by omega)]; rfl
  rw [lv_no (by omega)]
  by_cases h3 : n < 256
  · rw [lev_at (l := 3) (by omega) (fun j hj => Nat.le_trans (NF.sz_mono (show j ≤ 2 by omega)) (by omega)), lv_yes (by omega)]; rfl
  rw [lv_no (by omega)]
  by_cases h4 : n < 65536
  · rw [lev_at (l := 4) (by omega) (fun j hj => Nat.le_trans (NF.sz_mono (show j ≤ 3 by omega)) (by omega)), lv_yes (by omega)]; rfl
  rw [lv_no (by omega)]
  by_cases h5 : n < 4294967296
  · rw [lev_at (l := 5) (by omega) (fun j hj => Nat.le_trans (NF.sz_mono (show j ≤ 4 by omega)) (by omega)), lv_yes (by omega)]; rfl
  rw [lv_no (by omega)]
  rw [lev_at (l := 6) (by rw [sz6]; omega) (fun j hj => Nat.le_trans (NF.sz_mono (show j ≤ 5 by omega)) (by omega)), lv_yes (by omega)]; rfl
theorem ok_level_by (T : Txt K mg A FD TK) : FnOk P w K mg base CX0 1 (A 22) (FD 22) ["number"] (spD K C_level_by) := by
  have S := sc_level_by
  refine fnD T.d_level_by.F S (fun ds k h => by obtain ⟨i, rfl, _⟩ := h; rfl) fun cdv Ar outer s H E hr ds k h => ?_
  obtain ⟨n, rfl, hn, kk⟩ := h
  refine ⟨_, _, (ss_one (s_ret (x_ix (XF.l (f_lcG (own := [("level", 1), ("size", 2)]) (dg := dgTup 2 (dgCons (dgName 1) (dgCons (dgName 2) dgNil))) (is := ([1] ++ ([2] ++ []))) rfl S.nd (i_enumT T.b_enumerate (c_tup (its := []) (pe_glob rfl T.g_SIZES rfl) T.t_SIZES)) (blkOk_by (N := ["number", "level", "size"]) (sc := defScope s_level_by) (by decide +kernel)) (fun _ _ _ _ _ => by exact ((g_tup rfl (gl_cons (g_name (i := 1) S.nd rfl) (gl_cons (g_name (i := 2) S.nd rfl) gl_nil))))) (fun _ _ _ _ _ => by exact ((ts_one (t_lt (b_var (pv 0)) (b_var (pv 2)))))) (fun _ _ _ _ _ => by exact (e_var (pv 1))))) (XE.b (c_int pe_int))))), ?_⟩
  walk_at "dl"
  refine ⟨_, rfl, by decide, rfl, cmp_pure (f := lvF n) (fun d hd kk hk => ?_) ⟨_, lv_head hn, kk⟩⟩
  have e : ∃ i s : Int, d = .tup [.int i, .int s] := by
    simp only [enumD, List.mapIdx_cons, List.mapIdx_nil, List.mem_cons, List.not_mem_nil, or_false] at hd
    rcases hd with rfl | rfl | rfl | rfl | rfl | rfl | rfl <;> exact ⟨_, _, rfl⟩
  obtain ⟨i, s, rfl⟩ := e
  walk_at "dl"
  have hk : kk (if (n : Int) < s then some (.int i) else none) := hk
  by_cases h : (n : Int) < s
  · rw [if_pos h] at hk; simpa [h] using hk
  · rw [if_neg h] at hk; simpa [h] using hk

/-! the product, level by level -/
def C_tw (m : Nat) : DC := fun ds k => ∃ l a b : Nat, ds = [.int l, .int a, .int b] ∧ l < m ∧ l ≤ 6 ∧ a < NF.sz l ∧ b < NF.sz l ∧ k (.int (NF.tw l a b : Nat))
theorem ok_tw (T : Txt K mg A FD TK) : ∀ m, FnOk P w K mg base CX0 m (A 25) (FD 25) ["level", "one", "other"] (spD K (C_tw m))
  | 0 => ⟨fun vs H Q E ⟨_, _, _, _, _, ⟨l, a, b, _, h, _⟩, _⟩ => absurd h (Nat.not_lt_zero l), fun _ _ _ _ _ _ _ _ _ _ _ _ _ ⟨_, _, _, _, _, ⟨l, a, b, _, h, _⟩, _⟩ => absurd h (Nat.not_lt_zero l)⟩
  | m + 1 => by
    have G := ok_tw T m
    have S := sc_times_within
    refine fnD T.d_times_within.F S (fun ds k h => by obtain ⟨l, a, b, rfl, _⟩ := h; rfl) fun cdv Ar outer s H E hr ds k h => ?_
    obtain ⟨l, a, b, rfl, hl, h6, ha, hb, kk⟩ := h
    refine ⟨_, _, (ss_cons (s_if (XW.t (w_or (t_lt (b_var (pv 1)) (XE.b (c_int pe_int))) (w_or1 (t_lt (b_var (pv 2)) (XE.b (c_int pe_int))))))
    (ss_one (s_ret (x_mul (b_var (pv 1)) (b_var (pv 2)))))
    ss_nil)
    (ss_cons (s_set (i := 3) S.nd rfl (XE.v (x_ix (XE.l (c_tup (its := []) (pe_glob rfl T.g_SIZES rfl) T.t_SIZES)) (XE.b (x_sub (b_var (pv 0)) (XE.b (c_int pe_int)))))))
    (ss_cons (s_par (i := 4) (j := 5) rfl S.nd rfl rfl (by decide) (XE.v (x_div (b_var (pv 1)) (b_var (pv 3)))) (XE.v (x_mod (b_var (pv 1)) (b_var (pv 3)))))
    (ss_cons (s_par (i := 6) (j := 7) rfl S.nd rfl rfl (by decide) (XE.v (x_div (b_var (pv 2)) (b_var (pv 3)))) (XE.v (x_mod (b_var (pv 2)) (b_var (pv 3)))))
    (ss_cons (s_set (i := 8) S.nd rfl (XE.v (e_call G hr T.d_times_within.mg T.d_times_within.F.kp T.d_times_within.bd (a_cons (x_sub (b_var (pv 0)) (XE.b (c_int pe_int))) (a_cons (e_var (pv 4)) (a_cons (e_var (pv 6)) a_nil))))))
    (ss_cons (s_set (i := 9) S.nd rfl (XE.v (e_call G hr T.d_times_within.mg T.d_times_within.F.kp T.d_times_within.bd (a_cons (x_sub (b_var (pv 0)) (XE.b (c_int pe_int))) (a_cons (e_var (pv 5)) (a_cons (e_var (pv 7)) a_nil))))))
    (ss_cons (s_set (i := 10) S.nd rfl (XE.v (x_xor (b_call G hr T.d_times_within.mg T.d_times_within.F.kp T.d_times_within.bd (ab_cons (XE.b (x_sub (b_var (pv 0)) (XE.b (c_int pe_int)))) (ab_cons (XE.b (x_xor (b_var (pv 4)) (b_var (pv 5)))) (ab_cons (XE.b (x_xor (b_var (pv 6)) (b_var (pv 7)))) ab_nil)))) (b_var (pv 9)))))
    (ss_one (s_ret (x_xor (XE.b (x_xor (XE.b (x_mul (b_var (pv 10)) (b_var (pv 3)))) (b_var (pv 9)))) (b_call G hr T.d_times_within.mg T.d_times_within.F.kp T.d_times_within.bd (ab_cons (XE.b (x_sub (b_var (pv 0)) (XE.b (c_int pe_int)))) (ab_cons (b_var (pv 8)) (ab_cons (XE.b (x_div (b_var (pv 3)) (XE.b (c_int pe_int)))) ab_nil)))))))))))))), ?_⟩
    walk_at "dl"
    by_cases hs : a < 2 ∨ b < 2
    · have e : NF.tw l a b = a * b := by
        cases l with
        | zero => rfl
        | succ l => unfold NF.tw; rw [if_pos hs]
      rw [e] at kk
      have hm : CMul a b ∧ k (.int ((a : Int) * (b : Int))) := by
        refine ⟨?_, by rw [imul]; exact kk⟩
        rcases hs with h | h
        · exact .inl ⟨by omega, by omega⟩
        · exact .inr ⟨by omega, by omega⟩
      rcases hs with h | h
      · rw [if_pos (show (a : Int) < 2 by omega)]; exact hm
      · split
        · exact hm
        · rw [if_pos (show (b : Int) < 2 by omega)]; exact hm
    · have h1 : ¬ (a : Int) < 2 := by omega
      have h2 : ¬ (b : Int) < 2 := by omega
      rw [if_neg h1, if_neg h2]
      cases l with
      | zero => have : a < 2 := ha; omega
      | succ l =>
        have hz : NF.sz l ≤ 4294967296 := NF.sz_mono (k := 5) (by omega)
        have hp := NF.sz_pos l
        have h2z := NF.two_le_sz l
        rw [NF.sz_succ] at ha hb
        have dv : ∀ x : Nat, CDivW (x : Int) ((NF.sz l : Nat) : Int) := fun x => wide_div (b := 33) (by omega) (by omega) (by decide) (by decide)
        have dv2 : CDivW ((NF.sz l : Nat) : Int) 2 := wide_div (b := 2) (by decide) (by decide) (by decide) (by decide)
        have a1 : a / NF.sz l < NF.sz l := Nat.div_lt_of_lt_mul ha
        have a0 : a % NF.sz l < NF.sz l := Nat.mod_lt _ hp
        have b1 : b / NF.sz l < NF.sz l := Nat.div_lt_of_lt_mul hb
        have b0 : b % NF.sz l < NF.sz l := Nat.mod_lt _ hp
        have el : ((l + 1 : Nat) : Int) - 1 = (l : Int) := by omega
        have ez : ¬ ((NF.sz l : Nat) : Int) = 0 := by omega
        rw [el]
        refine ⟨_, at_SZ (l := l) (by omega), _, rfl, dv a, _, rfl, ez, _, rfl, dv b, _, rfl, ez, ?_⟩
        simp only [idiv, fmodN, bx]
        refine ⟨l, _, _, rfl, by omega, by omega, a1, b1, ⟨l, _, _, rfl, by omega, by omega, a0, b0, ⟨l, _, _, rfl, by omega, by omega, NF.xor_lt a1 a0, NF.xor_lt b1 b0, ⟨_, rfl, _, rfl, _, rfl, ?_, _, rfl, _, rfl, dv2, ?_⟩⟩⟩⟩
        · exact .inr ⟨by omega, by omega⟩
        · refine ⟨l, NF.tw l (a / NF.sz l) (b / NF.sz l), NF.sz l / 2, by simp only [show (2 : Int) = ((2 : Nat) : Int) from rfl, idiv], by omega, by omega, NF.tw_lt a1 b1, by omega, _, rfl, ?_⟩
          simp only [bx, imul]
          rw [NF.tw, if_neg hs] at kk
          exact kk
def C_times_within : DC := C_tw 7
theorem ok_times_within (T : Txt K mg A FD TK) : FnOk P w K mg base CX0 7 (A 25) (FD 25) ["level", "one", "other"] (spD K C_times_within) := ok_tw T 7
def C_times_by : DC := fun ds k => ∃ a b : Nat, ds = [.int a, .int b] ∧ a < 18446744073709551616 ∧ b < 18446744073709551616 ∧ k (.int (NF.nm a b : Nat))
theorem max2 (a b : Nat) : (if (b : Int) > a then (b : Int) else a) = ((max a b : Nat) : Int) := by
  by_cases h : (b : Int) > a
  · rw [if_pos h]; omega
  · rw [if_neg h]; omega
theorem nm_small {a b : Nat} (h : a < 2 ∨ b < 2) : NF.nm a b = a * b := by
  unfold NF.nm
  generalize max (NF.lev a) (NF.lev b) = m
  cases m with
  | zero => rfl
  | succ m => unfold NF.tw; rw [if_pos h]
theorem ok_times_by (T : Txt K mg A FD TK) : FnOk P w K mg base CX0 8 (A 24) (FD 24) ["one", "other"] (spD K C_times_by) := by
  have S := sc_times_by
  refine fnD T.d_times_by.F S (fun ds k h => by obtain ⟨a, b, rfl, _⟩ := h; rfl) fun cdv Ar outer s H E hr ds k h => ?_
  obtain ⟨a, b, rfl, ha, hb, kk⟩ := h
  refine ⟨_, _, (ss_cons (s_if (XW.t (w_or (t_lt (b_var (pv 0)) (XE.b (c_int pe_int))) (w_or1 (t_lt (b_var (pv 1)) (XE.b (c_int pe_int))))))
    (ss_one (s_ret (x_mul (b_var (pv 0)) (b_var (pv 1)))))
    ss_nil)
    (ss_one (s_ret (e_call (ok_times_within T) (hr.mono (by decide)) T.d_times_within.mg T.d_times_within.F.kp T.d_times_within.bd (a_cons (x_max2 rfl T.b_max (b_call (ok_level_by T) (hr.mono (by decide)) T.d_level_by.mg T.d_level_by.F.kp T.d_level_by.bd (ab_cons (b_var (pv 0)) ab_nil)) (b_call (ok_level_by T) (hr.mono (by decide)) T.d_level_by.mg T.d_level_by.F.kp T.d_level_by.bd (ab_cons (b_var (pv 1)) ab_nil))) (a_cons (e_var (pv 0)) (a_cons (e_var (pv 1)) a_nil))))))), ?_⟩
  walk_at "dl"
  by_cases hs : a < 2 ∨ b < 2
  · rw [nm_small hs] at kk
    have hm : CMul a b ∧ k (.int ((a : Int) * (b : Int))) := by
      refine ⟨?_, by rw [imul]; exact kk⟩
      rcases hs with h | h
      · exact .inl ⟨by omega, by omega⟩
      · exact .inr ⟨by omega, by omega⟩
    rcases hs with h | h
    · rw [if_pos (show (a : Int) < 2 by omega)]; exact hm
    · split
      · exact hm
      · rw [if_pos (show (b : Int) < 2 by omega)]; exact hm
  · have h1 : ¬ (a : Int) < 2 := by omega
    have h2 : ¬ (b : Int) < 2 := by omega
    rw [if_neg h1, if_neg h2]
    have la : NF.lev a ≤ 6 := NF.lev_le (by rw [sz6]; exact ha)
    have lb : NF.lev b ≤ 6 := NF.lev_le (by rw [sz6]; exact hb)
    refine ⟨a, rfl, ha, b, rfl, hb, _, rfl, _, rfl, ?_⟩
    rw [max2]
    exact ⟨max (NF.lev a) (NF.lev b), a, b, rfl, by omega, by omega, NF.lev_le_iff.mp (by omega), NF.lev_le_iff.mp (by omega), kk⟩
end
end M

namespace M
open PySem PySem.Spec L2 DL
section
variable {P : Program} {w : World} {K : PySem.W.Frag} {mg : Str → Option Value} {base : Heap} {A : Nat → Addr} {FD : Nat → FuncData} {TK : Nat → Tok}

local macro_rules | `(tactic| walk_at "dl") => `(tactic| simp (config := { decide := false }) only [dRet, dRetN, dAndV, dOrV, dNotV, dIsI, dBVar, dVar, dLVar, dC, dI, dI0, gI, gB, dCmp, dTest, dNot, dAnd, dOr, dChain, dIx, deSeq, deLst, deSc, dCons, dNil, dCall, dLen, dTup, dLst, dTupOf, dIf, dSeq, dNext, dSet, dvC, dvF, VV.put, dPar, dDrop, dMax2, dMin2, dIntOf, dIfE, dEq, dYes, dgName, dgTup, dgCons, dgNil, dStep, wipeS, dCallR, dFor, dRng1, dRng2, dAsgT, dPar3, dApp, dSortI, dMinI, dRep, dCat, dLLVar, deLL, dIsN, dReprB, dDrI, dDrC, dDrSet, isDr, dDisp3, dMinT, dRevT, dRevL, dStar, dPop, dSetIx, dSortP, dSortSet, dSetPop, dSortK, dRepT, dCatT, dSlT, dSlL, dONo, dOSo, dInI, dIsB, dAugIx, dIsI2, dZipT, dMinK, Bool.xor_false, Bool.xor_true, Sl.dr.injEq, bodyR, D.isN, D.reprB, Nat.reduceLeDiff,
  st0, frzAll, frzAt, frz_da, frz_no, frz_ol, frz_od, frz_dr, Sl.look, Sl.seq, D.seq, D.cls, D.sc, D.toI, bodyE, List.map_cons, List.map_nil, List.length_cons, List.length_nil, List.replicate, List.nil_append, List.cons_append, List.append_nil, List.getElem?_cons_zero, List.getElem?_cons_succ, List.set_cons_zero, List.set_cons_succ, Option.some.injEq, Sl.da.injEq, Sl.ol.injEq, D.int.injEq, D.bl.injEq, D.str.injEq, D.lst.injEq, D.tup.injEq, List.cons.injEq,
  exists_eq_left, exists_eq_left', exists_eq_right, exists_and_left, exists_and_right, and_assoc, and_true, true_and, and_self, ne_eq, not_false_eq_true, forall_const, reduceCtorEq, Nat.reduceSub, Nat.reduceAdd, Nat.sub_self, false_or, or_false, exists_const, exists_eq', exists_eq, exists_false, implies_true, and_false, false_and, if_true, if_false, decide_eq_true_eq, decide_true, decide_false, Bool.false_eq_true, reduceIte, Bool.not_true, Bool.not_false, pl_int, pl_bl, pl_non, pl_lst, pl_tup, pls_nil, pls_cons, pl_ints, pls_ints, pls_bls, eqv_int, eqv_bl, eqv_ints, eqv_tints, eqv_bls, Bool.false_xor, Bool.true_xor, Bool.and_true, Bool.true_and, Int.natCast_inj])

/-! the law's own helpers: the draws -/
theorem bits_lt {z : Int} {n : Nat} (h : Builtin.Int.intBits z ≤ n) : z.natAbs < 2 ^ n := by
  unfold Builtin.Int.intBits at h
  split at h
  · rename_i e
    have : z = 0 := by simpa using e
    subst this
    exact Nat.two_pow_pos n
  · exact Nat.lt_of_lt_of_le Nat.lt_log2_self (Nat.pow_le_pow_right (by decide) h)
def C__law_begun : DC := fun ds k => ∃ ns : List Int, ds = [.fz ns] ∧ ns.length ≤ 63 ∧ (∀ z ∈ ns, Builtin.Int.intBits z ≤ 1048576) ∧ ∀ (w : Int) (cs : List Int), cs.length ≤ 63 → k (.dct [kW, kL, kN] [.int w, .lst (cs.map .int), .int 0])
def BgI (ns : List Int) (i : Nat) (r : List Sl) : Prop := ∃ (p : Addr) (w : Int) (cs : List Int) (x : Sl), r = [.da (.fz ns), .da (.int w), .ol p (cs.map .int), x] ∧ x.addr = none ∧ cs.length = i ∧ 0 ≤ w ∧ (w + 1).natAbs ≤ 2 ^ (1048576 * i)
theorem bg_mul {w m : Int} {i : Nat} (hw : 0 ≤ w) (h : (w + 1).natAbs ≤ 2 ^ (1048576 * i)) (hi : i < 63) (hm0 : 0 < m) (hm : m.natAbs < 2 ^ 1048576) : CMulX w m ∧ (w * m + (m - 1) + 1).natAbs ≤ 2 ^ (1048576 * (i + 1)) := by
  refine ⟨mulx_ok (a := 1048576 * i) (b := 1048576) (by omega) hm (by omega), ?_⟩
  have e : w * m + (m - 1) + 1 = (w + 1) * m := by rw [Int.add_mul]; omega
  rw [e, Int.natAbs_mul, Nat.mul_add, Nat.pow_add, Nat.mul_one]
  exact Nat.mul_le_mul h (Nat.le_of_lt hm)
theorem int_get {ns : List Int} {i : Nat} {d : D} (h : (ns.map D.int)[i]? = some d) : ∃ z, z ∈ ns ∧ d = .int z ∧ i < ns.length := by
  rw [List.getElem?_map] at h
  cases e : ns[i]? with
  | none => rw [e] at h; cases h
  | some z => rw [e] at h; cases h; exact ⟨z, List.mem_of_getElem? e, rfl, (List.getElem?_eq_some_iff.mp e).1⟩
theorem p18 : (10 : Int) ^ Int.toNat 18 = 1000000000000000000 := by decide
theorem p61 : (2 : Int) ^ Int.toNat 61 = 2305843009213693952 := by decide
theorem p50 : (2 : Int) ^ Int.toNat 50 = 1125899906842624 := by decide
theorem p17 : (2 : Int) ^ Int.toNat 17 = 131072 := by decide
theorem app_ints (cs : List Int) (z : Int) : cs.map D.int ++ [D.int z] = (cs ++ [z]).map D.int := by simp
theorem ok__law_begun (T : Txt K mg A FD TK) : FnOk P w K mg base CX0 1 (A 65) (FD 65) ["script"] (spD K C__law_begun) := by
  have S := sc__law_begun
  refine fnD T.d__law_begun.F S (fun ds k h => by obtain ⟨ns, rfl, hl, hb, kk⟩ := h; rfl) fun cdv Ar outer s H E hr ds k h => ?_
  obtain ⟨ns, rfl, hl, hb, kk⟩ := h
  refine ⟨_, _, (ss_cons (s_par (i := 1) (j := 2) rfl S.nd rfl rfl (by decide) (XE.v (c_int pe_int)) (XF.v (f_lst a_nil)))
    (ss_cons (s_for PassesOwn.never rfl (i_seq (e_var (pv 0))) (g_name (i := 3) S.nd rfl)
    (ss_one (s_if (t_val (XE.b (x_isI (t := "int") (by simp [isTypes]) T.b_isinstance T.b_int (by decide +kernel) (b_var (pv 3)))))
    (ss_cons (s_if (t_ge (b_var (pv 3)) (XE.b (x_pow (XE.b (c_int pe_int)) (XE.b (c_int pe_int)))))
    (ss_one (s_set (i := 1) S.nd rfl (XE.v (x_add (XE.b (x_mulX (b_var (pv 1)) (XE.b (x_add (XE.b (x_sub (b_var (pv 3)) (XE.b (x_pow (XE.b (c_int pe_int)) (XE.b (c_int pe_int)))))) (XE.b (c_int pe_int)))))) (XE.b (x_sub (b_var (pv 3)) (XE.b (x_pow (XE.b (c_int pe_int)) (XE.b (c_int pe_int))))))))))
    ss_nil)
    (ss_one (s_app (pv 2) (e_var (pv 3)))))
    ss_nil)))
    (ss_one (s_ret (x_disp3 pe_str pe_str pe_str (e_var (pv 1)) (e_var (pv 2)) (c_int pe_int)))))), ?_⟩
  walk_at "dl"
  intro p
  refine ⟨BgI ns, ⟨p, 0, [], .no, rfl, rfl, rfl, by decide, by simp⟩, ?_, ?_⟩
  · rintro i d r hd ⟨p, w, cs, x, rfl, hx, hc, hw, hh⟩
    obtain ⟨z, hz, rfl, hi⟩ := int_get hd
    walk_at "dl"
    have c18 : CPow 10 18 := ⟨by decide, by decide, by decide⟩
    rw [p18]
    have hl2 : (cs.map D.int).length < 10000000 := by rw [List.length_map]; omega
    have hbz := bits_lt (hb z hz)
    refine ⟨c18, ?_⟩
    by_cases hb' : (1000000000000000000 : Int) ≤ z
    · rw [if_pos hb']
      have hm : (z - 1000000000000000000 + 1).natAbs < 2 ^ 1048576 := Nat.lt_of_le_of_lt (by omega) hbz
      have := bg_mul (m := z - 1000000000000000000 + 1) hw hh (by omega) (by omega) hm
      refine ⟨c18, this.1, c18, hl2, p, _, cs ++ [z], _, by rw [app_ints], rfl, by rw [List.length_append, hc]; rfl, ?_, ?_⟩
      · have := Int.mul_nonneg hw (show (0 : Int) ≤ z - 1000000000000000000 + 1 by omega)
        omega
      · have e : w * (z - 1000000000000000000 + 1) + (z - 1000000000000000000) = w * (z - 1000000000000000000 + 1) + (z - 1000000000000000000 + 1 - 1) := by omega
        rw [e]; exact this.2
    · rw [if_neg hb']
      refine ⟨hl2, p, w, cs ++ [z], _, by rw [app_ints], rfl, by rw [List.length_append, hc]; rfl, hw, ?_⟩
      exact Nat.le_trans hh (Nat.pow_le_pow_right (by decide) (by omega))
  · rintro r ⟨p, w, cs, x, rfl, hx, hc, hw, hh⟩
    walk_at "dl"
    exact kk w cs (by rw [hc, List.length_map]; exact hl)
def C__law_mixed : DC := fun ds k => ds = [] ∧ ∀ z : Int, k (.int z)
def MxI (p c : Addr) (r : List Sl) : Prop := ∃ (z : Int) (x : Sl), r = [.dr p c, .da (.int z), x] ∧ x.addr = none
theorem ok__law_mixed (T : Txt K mg A FD TK) : FnOk P w K mg base CX0 1 (A 66) (FD 66) ["draw"] (spR K C__law_mixed) := by
  have S := sc__law_mixed
  refine fnR T.d__law_mixed.F S (fun ds k h => by obtain ⟨rfl, kk⟩ := h; rfl) fun cdv Ar outer s H E hr ds k p c h => ?_
  obtain ⟨rfl, kk⟩ := h
  refine ⟨_, _, (ss_cons (s_drN hr.units (pv 0) pe_str (x_add (XE.b (x_drN hr.units (pv 0) pe_str)) (XE.b (c_int pe_int))))
    (ss_cons (s_set (i := 1) S.nd rfl (XE.v (x_add (XE.b (c_int pe_int)) (XE.b (x_mul (XE.b (c_int pe_int)) (XE.b (x_drN hr.units (pv 0) pe_str)))))))
    (ss_cons (s_for PassesOwn.never rfl (i_seq (XF.e (f_cat (ll_drC hr.units (pv 0) pe_str) (XF.ll (f_lst (a_cons (x_drN hr.units (pv 0) pe_str) a_nil)))))) (g_name (i := 2) S.nd rfl)
    (ss_cons (s_set (i := 1) S.nd rfl (XE.v (x_mod (XE.b (x_intOf T.b_int (XE.b (x_mul (XE.b (x_add (b_var (pv 1)) (b_var (pv 2)))) (XE.b (c_int pe_int)))))) (XE.b (x_sub (XE.b (x_pow (XE.b (c_int pe_int)) (XE.b (c_int pe_int)))) (XE.b (c_int pe_int)))))))
    (ss_one (s_set (i := 1) S.nd rfl (XE.v (x_add (b_var (pv 1)) (XE.b (x_div (b_var (pv 1)) (XE.b (x_pow (XE.b (c_int pe_int)) (XE.b (c_int pe_int))))))))))))
    (ss_one (s_ret (e_var (pv 1))))))), ?_⟩
  walk_at "dl"
  intro w
  refine ⟨.inl ⟨by decide, by decide⟩, fun ns hl w' => ⟨by rw [List.length_map]; omega, fun _ r => MxI p c r, ⟨_, _, rfl, rfl⟩, ?_, ?_⟩⟩
  · rintro i d r hd ⟨z, x, rfl, _⟩
    have : ∃ y, d = .int y := by
      rw [app_ints] at hd
      obtain ⟨y, _, h, _⟩ := int_get hd
      exact ⟨y, h⟩
    obtain ⟨y, rfl⟩ := this
    walk_at "dl"
    rw [p61, p17]
    exact ⟨.inr ⟨by decide, by decide⟩, ⟨by decide, by decide, by decide⟩, by decide, ⟨by decide, by decide, by decide⟩, wide_div (b := 18) (by decide) (by decide) (by decide) (by decide), _, _, rfl, rfl⟩
  · rintro r ⟨z, x, rfl, _⟩
    walk_at "dl"
    exact kk z
def C__law_take : DC := fun ds k => ∃ a : Nat, ds = [.int a] ∧ a ≤ 1125899906842624 ∧ ∀ r : Nat, r < max 1 a → k (.int r)
def TkI (p c : Addr) (a : Nat) (m : Nat) (r : List Sl) : Prop := ∃ z : Int, r = [.dr p c, .da (.int a), .da (.int z)]
theorem ok__law_take (T : Txt K mg A FD TK) : FnOk P w K mg base CX0 3 (A 67) (FD 67) ["draw", "amount"] (spR K C__law_take) := by
  have S := sc__law_take
  refine fnR T.d__law_take.F S (fun ds k h => by obtain ⟨a, rfl, ha, kk⟩ := h; rfl) fun cdv Ar outer s H E hr ds k p c h => ?_
  obtain ⟨a, rfl, ha, kk⟩ := h
  refine ⟨_, _, (ss_cons (s_if (t_lt (b_var (pv 1)) (XE.b (c_int pe_int)))
    (ss_one (s_ret (c_int pe_int)))
    ss_nil)
    (ss_cons (s_if (t_gt (XE.b (x_drW hr.units (pv 0) pe_str)) (XE.b (c_int pe_int)))
    (ss_cons (s_set (i := 2) S.nd rfl (XE.v (x_mod (XE.b (x_intOf T.b_int (XE.b (x_drW hr.units (pv 0) pe_str)))) (b_var (pv 1)))))
    (ss_cons (s_drW hr.units (pv 0) pe_str (x_div (XE.b (x_drW hr.units (pv 0) pe_str)) (b_var (pv 1))))
    (ss_one (s_ret (e_var (pv 2))))))
    ss_nil)
    (ss_cons (s_set (i := 2) S.nd rfl (XE.v (e_draw (ok__law_mixed T) (hr.mono (by decide)) T.d__law_mixed.mg T.d__law_mixed.F.kp T.d__law_mixed.bd (pv 0) a_nil)))
    (ss_cons (s_while PassesOwn.never (XW.t (w_and (t_gt (b_var (pv 1)) (XE.b (x_pow (XE.b (c_int pe_int)) (XE.b (c_int pe_int))))) (w_and1 (t_lt (b_var (pv 2)) (XE.b (x_mul (b_var (pv 1)) (b_var (pv 1))))))))
    (ss_one (s_set (i := 2) S.nd rfl (XE.v (x_add (XE.b (x_mul (b_var (pv 2)) (XE.b (x_pow (XE.b (c_int pe_int)) (XE.b (c_int pe_int)))))) (XE.b (e_draw (ok__law_mixed T) (hr.mono (by decide)) T.d__law_mixed.mg T.d__law_mixed.F.kp T.d__law_mixed.bd (pv 0) a_nil)))))))
    (ss_one (s_ret (x_mod (XE.b (x_intOf T.b_int (XE.b (x_div (b_var (pv 2)) (XE.b (c_int pe_int)))))) (b_var (pv 1))))))))), ?_⟩
  walk_at "dl"
  have out : 2 ≤ a → ∀ z : Int, k (.int (z.fmod a)) := fun h z => by
    rw [Int.fmod_eq_emod_of_nonneg _ (by omega)]
    have h0 := Int.emod_nonneg z (show (a : Int) ≠ 0 by omega)
    have h1 := Int.emod_lt_of_pos z (show (0 : Int) < a by omega)
    have := kk (z % a).toNat (by omega)
    rwa [Int.toNat_of_nonneg h0] at this
  by_cases h : a < 2
  · rw [if_pos (by omega)]
    exact kk 0 (by omega)
  rw [if_neg (by omega)]
  have dv : ∀ z, CDivW z (a : Int) := fun z => wide_div (b := 60) (by omega) (by omega) (by decide) (by decide)
  intro w
  by_cases hw : 0 < w
  · rw [if_pos hw]
    exact fun w' => ⟨by omega, fun w2 => ⟨dv _, out (by omega) w'⟩⟩
  · rw [if_neg hw]
    refine ⟨rfl, fun z => ?_⟩
    refine ⟨TkI p c a, ⟨0, z, rfl⟩, ?_⟩
    rintro m r ⟨z, rfl⟩
    walk_at "dl"
    rw [p50, if_neg (by omega)]
    refine ⟨⟨by decide, by decide, by decide⟩, wide_div (b := 18) (by decide) (by decide) (by decide) (by decide), by omega, out (by omega) _⟩
def C__law_pick : DC := fun ds k => ∃ d xs, ds = [d] ∧ d.seq = some xs ∧ 0 < xs.length ∧ xs.length ≤ 10000000 ∧ ∀ x ∈ xs, k x
theorem at_nat {α : Type} (xs : List α) (n : Nat) : atI xs (n : Int) = xs[n]? := by
  unfold atI ixN
  by_cases h : n < xs.length
  · simp [h]
  · have : xs[n]? = none := by simp; omega
    rw [this]; simp [h]
theorem ok__law_pick (T : Txt K mg A FD TK) : FnOk P w K mg base CX0 4 (A 68) (FD 68) ["draw", "items"] (spR K C__law_pick) := by
  have S := sc__law_pick
  refine fnR T.d__law_pick.F S (fun ds k h => by obtain ⟨d, xs, rfl, he, h0, hl, kk⟩ := h; rfl) fun cdv Ar outer s H E hr ds k p c h => ?_
  obtain ⟨d, xs, rfl, he, h0, hl, kk⟩ := h
  refine ⟨_, _, (ss_one (s_ret (x_ix (l_var (pv 1)) (XE.b (e_draw (ok__law_take T) (hr.mono (by decide)) T.d__law_take.mg T.d__law_take.F.kp T.d__law_take.bd (pv 0) (a_cons (x_len T.b_len (l_var (pv 1))) a_nil)))))), ?_⟩
  walk_at "dl"
  refine ⟨xs, he, xs, he, xs.length, rfl, by omega, fun r hr => ⟨r, rfl, ?_⟩⟩
  have hr : r < xs.length := by omega
  refine ⟨xs[r], ?_, kk _ (List.getElem_mem hr)⟩
  rw [at_nat]; simp [hr]
end
end M

namespace M
open PySem PySem.Spec L2 DL
section
variable {P : Program} {w : World} {K : PySem.W.Frag} {mg : Str → Option Value} {base : Heap} {A : Nat → Addr} {FD : Nat → FuncData} {TK : Nat → Tok}

local macro_rules | `(tactic| walk_at "dl") => `(tactic| simp (config := { decide := false }) only [dRet, dRetN, dAndV, dOrV, dNotV, dIsI, dBVar, dVar, dLVar, dC, dI, dI0, gI, gB, dCmp, dTest, dNot, dAnd, dOr, dChain, dIx, deSeq, deLst, deSc, dCons, dNil, dCall, dLen, dTup, dLst, dTupOf, dIf, dSeq, dNext, dSet, dvC, dvF, VV.put, dPar, dDrop, dMax2, dMin2, dIntOf, dIfE, dEq, dYes, dgName, dgTup, dgCons, dgNil, dStep, wipeS, dCallR, dFor, dRng1, dRng2, dAsgT, dPar3, dApp, dSortI, dMinI, dRep, dCat, dLLVar, deLL, dIsN, dReprB, dDrI, dDrC, dDrSet, isDr, dDisp3, dMinT, dRevT, dRevL, dStar, dPop, dSetIx, dSortP, dSortSet, dSetPop, dSortK, dRepT, dCatT, dSlT, dSlL, dONo, dOSo, dInI, dIsB, dAugIx, dIsI2, dZipT, dMinK, Bool.xor_false, Bool.xor_true, Sl.dr.injEq, bodyR, D.isN, D.reprB, Nat.reduceLeDiff,
  st0, frzAll, frzAt, frz_da, frz_no, frz_ol, frz_od, frz_dr, Sl.look, Sl.seq, D.seq, D.cls, D.sc, D.toI, bodyE, List.map_cons, List.map_nil, List.length_cons, List.length_nil, List.replicate, List.nil_append, List.cons_append, List.append_nil, List.getElem?_cons_zero, List.getElem?_cons_succ, List.set_cons_zero, List.set_cons_succ, Option.some.injEq, Sl.da.injEq, Sl.ol.injEq, D.int.injEq, D.bl.injEq, D.str.injEq, D.lst.injEq, D.tup.injEq, List.cons.injEq,
  exists_eq_left, exists_eq_left', exists_eq_right, exists_and_left, exists_and_right, and_assoc, and_true, true_and, and_self, ne_eq, not_false_eq_true, forall_const, reduceCtorEq, Nat.reduceSub, Nat.reduceAdd, Nat.sub_self, false_or, or_false, exists_const, exists_eq', exists_eq, exists_false, implies_true, and_false, false_and, if_true, if_false, decide_eq_true_eq, decide_true, decide_false, Bool.false_eq_true, reduceIte, Bool.not_true, Bool.not_false, pl_int, pl_bl, pl_non, pl_lst, pl_tup, pls_nil, pls_cons, pl_ints, pls_ints, pls_bls, eqv_int, eqv_bl, eqv_ints, eqv_tints, eqv_bls, Bool.false_xor, Bool.true_xor, Bool.and_true, Bool.true_and, Int.natCast_inj])

/-! kinds -/
mutual
def ko : Nat → D → Bool
  | _, .non => true
  | _, .bl _ => true
  | _, .int _ => true
  | _, .str s => PyData.strOk s
  | n + 1, .lst ds => kos n ds
  | n + 1, .tup ds => kos n ds
  | 0, .lst _ => false
  | 0, .tup _ => false
  | _, .fz _ => false
  | _, .dct _ _ => false
def kos : Nat → List D → Bool
  | _, [] => true
  | n, d :: ds => ko n d && kos n ds
end
mutual
theorem ko_pl : ∀ (d : D) (n : Nat), ko n d = true → D.pl n d = true
  | .non, n, h => pl_non n
  | .bl b, n, h => pl_bl n b
  | .int i, n, h => pl_int n i
  | .str s, n, h => by
    have : PyData.strOk s = true := by cases n <;> simpa [ko] using h
    cases n <;> simpa [D.pl] using this
  | .lst ds, n, h => by
    cases n with
    | zero => simp [ko] at h
    | succ n => rw [pl_lst]; exact kos_pls ds n (by simpa [ko] using h)
  | .tup ds, n, h => by
    cases n with
    | zero => simp [ko] at h
    | succ n => rw [pl_tup]; exact kos_pls ds n (by simpa [ko] using h)
  | .fz ns, n, h => by cases n <;> simp [ko] at h
  | .dct _ _, n, h => by cases n <;> simp [ko] at h
theorem kos_pls : ∀ (ds : List D) (n : Nat), kos n ds = true → D.pls n ds = true
  | [], n, h => pls_nil n
  | d :: ds, n, h => by
    have h' : ko n d = true ∧ kos n ds = true := by simpa [kos] using h
    rw [pls_cons, ko_pl d n h'.1, kos_pls ds n h'.2]; rfl
end
mutual
theorem ko_up : ∀ (d : D) (n : Nat), ko n d = true → ko (n + 1) d = true
  | .non, n, h => by simp [ko]
  | .bl b, n, h => by simp [ko]
  | .int i, n, h => by simp [ko]
  | .str s, n, h => by
    have : PyData.strOk s = true := by cases n <;> simpa [ko] using h
    simpa [ko] using this
  | .lst ds, n, h => by
    cases n with
    | zero => simp [ko] at h
    | succ n => have := kos_up ds n (by simpa [ko] using h); simpa [ko] using this
  | .tup ds, n, h => by
    cases n with
    | zero => simp [ko] at h
    | succ n => have := kos_up ds n (by simpa [ko] using h); simpa [ko] using this
  | .fz ns, n, h => by cases n <;> simp [ko] at h
  | .dct _ _, n, h => by cases n <;> simp [ko] at h
theorem kos_up : ∀ (ds : List D) (n : Nat), kos n ds = true → kos (n + 1) ds = true
  | [], n, h => by simp [kos]
  | d :: ds, n, h => by
    have h' : ko n d = true ∧ kos n ds = true := by simpa [kos] using h
    have a := ko_up d n h'.1
    have b := kos_up ds n h'.2
    simp [kos, a, b]
end
theorem ko_mono {d : D} {n m : Nat} (h : n ≤ m) (q : ko n d = true) : ko m d = true := by
  induction m with
  | zero => have : n = 0 := by omega
            subst this; exact q
  | succ m ih =>
    rcases Nat.lt_or_ge n (m + 1) with z | z
    · exact ko_up d m (ih (by omega))
    · have : n = m + 1 := by omega
      subst this; exact q
theorem kos_app (n : Nat) : ∀ xs ys : List D, kos n (xs ++ ys) = (kos n xs && kos n ys)
  | [], ys => by simp [kos]
  | x :: xs, ys => by simp [kos, kos_app n xs ys, Bool.and_assoc]
theorem kos_rev (n : Nat) : ∀ xs : List D, kos n xs.reverse = kos n xs
  | [] => rfl
  | x :: xs => by rw [List.reverse_cons, kos_app, kos_rev n xs]; simp [kos, Bool.and_comm]
mutual
def dz : D → Nat
  | .lst ds => 1 + dzs ds
  | .tup ds => 1 + dzs ds
  | .non => 1
  | .bl _ => 1
  | .int _ => 1
  | .str _ => 1
  | .fz _ => 1
  | .dct _ _ => 1
def dzs : List D → Nat
  | [] => 0
  | d :: ds => dz d + dzs ds
end
theorem dzs_app : ∀ xs ys : List D, dzs (xs ++ ys) = dzs xs + dzs ys
  | [], ys => by simp [dzs]
  | x :: xs, ys => by simp [dzs, dzs_app xs ys]; omega
theorem dzs_rev : ∀ xs : List D, dzs xs.reverse = dzs xs
  | [] => rfl
  | x :: xs => by rw [List.reverse_cons, dzs_app, dzs_rev xs]; simp [dzs]; omega
theorem dz_pos (d : D) : 0 < dz d := by cases d <;> simp [dz] <;> omega
theorem len_dzs : ∀ xs : List D, xs.length ≤ dzs xs
  | [] => by simp
  | x :: xs => by have := len_dzs xs; have := dz_pos x; simp only [List.length_cons, dzs]; omega
def kin : Nat → List D → List Str
  | 0, _ => []
  | _ + 1, [] => []
  | n + 1, d :: st => match d with
    | .lst ds => "list" :: kin n (ds.reverse ++ st)
    | .tup ds => "tuple" :: kin n (ds.reverse ++ st)
    | .non => "None" :: kin n st
    | .bl b => (if b then "True" else "False") :: kin n st
    | .int _ => "number" :: kin n st
    | .str _ => "string" :: kin n st
    | _ => "other" :: kin n st
def kinds (d : D) : List Str := kin (dz d) [d]
theorem kin_nil (n : Nat) : kin n [] = [] := by cases n <;> rfl
theorem eqv_nil (ds : List D) : D.eqv (.lst ds) (.lst []) = decide (ds = []) := by
  cases ds with
  | nil => rfl
  | cons d ds => simp [D.eqv, D.py, D.pys, PyData.eqv, PyData.eqvAll]
theorem app_strs (cs : List Str) (z : Str) : cs.map D.str ++ [D.str z] = (cs ++ [z]).map D.str := by simp
theorem kos_c {n : Nat} {d : D} {st : List D} (h : kos n (d :: st) = true) : ko n d = true ∧ kos n st = true := by simpa [kos] using h
theorem kos_up1 {n m : Nat} (h : n ≤ m) : ∀ {ds : List D}, kos n ds = true → kos m ds = true
  | [], _ => by simp [kos]
  | d :: ds, q => by
    have := kos_c q
    simp [kos, ko_mono h this.1, kos_up1 h this.2]
theorem kos_up59 {ds : List D} (h : kos 50 ds = true) : kos 59 ds = true := kos_up1 (by decide) h
theorem kos_up50 {ds : List D} (h : kos 49 ds = true) : kos 50 ds = true := kos_up1 (by decide) h
def C__law_kinds : DC := fun ds k => ∃ d, ds = [d] ∧ ko 50 d = true ∧ dz d ≤ 1000000 ∧ k (.lst ((kinds d).map .str))
def KnI (d : D) (m : Nat) (r : List Sl) : Prop := ∃ (p q : Addr) (found : List Str) (st : List D) (x y : Sl), r = [.da d, .ol p (found.map .str), .ol q st.reverse, x, y] ∧ x.addr = none ∧ y.addr = none ∧ dzs st = m ∧ kos 50 st = true ∧ found ++ kin m st = kinds d ∧ found.length + m ≤ 1000000
theorem kn_step {d e : D} {p q : Addr} {found : List Str} {st : List D} {z : Str} {y : Sl} (hy : y.addr = none) (hs : dz e = 1) (hk : kos 50 (e :: st) = true) (hz : ∀ n, kin (n + 1) (e :: st) = z :: kin n st) (hf : found ++ kin (dzs (e :: st)) (e :: st) = kinds d) (hl : found.length + dzs (e :: st) ≤ 1000000) :
    ∃ m', m' < dzs (e :: st) ∧ KnI d m' [.da d, .ol p (found.map .str ++ [D.str z]), .ol q st.reverse, .da e, y] := by
  have em : dzs (e :: st) = dzs st + 1 := by simp [dzs, hs]; omega
  rw [em] at hf hl
  refine ⟨dzs st, by omega, p, q, found ++ [z], st, _, y, by rw [app_strs], rfl, hy, rfl, (kos_c hk).2, ?_, by simp; omega⟩
  rw [← hf, hz]; simp
theorem kn_big {d e : D} {p q q2 : Addr} {found : List Str} {st ds : List D} {z : Str} {y : Sl} (hy : y.addr = none) (hs : dz e = 1 + dzs ds) (hk : kos 50 (e :: st) = true) (hk2 : kos 50 ds = true) (hz : ∀ n, kin (n + 1) (e :: st) = z :: kin n (ds.reverse ++ st)) (hf : found ++ kin (dzs (e :: st)) (e :: st) = kinds d) (hl : found.length + dzs (e :: st) ≤ 1000000) :
    ∃ m', m' < dzs (e :: st) ∧ KnI d m' [.da d, .ol p (found.map .str ++ [D.str z]), .ol q2 (st.reverse ++ ds), .da e, y] := by
  have e2 : dzs (ds.reverse ++ st) = dzs ds + dzs st := by rw [dzs_app, dzs_rev]
  have em : dzs (e :: st) = dzs (ds.reverse ++ st) + 1 := by rw [e2]; simp [dzs, hs]; omega
  rw [em] at hf hl
  refine ⟨dzs (ds.reverse ++ st), by omega, p, q2, found ++ [z], ds.reverse ++ st, .da e, y, by rw [app_strs]; simp, rfl, hy, rfl, ?_, ?_, by simp at hl ⊢; omega⟩
  · rw [kos_app, kos_rev, hk2, (kos_c hk).2]; rfl
  · rw [← hf, hz]; simp
theorem ok__law_kinds (T : Txt K mg A FD TK) : FnOk P w K mg base CX0 1 (A 69) (FD 69) ["thing"] (spD K C__law_kinds) := by
  have S := sc__law_kinds
  refine fnD T.d__law_kinds.F S (fun ds k h => by obtain ⟨d, rfl, hd, hz, kk⟩ := h; rfl) fun cdv Ar outer s H E hr ds k h => ?_
  obtain ⟨d, rfl, hd, hz, kk⟩ := h
  refine ⟨_, _, (ss_cons (s_par (i := 1) (j := 2) rfl S.nd rfl rfl (by decide) (XF.v (f_lst a_nil)) (XF.v (f_lst (a_cons (e_var (pv 0)) a_nil))))
    (ss_cons (s_while PassesOwn.never (t_ne hr.units (b_var (pv 2)) (XE.b (XF.e (f_lst a_nil))))
    (ss_cons (s_setPop (i := 3) S.nd rfl (pv 2))
    (ss_one (s_if (XW.t (w_or (t_val (XE.b (x_isI (t := "bool") (by simp [isTypes]) T.b_isinstance T.b_bool (by decide +kernel) (b_var (pv 3))))) (w_or1 (t_isN (b_var (pv 3))))))
    (ss_one (s_app (pv 1) (x_reprB T.b_repr (b_var (pv 3)))))
    (ss_one (s_if (t_val (XE.b (x_isI (t := "int") (by simp [isTypes]) T.b_isinstance T.b_int (by decide +kernel) (b_var (pv 3)))))
    (ss_one (s_app (pv 1) (c_str pe_str)))
    (ss_one (s_if (t_val (XE.b (x_isI (t := "str") (by simp [isTypes]) T.b_isinstance T.b_str (by decide +kernel) (b_var (pv 3)))))
    (ss_one (s_app (pv 1) (c_str pe_str)))
    (ss_one (s_if (XW.t (w_or (t_val (XE.b (x_isI (t := "list") (by simp [isTypes]) T.b_isinstance T.b_list (by decide +kernel) (b_var (pv 3))))) (w_or1 (t_val (XE.b (x_isI (t := "tuple") (by simp [isTypes]) T.b_isinstance T.b_tuple (by decide +kernel) (b_var (pv 3))))))))
    (ss_cons (s_app (pv 1) (x_if (t_val (XE.b (x_isI (t := "list") (by simp [isTypes]) T.b_isinstance T.b_list (by decide +kernel) (b_var (pv 3))))) (c_str pe_str) (c_str pe_str)))
    (ss_one (s_set (i := 2) S.nd rfl (XF.v (f_cat (ll_var (pv 2)) (XF.ll (f_lstOf T.b_list (l_var (pv 3)))))))))
    (ss_one (s_if (t_val (XE.b (x_isI (t := "dict") (by simp [isTypes]) T.b_isinstance T.b_dict (by decide +kernel) (b_var (pv 3)))))
    ss_never
    (ss_one (s_app (pv 1) (c_str pe_str)))))))))))))))
    (ss_one (s_ret (e_var (pv 1)))))), ?_⟩
  walk_at "dl"
  intro p q
  refine ⟨KnI d, ⟨dz d, p, q, [], [d], .no, .no, rfl, rfl, rfl, by simp [dzs], by simp [kos, hd], by simp [kinds], by simpa using hz⟩, ?_⟩
  rintro m r ⟨p, q, found, st, x, y, rfl, hx, hy, rfl, hk, hf, hl⟩
  walk_at "dl"
  rw [eqv_nil]
  have hp : D.pls 59 st.reverse = true := kos_pls _ _ (by rw [kos_rev]; exact kos_up59 hk)
  refine ⟨hp, ?_⟩
  cases st with
  | nil =>
    rw [if_neg (by simp)]
    rw [kin_nil, List.append_nil] at hf
    rw [hf]; exact kk
  | cons e st =>
    rw [if_pos (by simp)]
    refine ⟨st.reverse, e, by simp, ?_⟩
    have lf : (found.map D.str).length < 10000000 := by rw [List.length_map]; omega
    have lt := len_dzs st
    have le : dzs (e :: st) = dz e + dzs st := by simp [dzs]
    have hke := (kos_c hk).1
    cases e with
    | fz ns => simp [ko] at hke
    | dct _ _ => simp [ko] at hke
    | non => 
      have := kn_step (p := p) (q := q) hy rfl hk (fun _ => rfl) hf hl
      simp [isInst]
      exact ⟨by simpa using lf, this⟩
    | bl b => 
      have := kn_step (p := p) (q := q) hy rfl hk (fun _ => rfl) hf hl
      simp [isInst]
      exact ⟨by simpa using lf, this⟩
    | int i => 
      have := kn_step (p := p) (q := q) hy rfl hk (fun _ => rfl) hf hl
      simp [isInst]
      exact ⟨by simpa using lf, this⟩
    | str i => 
      have := kn_step (p := p) (q := q) hy rfl hk (fun _ => rfl) hf hl
      simp [isInst]
      exact ⟨by simpa using lf, this⟩
    | lst ds =>
      have hk2 : kos 50 ds = true := kos_up50 (by simpa [ko] using hke)
      have := fun q2 => kn_big (p := p) (q := q) (q2 := q2) (ds := ds) hy (by simp [dz]) hk hk2 (fun _ => rfl) hf hl
      have ld := len_dzs ds
      have l2 : st.length + ds.length ≤ 10000000 := by simp [dz] at le; omega
      simp [isInst]
      exact ⟨by simpa using lf, l2, this⟩
    | tup ds =>
      have hk2 : kos 50 ds = true := kos_up50 (by simpa [ko] using hke)
      have := fun q2 => kn_big (p := p) (q := q) (q2 := q2) (ds := ds) hy (by simp [dz]) hk hk2 (fun _ => rfl) hf hl
      have ld := len_dzs ds
      have l2 : st.length + ds.length ≤ 10000000 := by simp [dz] at le; omega
      simp [isInst]
      exact ⟨by simpa using lf, l2, this⟩
/-! says -/
theorem pls_strs (n : Nat) : ∀ ss : List Str, (∀ s ∈ ss, PyData.strOk s = true) → D.pls n (ss.map D.str) = true
  | [], _ => pls_nil n
  | s :: r, h => by
    rw [List.map_cons, pls_cons, pls_strs n r (fun z hz => h z (by simp [hz]))]
    have := h s (by simp)
    cases n <;> simp [D.pl, this]
def kWords : List Str := ["list", "tuple", "None", "True", "False", "number", "string", "other"]
theorem kin_words : ∀ (n : Nat) (st : List D), ∀ s ∈ kin n st, s ∈ kWords
  | 0, _, s, h => by simp [kin] at h
  | n + 1, [], s, h => by simp [kin] at h
  | n + 1, d :: st, s, h => by
    have ih := kin_words n
    cases d <;> simp only [kin, List.mem_cons] at h <;> rcases h with h | h
    all_goals first
      | exact ih _ s h
      | (subst h; simp [kWords]; done)
      | (subst h; split <;> simp [kWords])
theorem kWords_ok : ∀ s ∈ kWords, PyData.strOk s = true := by decide +kernel
theorem kinds_pl (d : D) : D.pl 60 (.lst ((kinds d).map .str)) = true := by
  rw [pl_lst]
  exact pls_strs _ _ fun s hs => kWords_ok s (kin_words _ _ s hs)
theorem eqv_same {d : D} (h : D.pl 60 d = true) : D.eqv d d = true := SeqAt.eqv_refl _ (pl_shaped d 60 h).1
def C__law_says : DC := fun ds k => ∃ d, ds = [d, d] ∧ ko 50 d = true ∧ dz d ≤ 1000000 ∧ k (.bl true)
theorem ok__law_says (T : Txt K mg A FD TK) : FnOk P w K mg base CX0 2 (A 70) (FD 70) ["told", "due"] (spD K C__law_says) := by
  have S := sc__law_says
  refine fnD T.d__law_says.F S (fun ds k h => by obtain ⟨d, rfl, hd, hz, kk⟩ := h; rfl) fun cdv Ar outer s H E hr ds k h => ?_
  obtain ⟨d, rfl, hd, hz, kk⟩ := h
  refine ⟨_, _, (ss_one (s_ret (x_and (XE.b (x_eq hr.units (b_call (ok__law_kinds T) (hr.mono (by decide)) T.d__law_kinds.mg T.d__law_kinds.F.kp T.d__law_kinds.bd (ab_cons (b_var (pv 0)) ab_nil)) (b_call (ok__law_kinds T) (hr.mono (by decide)) T.d__law_kinds.mg T.d__law_kinds.F.kp T.d__law_kinds.bd (ab_cons (b_var (pv 1)) ab_nil)))) (x_one (x_eq hr.units (b_var (pv 0)) (b_var (pv 1))))))), ?_⟩
  have hp : D.pl 60 d = true := ko_pl _ _ (ko_mono (by decide) hd)
  walk_at "dl"
  refine ⟨d, rfl, hd, hz, d, rfl, hd, hz, kinds_pl d, kinds_pl d, ?_⟩
  rw [eqv_same (kinds_pl d), eqv_same hp]
  simp
  exact ⟨hp, kk⟩
/-! sizes -/
theorem add_self (n : Nat) : ((2 ^ n : Nat) : Int) + ((2 ^ n : Nat) : Int) = ((2 ^ (n + 1) : Nat) : Int) := by rw [Nat.pow_succ]; omega
def C__law_doubled : DC := fun ds k => ∃ n : Nat, ds = [.int n] ∧ n ≤ 1000000 ∧ k (.int (2 ^ n : Nat))
def DbI (n : Nat) (i : Nat) (r : List Sl) : Prop := ∃ x, r = [.da (.int n), .da (.int (2 ^ i : Nat)), x] ∧ x.addr = none
theorem ok__law_doubled (T : Txt K mg A FD TK) : FnOk P w K mg base CX0 1 (A 71) (FD 71) ["many"] (spD K C__law_doubled) := by
  have S := sc__law_doubled
  refine fnD T.d__law_doubled.F S (fun ds k h => by obtain ⟨n, rfl, hn, kk⟩ := h; rfl) fun cdv Ar outer s H E hr ds k h => ?_
  obtain ⟨n, rfl, hn, kk⟩ := h
  refine ⟨_, _, (ss_cons (s_set (i := 1) S.nd rfl (XE.v (c_int pe_int)))
    (ss_cons (s_for PassesOwn.never rfl (i_rng1 T.b_range (b_var (pv 0))) (g_name (i := 2) S.nd rfl)
    (ss_one (s_set (i := 1) S.nd rfl (XE.v (x_add (b_var (pv 1)) (b_var (pv 1)))))))
    (ss_one (s_ret (e_var (pv 1)))))), ?_⟩
  walk_at "dl"
  refine ⟨by omega, by omega, DbI n, ⟨.no, rfl, rfl⟩, ?_, ?_⟩
  · rintro i d r hd ⟨x, rfl, _⟩
    walk_at "dl"
    exact ⟨_, by rw [add_self], rfl⟩
  · rintro r ⟨x, rfl, hx⟩
    rw [rng_len]
    walk_at "dl"
    exact kk
def C__law_size : DC := fun ds k => ∃ n : Nat, ds = [.int n] ∧ n ≤ 6 ∧ k (.int (NF.sz n : Nat))
theorem ok__law_size (T : Txt K mg A FD TK) : FnOk P w K mg base CX0 2 (A 73) (FD 73) ["level"] (spD K C__law_size) := by
  have S := sc__law_size
  refine fnD T.d__law_size.F S (fun ds k h => by obtain ⟨n, rfl, hn, kk⟩ := h; rfl) fun cdv Ar outer s H E hr ds k h => ?_
  obtain ⟨n, rfl, hn, kk⟩ := h
  refine ⟨_, _, (ss_one (s_ret (e_call (ok__law_doubled T) (hr.mono (by decide)) T.d__law_doubled.mg T.d__law_doubled.F.kp T.d__law_doubled.bd (a_cons (e_call (ok__law_doubled T) (hr.mono (by decide)) T.d__law_doubled.mg T.d__law_doubled.F.kp T.d__law_doubled.bd (a_cons (e_var (pv 0)) a_nil)) a_nil)))), ?_⟩
  walk_at "dl"
  refine ⟨n, rfl, by omega, 2 ^ n, rfl, ?_, kk⟩
  have : 2 ^ n ≤ 64 := Nat.pow_le_pow_right (n := 2) (by decide) hn
  omega
def C__law_number : DC := fun ds k => ∃ l : Nat, ds = [.int l] ∧ l ≤ 5 ∧ ∀ a : Nat, a < NF.sz l → k (.int a)
theorem sz5 {l : Nat} (h : l ≤ 5) : NF.sz l ≤ 4294967296 := NF.sz_mono (k := 5) h
end
end M

namespace M
open PySem PySem.Spec L2 DL
section
variable {P : Program} {w : World} {K : PySem.W.Frag} {mg : Str → Option Value} {base : Heap} {A : Nat → Addr} {FD : Nat → FuncData} {TK : Nat → Tok}

local macro_rules | `(tactic| walk_at "dl") => `(tactic| simp (config := { decide := false }) only [dRet, dRetN, dAndV, dOrV, dNotV, dIsI, dBVar, dVar, dLVar, dC, dI, dI0, gI, gB, dCmp, dTest, dNot, dAnd, dOr, dChain, dIx, deSeq, deLst, deSc, dCons, dNil, dCall, dLen, dTup, dLst, dTupOf, dIf, dSeq, dNext, dSet, dvC, dvF, VV.put, dPar, dDrop, dMax2, dMin2, dIntOf, dIfE, dEq, dYes, dgName, dgTup, dgCons, dgNil, dStep, wipeS, dCallR, dFor, dRng1, dRng2, dAsgT, dPar3, dApp, dSortI, dMinI, dRep, dCat, dLLVar, deLL, dIsN, dReprB, dDrI, dDrC, dDrSet, isDr, dDisp3, dMinT, dRevT, dRevL, dStar, dPop, dSetIx, dSortP, dSortSet, dSetPop, dSortK, dRepT, dCatT, dSlT, dSlL, dONo, dOSo, dInI, dIsB, dAugIx, dIsI2, dZipT, dMinK, Bool.xor_false, Bool.xor_true, Sl.dr.injEq, bodyR, D.isN, D.reprB, Nat.reduceLeDiff,
  st0, frzAll, frzAt, frz_da, frz_no, frz_ol, frz_od, frz_dr, Sl.look, Sl.seq, D.seq, D.cls, D.sc, D.toI, bodyE, List.map_cons, List.map_nil, List.length_cons, List.length_nil, List.replicate, List.nil_append, List.cons_append, List.append_nil, List.getElem?_cons_zero, List.getElem?_cons_succ, List.set_cons_zero, List.set_cons_succ, Option.some.injEq, Sl.da.injEq, Sl.ol.injEq, D.int.injEq, D.bl.injEq, D.str.injEq, D.lst.injEq, D.tup.injEq, List.cons.injEq,
  exists_eq_left, exists_eq_left', exists_eq_right, exists_and_left, exists_and_right, and_assoc, and_true, true_and, and_self, ne_eq, not_false_eq_true, forall_const, reduceCtorEq, Nat.reduceSub, Nat.reduceAdd, Nat.sub_self, false_or, or_false, exists_const, exists_eq', exists_eq, exists_false, implies_true, and_false, false_and, if_true, if_false, decide_eq_true_eq, decide_true, decide_false, Bool.false_eq_true, reduceIte, Bool.not_true, Bool.not_false, pl_int, pl_bl, pl_non, pl_lst, pl_tup, pls_nil, pls_cons, pl_ints, pls_ints, pls_bls, eqv_int, eqv_bl, eqv_ints, eqv_tints, eqv_bls, Bool.false_xor, Bool.true_xor, Bool.and_true, Bool.true_and, Int.natCast_inj])

def C_is_number_of : DC := fun ds k => ∃ a : Nat, ds = [.int a] ∧ a < 18446744073709551616 ∧ k (.bl true)
theorem ok_is_number_of (T : Txt K mg A FD TK) : FnOk P w K mg base CX0 2 (A 16) (FD 16) ["thing"] (spD K C_is_number_of) := by
  have S := sc_is_number_of
  refine fnD T.d_is_number_of.F S (fun ds k h => by obtain ⟨a, rfl, ha, kk⟩ := h; rfl) fun cdv Ar outer s H E hr ds k h => ?_
  obtain ⟨a, rfl, ha, kk⟩ := h
  refine ⟨_, _, (ss_one (s_ret (x_and (b_call (ok_is_whole T) (hr.mono (by decide)) T.d_is_whole.mg T.d_is_whole.F.kp T.d_is_whole.bd (ab_cons (b_var (pv 0)) ab_nil)) (x_one (x_chain op_le op_lt (XE.b (c_int pe_int)) (b_var (pv 0)) (XE.b (x_ix (XE.l (c_tup (its := []) (pe_glob rfl T.g_SIZES rfl) T.t_SIZES)) (XE.b (x_neg (XE.b (c_int pe_int))))))))))), ?_⟩
  walk_at "dl"
  refine ⟨_, rfl, _, rfl, ?_⟩
  rw [if_pos (show (0 : Int) ≤ (a : Int) by omega)]
  refine ⟨_, at_last_SZ, _, rfl, ?_⟩
  rw [decide_eq_true (show (a : Int) < ((NF.sz 6 : Nat) : Int) by rw [sz6]; omega)]
  exact kk
def C_need_number : DC := fun ds k => ∃ (a : Nat) (x : Str), ds = [.int a, .str x] ∧ a < 18446744073709551616 ∧ k .non
theorem ok_need_number (T : Txt K mg A FD TK) : FnOk P w K mg base CX0 3 (A 18) (FD 18) ["number", "word"] (spD K C_need_number) := by
  have S := sc_need_number
  refine fnD T.d_need_number.F S (fun ds k h => by obtain ⟨a, x, rfl, ha, kk⟩ := h; rfl) fun cdv Ar outer s H E hr ds k h => ?_
  obtain ⟨a, x, rfl, ha, kk⟩ := h
  refine ⟨_, _, (ss_one (s_if (t_not (t_val (b_call (ok_is_number_of T) (hr.mono (by decide)) T.d_is_number_of.mg T.d_is_number_of.F.kp T.d_is_number_of.bd (ab_cons (b_var (pv 0)) ab_nil))))
    (ss_one s_never)
    ss_nil)), ?_⟩
  walk_at "dl"
  exact ⟨a, rfl, ha, _, rfl, kk⟩
def C_need_level : DC := fun ds k => ∃ l : Nat, ds = [.int l] ∧ l ≤ 6 ∧ k .non
theorem ok_need_level (T : Txt K mg A FD TK) : FnOk P w K mg base CX0 2 (A 19) (FD 19) ["level"] (spD K C_need_level) := by
  have S := sc_need_level
  refine fnD T.d_need_level.F S (fun ds k h => by obtain ⟨l, rfl, hl, kk⟩ := h; rfl) fun cdv Ar outer s H E hr ds k h => ?_
  obtain ⟨l, rfl, hl, kk⟩ := h
  refine ⟨_, _, (ss_one (s_if (XW.t (w_or (t_not (t_val (b_call (ok_is_whole T) (hr.mono (by decide)) T.d_is_whole.mg T.d_is_whole.F.kp T.d_is_whole.bd (ab_cons (b_var (pv 0)) ab_nil)))) (w_or1 (t_not (t_chain op_le op_lt (XE.b (c_int pe_int)) (b_var (pv 0)) (XE.b (x_len T.b_len (XE.l (c_tup (its := []) (pe_glob rfl T.g_SIZES rfl) T.t_SIZES)))))))))
    (ss_one s_never)
    ss_nil)), ?_⟩
  walk_at "dl"
  refine ⟨_, rfl, _, rfl, ?_⟩
  rw [if_pos (show (0 : Int) ≤ (l : Int) by omega)]
  have e : decide ((l : Int) < ((7 : Nat) : Int)) = true := decide_eq_true (by omega)
  simp only [e]
  exact kk
def C_in_level : DC := fun ds k => ∃ l a : Nat, ds = [.int l, .int a] ∧ l ≤ 6 ∧ k (.bl (decide (a < NF.sz l)))
theorem ok_in_level (T : Txt K mg A FD TK) : FnOk P w K mg base CX0 2 (A 20) (FD 20) ["level", "number"] (spD K C_in_level) := by
  have S := sc_in_level
  refine fnD T.d_in_level.F S (fun ds k h => by obtain ⟨l, a, rfl, hl, kk⟩ := h; rfl) fun cdv Ar outer s H E hr ds k h => ?_
  obtain ⟨l, a, rfl, hl, kk⟩ := h
  refine ⟨_, _, (ss_one (s_ret (x_and (b_call (ok_is_whole T) (hr.mono (by decide)) T.d_is_whole.mg T.d_is_whole.F.kp T.d_is_whole.bd (ab_cons (b_var (pv 1)) ab_nil)) (x_one (x_chain op_le op_lt (XE.b (c_int pe_int)) (b_var (pv 1)) (XE.b (x_ix (XE.l (c_tup (its := []) (pe_glob rfl T.g_SIZES rfl) T.t_SIZES)) (b_var (pv 0))))))))), ?_⟩
  walk_at "dl"
  refine ⟨_, rfl, _, rfl, ?_⟩
  rw [if_pos (show (0 : Int) ≤ (a : Int) by omega)]
  refine ⟨_, at_SZ hl, _, rfl, ?_⟩
  have e : decide ((a : Int) < ((NF.sz l : Nat) : Int)) = decide (a < NF.sz l) := by
    by_cases h : a < NF.sz l
    · rw [decide_eq_true h, decide_eq_true (by omega)]
    · rw [decide_eq_false h, decide_eq_false (by omega)]
  rw [e]
  exact kk
def C_need_in : DC := fun ds k => ∃ (l a : Nat) (x : Str), ds = [.int l, .int a, .str x] ∧ l ≤ 6 ∧ a < NF.sz l ∧ k .non
theorem ok_need_in (T : Txt K mg A FD TK) : FnOk P w K mg base CX0 3 (A 21) (FD 21) ["level", "number", "word"] (spD K C_need_in) := by
  have S := sc_need_in
  refine fnD T.d_need_in.F S (fun ds k h => by obtain ⟨l, a, x, rfl, hl, ha, kk⟩ := h; rfl) fun cdv Ar outer s H E hr ds k h => ?_
  obtain ⟨l, a, x, rfl, hl, ha, kk⟩ := h
  refine ⟨_, _, (ss_one (s_if (t_not (t_val (b_call (ok_in_level T) (hr.mono (by decide)) T.d_in_level.mg T.d_in_level.F.kp T.d_in_level.bd (ab_cons (b_var (pv 0)) (ab_cons (b_var (pv 1)) ab_nil)))))
    (ss_one s_never)
    ss_nil)), ?_⟩
  walk_at "dl"
  exact ⟨l, a, rfl, hl, _, rfl, by rw [decide_eq_true ha]; exact kk⟩
def C_level_of : DC := fun ds k => ∃ a : Nat, ds = [.int a] ∧ a < 18446744073709551616 ∧ k (.int (NF.lev a : Nat))
def C_is_plain : DC := C_is_whole
def C_power_by : DC := fun ds k => ∃ a e : Nat, ds = [.int a, .int e] ∧ a < 18446744073709551616 ∧ k (.int (NF.pw a e : Nat))
theorem pw_step (x b : NF.N2) (l : Nat) : x * b ^ l = (if l % 2 = 1 then x * b else x) * (b * b) ^ (l / 2) := by
  have e := Nat.div_add_mod l 2
  have e1 : b ^ l = (b * b) ^ (l / 2) * b ^ (l % 2) := by
    have : b ^ (2 * (l / 2)) = (b * b) ^ (l / 2) := by
      rw [NF.pow_p]; congr 1
      rw [show (2 : Nat) = 0 + 1 + 1 from rfl, NF.pow_s, NF.pow_s, NF.pow_z]; grind
    rw [← this, ← NF.pow_a, e]
  rw [e1]
  rcases Nat.mod_two_eq_zero_or_one l with h | h
  · rw [h, NF.pow_z, if_neg (by decide)]; grind
  · rw [h, if_pos rfl, show (1 : Nat) = 0 + 1 from rfl, NF.pow_s, NF.pow_z]; grind
def PwI (a e : Nat) (m : Nat) (r : List Sl) : Prop := ∃ f b : Nat, r = [.da (.int a), .da (.int e), .da (.int f), .da (.int b), .da (.int m)] ∧ f < 18446744073709551616 ∧ b < 18446744073709551616 ∧ (⟨f⟩ : NF.N2) * ⟨b⟩ ^ m = ⟨a⟩ ^ e
theorem ok_power_by (T : Txt K mg A FD TK) : FnOk P w K mg base CX0 9 (A 26) (FD 26) ["number", "exponent"] (spD K C_power_by) := by
  have S := sc_power_by
  refine fnD T.d_power_by.F S (fun ds k h => by obtain ⟨a, e, rfl, ha, kk⟩ := h; rfl) fun cdv Ar outer s H E hr ds k h => ?_
  obtain ⟨a, e, rfl, ha, kk⟩ := h
  refine ⟨_, _, (ss_cons (s_par3 (i := 2) (j := 3) (l := 4) rfl S.nd rfl rfl rfl (by decide) (by decide) (by decide) (c_int pe_int) (e_var (pv 0)) (e_var (pv 1)))
    (ss_cons (s_while PassesOwn.never (t_gt (b_var (pv 4)) (XE.b (c_int pe_int)))
    (ss_cons (s_if (t_eq hr.units (XE.b (x_mod (b_var (pv 4)) (XE.b (c_int pe_int)))) (XE.b (c_int pe_int)))
    (ss_one (s_set (i := 2) S.nd rfl (XE.v (e_call (ok_times_by T) (hr.mono (by decide)) T.d_times_by.mg T.d_times_by.F.kp T.d_times_by.bd (a_cons (e_var (pv 2)) (a_cons (e_var (pv 3)) a_nil))))))
    ss_nil)
    (ss_cons (s_set (i := 4) S.nd rfl (XE.v (x_div (b_var (pv 4)) (XE.b (c_int pe_int)))))
    (ss_one (s_if (t_gt (b_var (pv 4)) (XE.b (c_int pe_int)))
    (ss_one (s_set (i := 3) S.nd rfl (XE.v (e_call (ok_times_by T) (hr.mono (by decide)) T.d_times_by.mg T.d_times_by.F.kp T.d_times_by.bd (a_cons (e_var (pv 3)) (a_cons (e_var (pv 3)) a_nil))))))
    ss_nil)))))
    (ss_one (s_ret (e_var (pv 2)))))), ?_⟩
  walk_at "dl"
  refine ⟨PwI a e, ⟨e, 1, a, rfl, by decide, ha, ?_⟩, ?_⟩
  · show (1 : NF.N2) * ⟨a⟩ ^ e = ⟨a⟩ ^ e
    grind
  rintro m r ⟨f, b, rfl, hf, hb, hi⟩
  walk_at "dl"
  have e2 : (m : Int) / 2 = ((m / 2 : Nat) : Int) := by omega
  have e3 : (m : Int).fmod 2 = ((m % 2 : Nat) : Int) := fmodN m 2
  have dv2 : CDivW (m : Int) 2 := ⟨by decide, by decide⟩
  have lt : ∀ {x y : Nat}, x < 18446744073709551616 → y < 18446744073709551616 → NF.nm x y < 18446744073709551616 := fun {x y} h1 h2 => NF.nm_lt (k := 6) h1 h2
  rcases Nat.eq_zero_or_pos m with h0 | h0
  · subst h0
    rw [if_neg (by decide)]
    have : (⟨f⟩ : NF.N2) = ⟨a⟩ ^ e := by rw [← hi, NF.pow_z]; grind
    have : f = NF.pw a e := congrArg NF.N2.v this
    rw [this]; exact kk
  · rw [if_pos (by omega), e3, e2]
    refine ⟨by decide, ?_⟩
    rw [pw_step] at hi
    by_cases hp : m % 2 = 1
    · rw [if_pos hp] at hi
      rw [if_pos (by omega)]
      refine ⟨f, b, rfl, hf, hb, dv2, ?_⟩
      by_cases h2 : 0 < m / 2
      · rw [if_pos (by omega)]
        exact ⟨b, b, rfl, hb, hb, m / 2, by omega, _, _, rfl, lt hf hb, lt hb hb, hi⟩
      · rw [if_neg (by omega)]
        have h3 : m / 2 = 0 := by omega
        rw [h3, NF.pow_z] at hi
        refine ⟨m / 2, by omega, _, b, rfl, lt hf hb, hb, ?_⟩
        rw [h3, NF.pow_z]; exact hi
    · rw [if_neg hp] at hi
      rw [if_neg (by omega)]
      refine ⟨dv2, ?_⟩
      by_cases h2 : 0 < m / 2
      · rw [if_pos (by omega)]
        exact ⟨b, b, rfl, hb, hb, m / 2, by omega, _, _, rfl, hf, lt hb hb, hi⟩
      · omega
def C_power : DC := fun ds k => ∃ a e : Nat, ds = [.int a, .int e] ∧ a < 18446744073709551616 ∧ e < 18446744073709551616 ∧ k (.int (NF.pw a e : Nat))
theorem ok_power (T : Txt K mg A FD TK) : FnOk P w K mg base CX0 10 (A 28) (FD 28) ["number", "exponent"] (spD K C_power) := by
  have S := sc_power
  refine fnD T.d_power.F S (fun ds k h => by obtain ⟨a, e, rfl, ha, he, kk⟩ := h; rfl) fun cdv Ar outer s H E hr ds k h => ?_
  obtain ⟨a, e, rfl, ha, he, kk⟩ := h
  refine ⟨_, _, (ss_cons (s_expr (b_call (ok_need_number T) (hr.mono (by decide)) T.d_need_number.mg T.d_need_number.F.kp T.d_need_number.bd (ab_cons (b_var (pv 0)) (ab_cons (XE.b (c_str pe_str)) ab_nil))))
    (ss_cons (s_if (XW.t (w_or (t_not (t_val (b_call (ok_is_whole T) (hr.mono (by decide)) T.d_is_whole.mg T.d_is_whole.F.kp T.d_is_whole.bd (ab_cons (b_var (pv 1)) ab_nil)))) (w_or1 (t_not (t_chain op_le op_lt (XE.b (c_int pe_int)) (b_var (pv 1)) (XE.b (x_ix (XE.l (c_tup (its := []) (pe_glob rfl T.g_SIZES rfl) T.t_SIZES)) (XE.b (x_neg (XE.b (c_int pe_int)))))))))))
    (ss_one s_never)
    ss_nil)
    (ss_one (s_ret (e_call (ok_power_by T) (hr.mono (by decide)) T.d_power_by.mg T.d_power_by.F.kp T.d_power_by.bd (a_cons (e_var (pv 0)) (a_cons (e_var (pv 1)) a_nil))))))), ?_⟩
  walk_at "dl"
  refine ⟨a, _, rfl, ha, _, rfl, _, rfl, ?_⟩
  have h0 : (0 : Int) ≤ (e : Int) := by omega
  have h1 : decide ((e : Int) < ((NF.sz 6 : Nat) : Int)) = true := decide_eq_true (by rw [sz6]; omega)
  simp only [Bool.not_true, Bool.false_eq_true, if_false, if_pos h0]
  refine ⟨_, at_last_SZ, _, rfl, ?_⟩
  simp only [h1, Bool.not_true, Bool.false_eq_true, if_false]
  exact ⟨a, e, rfl, ha, kk⟩
def C_led_by : DC := fun ds k => ∃ a t : Nat, ds = [.int a, .int t] ∧ a < 18446744073709551616 ∧ t ≤ 1000 ∧ k (.int (NF.frN t a : Nat))
def LdI (a t : Nat) (i : Nat) (r : List Sl) : Prop := ∃ x, r = [.da (.int a), .da (.int t), .da (.int (NF.frN i a : Nat)), x] ∧ x.addr = none
def C_led : DC := fun ds k => ∃ a t : Nat, ds = [.int a, .int t] ∧ a < 18446744073709551616 ∧ t ≤ 64 ∧ k (.int (NF.frN t a : Nat))
/-! conjugates -/
def conjL (a : Nat) : List Nat := (List.range (2 ^ NF.lev a)).map fun i => NF.frN i a
def nat_ints (l : List Nat) : List Int := l.map fun (n : Nat) => (n : Int)
def C_conjugates_by : DC := fun ds k => ∃ a : Nat, ds = [.int a] ∧ a < 18446744073709551616 ∧ ∀ ns : List Int, ns.Perm (nat_ints (conjL a)) → ns.Pairwise (· ≤ ·) → k (.lst (ns.map .int))
def CjI (a : Nat) (m : Nat) (r : List Sl) : Prop := ∃ p i, r = [.da (.int a), .ol p ((nat_ints ((List.range (i + 1)).map fun j => NF.frN j a)).map .int), .da (.int (NF.frN (i + 1) a : Nat))] ∧ i < 2 ^ NF.lev a ∧ m = 2 ^ NF.lev a - i
def C_conjugates : DC := fun ds k => ∃ l a : Nat, ds = [.int l, .int a] ∧ l ≤ 6 ∧ a < NF.sz l ∧ ∀ ns : List Int, ns.Perm (nat_ints (conjL a)) → ns.Pairwise (· ≤ ·) → k (.tup (ns.map .int))
/-! orders -/
def C_order_by : DC := fun ds k => ∃ a : Nat, ds = [.int a] ∧ a < 18446744073709551616 ∧ k (.int (NF.ordBy a : Nat))
def PRI : List Int := [3, 5, 17, 257, 641, 65537, 6700417]
def OrI (a : Nat) (i : Nat) (r : List Sl) : Prop := ∃ x, r = [.da (.int a), .da (.int ((NF.PR.take i).foldl (NF.oStep a) (NF.sz (NF.lev a) - 1) : Nat)), x] ∧ x.addr = none
theorem pr_get {i : Nat} {d : D} (h : (PRI.map D.int)[i]? = some d) : ∃ p : Nat, d = .int p ∧ NF.PR[i]? = some p ∧ 1 < p ∧ p < 6700418 := by
  have hi : i < 7 := (List.getElem?_eq_some_iff.mp h).1
  have : i = 0 ∨ i = 1 ∨ i = 2 ∨ i = 3 ∨ i = 4 ∨ i = 5 ∨ i = 6 := by omega
  rcases this with rfl | rfl | rfl | rfl | rfl | rfl | rfl <;> (cases h; exact ⟨_, rfl, rfl, by decide, by decide⟩)
theorem take_fold (a f : Nat) {i p : Nat} (h : NF.PR[i]? = some p) : (NF.PR.take (i + 1)).foldl (NF.oStep a) f = NF.oStep a ((NF.PR.take i).foldl (NF.oStep a) f) p := by
  rw [List.take_add_one, h, List.foldl_append]; rfl
theorem ok_order_by (T : Txt K mg A FD TK) : FnOk P w K mg base CX0 10 (A 48) (FD 48) ["number"] (spD K C_order_by) := by
  have S := sc_order_by
  refine fnD T.d_order_by.F S (fun ds k h => by obtain ⟨a, rfl, ha, kk⟩ := h; rfl) fun cdv Ar outer s H E hr ds k h => ?_
  obtain ⟨a, rfl, ha, kk⟩ := h
  refine ⟨_, _, (ss_cons (s_set (i := 1) S.nd rfl (XE.v (x_sub (XE.b (x_ix (XE.l (c_tup (its := []) (pe_glob rfl T.g_SIZES rfl) T.t_SIZES)) (b_call (ok_level_by T) (hr.mono (by decide)) T.d_level_by.mg T.d_level_by.F.kp T.d_level_by.bd (ab_cons (b_var (pv 0)) ab_nil)))) (XE.b (c_int pe_int)))))
    (ss_cons (s_for PassesOwn.never rfl (i_seq (c_tup (its := []) (pe_glob rfl T.g_PRIMES rfl) T.t_PRIMES)) (g_name (i := 2) S.nd rfl)
    (ss_one (s_if (XW.t (w_and (t_eq hr.units (XE.b (x_mod (b_var (pv 1)) (b_var (pv 2)))) (XE.b (c_int pe_int))) (w_and1 (t_eq hr.units (b_call (ok_power_by T) (hr.mono (by decide)) T.d_power_by.mg T.d_power_by.F.kp T.d_power_by.bd (ab_cons (b_var (pv 0)) (ab_cons (XE.b (x_div (b_var (pv 1)) (b_var (pv 2)))) ab_nil))) (XE.b (c_int pe_int))))))
    (ss_one (s_set (i := 1) S.nd rfl (XE.v (x_div (b_var (pv 1)) (b_var (pv 2))))))
    ss_nil)))
    (ss_one (s_ret (e_var (pv 1)))))), ?_⟩
  walk_at "dl"
  have hL : NF.lev a ≤ 6 := NF.lev_le (k := 6) ha
  have hz := NF.sz_pos (NF.lev a)
  refine ⟨a, rfl, ha, _, rfl, _, at_SZ hL, _, rfl, OrI a, ⟨.no, ?_, rfl⟩, ?_, ?_⟩
  · have : ((NF.sz (NF.lev a) : Nat) : Int) - 1 = ((NF.sz (NF.lev a) - 1 : Nat) : Int) := by omega
    rw [this]; rfl
  · rintro i d r hd ⟨x, rfl, _⟩
    obtain ⟨p, rfl, hp, hp1, hp2⟩ := pr_get hd
    unfold OrI
    rw [take_fold a _ hp]
    generalize (NF.PR.take i).foldl (NF.oStep a) (NF.sz (NF.lev a) - 1) = f
    walk_at "dl"
    have e1 : (f : Int).fmod (p : Int) = ((f % p : Nat) : Int) := fmodN f p
    have e2 : (f : Int) / (p : Int) = ((f / p : Nat) : Int) := idiv f p
    have dv : CDivW (f : Int) (p : Int) := wide_div (b := 30) (by omega) (by omega) (by decide) (by decide)
    refine ⟨by omega, ?_⟩
    rw [e1, e2]
    by_cases c1 : f % p = 0
    · rw [if_pos (by omega)]
      refine ⟨dv, a, f / p, rfl, ha, ?_⟩
      by_cases c2 : NF.pw a (f / p) = 1
      · have q : NF.oStep a f p = f / p := by unfold NF.oStep; rw [if_pos ⟨c1, c2⟩]
        simp only [pl_int, eqv_int, c2, q]
        refine ⟨trivial, ?_⟩
        rw [if_pos (by decide)]
        exact ⟨dv, trivial, rfl⟩
      · have q : NF.oStep a f p = f := by unfold NF.oStep; rw [if_neg (fun z => c2 z.2)]
        have c3 : ¬ ((NF.pw a (f / p) : Nat) : Int) = 1 := by omega
        simp only [pl_int, eqv_int, c3, q]
        refine ⟨trivial, ?_⟩
        first | exact ⟨trivial, rfl⟩ | (rw [if_neg (by decide)]; exact ⟨rfl, rfl⟩)
    · have q : NF.oStep a f p = f := by unfold NF.oStep; rw [if_neg (fun z => c1 z.1)]
      rw [if_neg (by omega), q]
      exact ⟨rfl, rfl⟩
  · rintro r ⟨x, rfl, hx⟩
    walk_at "dl"
    exact kk
def C_is_maker_by : DC := fun ds k => ∃ l a : Nat, ds = [.int l, .int a] ∧ l ≤ 6 ∧ a < 18446744073709551616 ∧ k (.bl (decide (0 < a ∧ NF.ordBy a = NF.sz l - 1)))
def C_order : DC := fun ds k => ∃ a : Nat, ds = [.int a] ∧ a < 18446744073709551616 ∧ a ≠ 0 ∧ k (.int (NF.ordBy a : Nat))
theorem ok_order (T : Txt K mg A FD TK) : FnOk P w K mg base CX0 11 (A 49) (FD 49) ["number"] (spD K C_order) := by
  have S := sc_order
  refine fnD T.d_order.F S (fun ds k h => by obtain ⟨a, rfl, ha, h0, kk⟩ := h; rfl) fun cdv Ar outer s H E hr ds k h => ?_
  obtain ⟨a, rfl, ha, h0, kk⟩ := h
  refine ⟨_, _, (ss_cons (s_expr (b_call (ok_need_number T) (hr.mono (by decide)) T.d_need_number.mg T.d_need_number.F.kp T.d_need_number.bd (ab_cons (b_var (pv 0)) (ab_cons (XE.b (c_str pe_str)) ab_nil))))
    (ss_cons (s_if (t_eq hr.units (b_var (pv 0)) (XE.b (c_int pe_int)))
    (ss_one s_never)
    ss_nil)
    (ss_one (s_ret (e_call (ok_order_by T) (hr.mono (by decide)) T.d_order_by.mg T.d_order_by.F.kp T.d_order_by.bd (a_cons (e_var (pv 0)) a_nil)))))), ?_⟩
  walk_at "dl"
  refine ⟨a, _, rfl, ha, ?_⟩
  rw [if_neg (by omega)]
  exact ⟨a, rfl, ha, kk⟩
def C_is_maker : DC := fun ds k => ∃ l a : Nat, ds = [.int l, .int a] ∧ l ≤ 6 ∧ a < NF.sz l ∧ k (.bl (decide (0 < a ∧ NF.ordBy a = NF.sz l - 1)))
/-! the least maker of small levels -/
def lmk : Nat → Nat
  | 0 => 1
  | 1 => 2
  | 2 => 4
  | _ => 18
def C_least_maker : DC := fun ds k => ∃ l : Nat, ds = [.int l] ∧ l ≤ 3 ∧ k (.int (lmk l : Nat))
def LmI (l : Nat) (m : Nat) (r : List Sl) : Prop := ∃ f : Nat, r = [.da (.int l), .da (.int f)] ∧ f + m = lmk l ∧ (∀ x, f ≤ x → x < lmk l → ¬ (0 < x ∧ NF.ordBy x = NF.sz l - 1))
theorem lmk_ok {l : Nat} (h : l ≤ 3) : NF.ordBy (lmk l) = NF.sz l - 1 := by
  have : l = 0 ∨ l = 1 ∨ l = 2 ∨ l = 3 := by omega
  rcases this with rfl | rfl | rfl | rfl <;> decide +kernel
theorem lmk_pos (l : Nat) : 0 < lmk l ∧ lmk l ≤ 18 := by unfold lmk; split <;> decide
end
end M

namespace M
open PySem PySem.Spec L2 DL
section
variable {P : Program} {w : World} {K : PySem.W.Frag} {mg : Str → Option Value} {base : Heap} {A : Nat → Addr} {FD : Nat → FuncData} {TK : Nat → Tok}

local macro_rules | `(tactic| walk_at "dl") => `(tactic| simp (config := { decide := false }) only [dRet, dRetN, dAndV, dOrV, dNotV, dIsI, dBVar, dVar, dLVar, dC, dI, dI0, gI, gB, dCmp, dTest, dNot, dAnd, dOr, dChain, dIx, deSeq, deLst, deSc, dCons, dNil, dCall, dLen, dTup, dLst, dTupOf, dIf, dSeq, dNext, dSet, dvC, dvF, VV.put, dPar, dDrop, dMax2, dMin2, dIntOf, dIfE, dEq, dYes, dgName, dgTup, dgCons, dgNil, dStep, wipeS, dCallR, dFor, dRng1, dRng2, dAsgT, dPar3, dApp, dSortI, dMinI, dRep, dCat, dLLVar, deLL, dIsN, dReprB, dDrI, dDrC, dDrSet, isDr, dDisp3, dMinT, dRevT, dRevL, dStar, dPop, dSetIx, dSortP, dSortSet, dSetPop, dSortK, dRepT, dCatT, dSlT, dSlL, dONo, dOSo, dInI, dIsB, dAugIx, dIsI2, dZipT, dMinK, Bool.xor_false, Bool.xor_true, Sl.dr.injEq, bodyR, D.isN, D.reprB, Nat.reduceLeDiff,
  st0, frzAll, frzAt, frz_da, frz_no, frz_ol, frz_od, frz_dr, Sl.look, Sl.seq, D.seq, D.cls, D.sc, D.toI, bodyE, List.map_cons, List.map_nil, List.length_cons, List.length_nil, List.replicate, List.nil_append, List.cons_append, List.append_nil, List.getElem?_cons_zero, List.getElem?_cons_succ, List.set_cons_zero, List.set_cons_succ, Option.some.injEq, Sl.da.injEq, Sl.ol.injEq, D.int.injEq, D.bl.injEq, D.str.injEq, D.lst.injEq, D.tup.injEq, List.cons.injEq,
  exists_eq_left, exists_eq_left', exists_eq_right, exists_and_left, exists_and_right, and_assoc, and_true, true_and, and_self, ne_eq, not_false_eq_true, forall_const, reduceCtorEq, Nat.reduceSub, Nat.reduceAdd, Nat.sub_self, false_or, or_false, exists_const, exists_eq', exists_eq, exists_false, implies_true, and_false, false_and, if_true, if_false, decide_eq_true_eq, decide_true, decide_false, Bool.false_eq_true, reduceIte, Bool.not_true, Bool.not_false, pl_int, pl_bl, pl_non, pl_lst, pl_tup, pls_nil, pls_cons, pl_ints, pls_ints, pls_bls, eqv_int, eqv_bl, eqv_ints, eqv_tints, eqv_bls, Bool.false_xor, Bool.true_xor, Bool.and_true, Bool.true_and, Int.natCast_inj])

/-! between levels: lines of leads -/
def STP : List Int := [1, 2, 4, 8, 16, 32, 64]
theorem at_STP {l : Nat} (h : l ≤ 6) : atI (STP.map D.int) (l : Int) = some (.int (2 ^ l : Nat)) := by
  have : l = 0 ∨ l = 1 ∨ l = 2 ∨ l = 3 ∨ l = 4 ∨ l = 5 ∨ l = 6 := by omega
  rcases this with rfl | rfl | rfl | rfl | rfl | rfl | rfl <;> rfl
theorem p64 {l : Nat} (h : l ≤ 6) : 2 ^ l ≤ 64 := Nat.pow_le_pow_right (n := 2) (by decide) h
theorem lt64 {l a : Nat} (h : l ≤ 6) (ha : a < NF.sz l) : a < 18446744073709551616 := by have := szle h; omega
def C_need_less : DC := fun ds k => ∃ l s : Nat, ds = [.int l, .int s] ∧ l ≤ 6 ∧ s ≤ l ∧ k .non
def lineD (s n a : Nat) : List D := (List.range n).map fun j => D.int (NF.frN (j * 2 ^ s) a : Nat)
theorem lineD_succ (s n a : Nat) : lineD s (n + 1) a = lineD s n a ++ [D.int (NF.frN (n * 2 ^ s) a : Nat)] := by simp [lineD, List.range_succ]
theorem lineD_len (s n a : Nat) : (lineD s n a).length = n := by simp [lineD]
theorem lineD_get {s n a i : Nat} {d : D} (h : (lineD s n a)[i]? = some d) : i < n ∧ d = D.int (NF.frN (i * 2 ^ s) a : Nat) := by
  unfold lineD at h
  rw [List.getElem?_map] at h
  have hi : i < n := by
    rcases Nat.lt_or_ge i n with q | q
    · exact q
    · rw [List.getElem?_eq_none (by simpa using q)] at h; cases h
  rw [List.getElem?_eq_getElem (by simpa using hi)] at h
  simp at h
  exact ⟨hi, h.symm⟩
theorem at_end {α : Type} (xs : List α) (y : α) : atI (xs ++ [y]) (-1) = some y := by
  unfold atI ixN
  rw [if_neg (by decide), if_pos (by simp; omega)]
  have e : (-1 + ((xs ++ [y]).length : Int)).toNat = xs.length := by simp; omega
  show (xs ++ [y])[(-1 + ((xs ++ [y]).length : Int)).toNat]? = some y
  rw [e]; simp
theorem step_div {l s : Nat} (h : s ≤ l) : ((2 ^ l : Nat) : Int) / ((2 ^ s : Nat) : Int) - 1 = ((2 ^ (l - s) - 1 : Nat) : Int) := by
  rw [idiv, Nat.pow_div h (by decide)]
  have := Nat.two_pow_pos (l - s)
  omega
def C_line_of : DC := fun ds k => ∃ l s a : Nat, ds = [.int l, .int s, .int a] ∧ l ≤ 6 ∧ s ≤ l ∧ a < 18446744073709551616 ∧ k (.lst (lineD s (2 ^ (l - s)) a))
def LnI (l s a : Nat) (i : Nat) (r : List Sl) : Prop := ∃ p x, r = [.da (.int l), .da (.int s), .da (.int a), .ol p (lineD s (i + 1) a), x] ∧ x.addr = none
def C_trace_between : DC := fun ds k => ∃ l s a : Nat, ds = [.int l, .int s, .int a] ∧ l ≤ 6 ∧ s ≤ l ∧ a < 18446744073709551616 ∧ k (.int (NF.trb s (2 ^ (l - s)) a : Nat))
def TbI (l s a : Nat) (i : Nat) (r : List Sl) : Prop := ∃ x, r = [.da (.int l), .da (.int s), .da (.int a), .da (.int (NF.trb s i a : Nat)), x] ∧ x.addr = none
def C_norm_between : DC := fun ds k => ∃ l s a : Nat, ds = [.int l, .int s, .int a] ∧ l ≤ 6 ∧ s ≤ l ∧ a < 18446744073709551616 ∧ k (.int (NF.nrb s (2 ^ (l - s)) a : Nat))
def NbI (l s a : Nat) (i : Nat) (r : List Sl) : Prop := ∃ x, r = [.da (.int l), .da (.int s), .da (.int a), .da (.int (NF.nrb s i a : Nat)), x] ∧ x.addr = none
def C_trace_to : DC := fun ds k => ∃ l s a : Nat, ds = [.int l, .int s, .int a] ∧ l ≤ 6 ∧ s ≤ l ∧ a < NF.sz l ∧ k (.int (NF.trb s (2 ^ (l - s)) a : Nat))
def C_norm_to : DC := fun ds k => ∃ l s a : Nat, ds = [.int l, .int s, .int a] ∧ l ≤ 6 ∧ s ≤ l ∧ a < NF.sz l ∧ k (.int (NF.nrb s (2 ^ (l - s)) a : Nat))
def C_inverse_by : DC := fun ds k => ∃ a : Nat, ds = [.int a] ∧ a < 18446744073709551616 ∧ k (.int (NF.pw a (NF.sz (NF.lev a) - 2) : Nat))
theorem ok_inverse_by (T : Txt K mg A FD TK) : FnOk P w K mg base CX0 10 (A 27) (FD 27) ["number"] (spD K C_inverse_by) := by
  have S := sc_inverse_by
  refine fnD T.d_inverse_by.F S (fun ds k h => by obtain ⟨a, rfl, ha, kk⟩ := h; rfl) fun cdv Ar outer s H E hr ds k h => ?_
  obtain ⟨a, rfl, ha, kk⟩ := h
  refine ⟨_, _, (ss_one (s_ret (e_call (ok_power_by T) (hr.mono (by decide)) T.d_power_by.mg T.d_power_by.F.kp T.d_power_by.bd (a_cons (e_var (pv 0)) (a_cons (x_sub (XE.b (x_ix (XE.l (c_tup (its := []) (pe_glob rfl T.g_SIZES rfl) T.t_SIZES)) (b_call (ok_level_by T) (hr.mono (by decide)) T.d_level_by.mg T.d_level_by.F.kp T.d_level_by.bd (ab_cons (b_var (pv 0)) ab_nil)))) (XE.b (c_int pe_int))) a_nil))))), ?_⟩
  walk_at "dl"
  have hL : NF.lev a ≤ 6 := NF.lev_le (k := 6) ha
  have h2 := NF.two_le_sz (NF.lev a)
  refine ⟨a, rfl, ha, _, rfl, _, at_SZ hL, _, rfl, a, NF.sz (NF.lev a) - 2, ?_, ha, kk⟩
  have : ((NF.sz (NF.lev a) : Nat) : Int) - 2 = ((NF.sz (NF.lev a) - 2 : Nat) : Int) := by omega
  rw [this]
def C_root_by : DC := fun ds k => ∃ a : Nat, ds = [.int a] ∧ a < 18446744073709551616 ∧ k (.int (NF.pw a (NF.sz (NF.lev a) / 2) : Nat))
end
end M

namespace M
open PySem PySem.Spec L2 DL
section
variable {P : Program} {w : World} {K : PySem.W.Frag} {mg : Str → Option Value} {base : Heap} {A : Nat → Addr} {FD : Nat → FuncData} {TK : Nat → Tok}

local macro_rules | `(tactic| walk_at "dl") => `(tactic| simp (config := { decide := false }) only [dRet, dRetN, dAndV, dOrV, dNotV, dIsI, dBVar, dVar, dLVar, dC, dI, dI0, gI, gB, dCmp, dTest, dNot, dAnd, dOr, dChain, dIx, deSeq, deLst, deSc, dCons, dNil, dCall, dLen, dTup, dLst, dTupOf, dIf, dSeq, dNext, dSet, dvC, dvF, VV.put, dPar, dDrop, dMax2, dMin2, dIntOf, dIfE, dEq, dYes, dgName, dgTup, dgCons, dgNil, dStep, wipeS, dCallR, dFor, dRng1, dRng2, dAsgT, dPar3, dApp, dSortI, dMinI, dRep, dCat, dLLVar, deLL, dIsN, dReprB, dDrI, dDrC, dDrSet, isDr, dDisp3, dMinT, dRevT, dRevL, dStar, dPop, dSetIx, dSortP, dSortSet, dSetPop, dSortK, dRepT, dCatT, dSlT, dSlL, dONo, dOSo, dInI, dIsB, dAugIx, dIsI2, dZipT, dMinK, Bool.xor_false, Bool.xor_true, Sl.dr.injEq, bodyR, D.isN, D.reprB, Nat.reduceLeDiff,
  st0, frzAll, frzAt, frz_da, frz_no, frz_ol, frz_od, frz_dr, Sl.look, Sl.seq, D.seq, D.cls, D.sc, D.toI, bodyE, List.map_cons, List.map_nil, List.length_cons, List.length_nil, List.replicate, List.nil_append, List.cons_append, List.append_nil, List.getElem?_cons_zero, List.getElem?_cons_succ, List.set_cons_zero, List.set_cons_succ, Option.some.injEq, Sl.da.injEq, Sl.ol.injEq, D.int.injEq, D.bl.injEq, D.str.injEq, D.lst.injEq, D.tup.injEq, List.cons.injEq,
  exists_eq_left, exists_eq_left', exists_eq_right, exists_and_left, exists_and_right, and_assoc, and_true, true_and, and_self, ne_eq, not_false_eq_true, forall_const, reduceCtorEq, Nat.reduceSub, Nat.reduceAdd, Nat.sub_self, false_or, or_false, exists_const, exists_eq', exists_eq, exists_false, implies_true, and_false, false_and, if_true, if_false, decide_eq_true_eq, decide_true, decide_false, Bool.false_eq_true, reduceIte, Bool.not_true, Bool.not_false, pl_int, pl_bl, pl_non, pl_lst, pl_tup, pls_nil, pls_cons, pl_ints, pls_ints, pls_bls, eqv_int, eqv_bl, eqv_ints, eqv_tints, eqv_bls, Bool.false_xor, Bool.true_xor, Bool.and_true, Bool.true_and, Int.natCast_inj])

/-! rows -/
def natsD (ns : List Nat) : List D := ns.map fun n => D.int (n : Nat)
theorem natsD_ints (ns : List Nat) : natsD ns = (ns.map fun (n : Nat) => (n : Int)).map D.int := by simp [natsD]
theorem natsD_len (ns : List Nat) : (natsD ns).length = ns.length := by simp [natsD]
theorem natsD_all (xs : List Nat) : (natsD xs).map (fun _ => D.bl true) = (xs.map fun _ => true).map D.bl := by simp [natsD]
theorem natsD_pls (n : Nat) (xs : List Nat) : D.pls n (natsD xs) = true := by rw [natsD_ints]; exact pls_ints _ _
theorem natsD_app (xs : List Nat) (m : Nat) : natsD (xs ++ [m]) = natsD xs ++ [D.int (m : Nat)] := by simp [natsD]
theorem eqz (a : Nat) : D.eqv (.int (a : Nat)) (.int 0) = decide (a = 0) := by
  rw [eqv_int]
  by_cases h : a = 0
  · rw [decide_eq_true h, decide_eq_true (by omega)]
  · rw [decide_eq_false h, decide_eq_false (by omega)]
theorem eqv_tnil (ds : List D) : D.eqv (.tup ds) (.tup []) = decide (ds = []) := by
  cases ds with
  | nil => rfl
  | cons d ds => simp [D.eqv, D.py, D.pys, PyData.eqv, PyData.eqvAll]
def trim (xs : List Nat) : List Nat := (xs.reverse.dropWhile fun n => decide (n = 0)).reverse
theorem trim_zero (ys : List Nat) : trim (ys ++ [0]) = trim ys := by simp [trim]
theorem trim_pos (ys : List Nat) {n : Nat} (h : n ≠ 0) : trim (ys ++ [n]) = ys ++ [n] := by simp [trim, h]
def C_trimmed : DC := fun ds k => ∃ ns : List Nat, ds = [.lst (natsD ns)] ∧ k (.tup (natsD (trim ns)))
def TrI (ns : List Nat) (m : Nat) (r : List Sl) : Prop := ∃ (p : Addr) (ys : List Nat), r = [.da (.lst (natsD ns)), .ol p (natsD ys)] ∧ ys.length = m ∧ trim ys = trim ns
def hor (z : Nat) (ns : List Nat) : Nat := ns.foldl (fun f n => NF.nm f z ^^^ n) 0
def C_value_by : DC := fun ds k => ∃ (ns : List Nat) (z : Nat), ds = [.tup (natsD ns), .int z] ∧ (∀ n ∈ ns, n < 18446744073709551616) ∧ z < 18446744073709551616 ∧ k (.int (hor z ns.reverse : Nat))
theorem hor_app (z : Nat) (ns : List Nat) (n : Nat) : hor z (ns ++ [n]) = NF.nm (hor z ns) z ^^^ n := by simp [hor, List.foldl_append]
theorem hor_lt {z : Nat} (hz : z < NF.sz 6) (ns : List Nat) (hn : ∀ n ∈ ns, n < NF.sz 6) : ∀ i, hor z (ns.take i) < NF.sz 6 := fun i => by
  have : ∀ (l : List Nat) (f : Nat), f < NF.sz 6 → (∀ n ∈ l, n < NF.sz 6) → l.foldl (fun f n => NF.nm f z ^^^ n) f < NF.sz 6 := fun l => by
    induction l with
    | nil => intro f h _; exact h
    | cons n l ih => intro f h hl; exact ih _ (NF.xor_lt (NF.nm_lt h hz) (hl n (by simp))) (fun m hm => hl m (by simp [hm]))
  exact this _ 0 (NF.sz_pos 6) (fun n h => hn n (List.mem_of_mem_take h))
def VbI (ns : List Nat) (z : Nat) (i : Nat) (r : List Sl) : Prop := ∃ x, r = [.da (.tup (natsD ns)), .da (.int z), .da (.int (hor z (ns.reverse.take i) : Nat)), x] ∧ x.addr = none
theorem ok_value_by (T : Txt K mg A FD TK) : FnOk P w K mg base CX0 9 (A 54) (FD 54) ["row", "number"] (spD K C_value_by) := by
  have S := sc_value_by
  refine fnD T.d_value_by.F S (fun ds k h => by obtain ⟨ns, z, rfl, hn, hz, kk⟩ := h; rfl) fun cdv Ar outer s H E hr ds k h => ?_
  obtain ⟨ns, z, rfl, hn, hz, kk⟩ := h
  refine ⟨_, _, (ss_cons (s_set (i := 2) S.nd rfl (XE.v (c_int pe_int)))
    (ss_cons (s_for PassesOwn.never rfl (i_seq (x_revT (e_var (pv 0)))) (g_name (i := 3) S.nd rfl)
    (ss_one (s_set (i := 2) S.nd rfl (XE.v (x_xor (b_call (ok_times_by T) (hr.mono (by decide)) T.d_times_by.mg T.d_times_by.F.kp T.d_times_by.bd (ab_cons (b_var (pv 2)) (ab_cons (b_var (pv 1)) ab_nil))) (b_var (pv 3)))))))
    (ss_one (s_ret (e_var (pv 2)))))), ?_⟩
  walk_at "dl"
  have hz6 : z < NF.sz 6 := by rw [sz6]; exact hz
  refine ⟨VbI ns z, ⟨.no, rfl, rfl⟩, ?_, ?_⟩
  · rintro i d r hd ⟨x, rfl, _⟩
    have e : (natsD ns).reverse = natsD ns.reverse := by simp [natsD]
    rw [e] at hd
    unfold natsD at hd
    rw [List.getElem?_map] at hd
    cases hq : ns.reverse[i]? with
    | none => rw [hq] at hd; cases hd
    | some n =>
      rw [hq] at hd
      cases hd
      have hm : n ∈ ns := by have := List.mem_of_getElem? hq; simpa using this
      walk_at "dl"
      have hl := hor_lt hz6 ns.reverse (fun n h => by rw [sz6]; exact hn n (by simpa using h)) i
      rw [sz6] at hl
      refine ⟨_, z, rfl, hl, hz, _, rfl, ?_⟩
      rw [bx]
      refine ⟨.da (.int n), ?_, rfl⟩
      rw [List.take_add_one, hq, Option.toList_some, hor_app]
  · rintro r ⟨x, rfl, hx⟩
    walk_at "dl"
    have e : (natsD ns).length = ns.reverse.length := by simp [natsD]
    rw [List.length_reverse, e, List.take_length]
    exact kk
def C_multiplied_by : DC := fun ds k => ∃ a b : Nat, ds = [.tup [.int a, .int 1], .tup [.int b, .int 1]] ∧ a < 18446744073709551616 ∧ b < 18446744073709551616 ∧ k (.tup [.int (NF.nm a b : Nat), .int (a ^^^ b : Nat), .int 1])
theorem bx0 (x : Nat) : Builtin.bitXor ((0 : Nat) : Int) (x : Int) = (x : Int) := by rw [bx, Nat.zero_xor]
theorem nm1r (a : Nat) : NF.nm a 1 = a := by
  have : (⟨a⟩ : NF.N2) * 1 = ⟨a⟩ := by grind
  exact congrArg NF.N2.v this
def mu (a b : Nat) : Nat → Nat → List Nat
  | 0, 0 => [0, 0, 0, 0]
  | 0, 1 => [NF.nm a b, 0, 0, 0]
  | 0, _ => [NF.nm a b, a, 0, 0]
  | _, 0 => [NF.nm a b, a, 0, 0]
  | _, 1 => [NF.nm a b, a ^^^ b, 0, 0]
  | _, _ => [NF.nm a b, a ^^^ b, 1, 0]
def MuI (a b : Nat) (p : Addr) (at' : Nat) (one : D) (i : Nat) (r : List Sl) : Prop := ∃ (x y : Sl), r = [.da (.tup [.int a, .int 1]), .da (.tup [.int b, .int 1]), .ol p (natsD (mu a b at' i)), .da (.int (at' : Nat)), .da one, x, y] ∧ x.addr = none ∧ y.addr = none
def MuO (a b : Nat) (p : Addr) (at' : Nat) (r : List Sl) : Prop := ∃ (x y z u : Sl), r = [.da (.tup [.int a, .int 1]), .da (.tup [.int b, .int 1]), .ol p (natsD (match at' with | 0 => mu a b 0 0 | 1 => mu a b 0 2 | _ => mu a b 1 2)), x, y, z, u] ∧ x.addr = none ∧ y.addr = none ∧ z.addr = none ∧ u.addr = none
theorem enum2 {x y d : D} {i : Nat} (h : (enumD [x, y])[i]? = some d) : (i = 0 ∧ d = .tup [.int 0, x]) ∨ (i = 1 ∧ d = .tup [.int 1, y]) := by
  have e : enumD [x, y] = [.tup [.int 0, x], .tup [.int 1, y]] := rfl
  rw [e] at h
  have : i = 0 ∨ i = 1 ∨ 2 ≤ i := by omega
  rcases this with rfl | rfl | q
  · cases h; exact .inl ⟨rfl, rfl⟩
  · cases h; exact .inr ⟨rfl, rfl⟩
  · rw [List.getElem?_eq_none (by simpa using q)] at h; cases h
/-! rows of a number -/
def C_least_row_by : DC := fun ds k => ∃ s a : Nat, ds = [.int s, .int a] ∧ s ≤ 4 ∧ a < NF.sz (s + 1) ∧ ¬ a < NF.sz s ∧ k (.tup [.int (NF.nm a (NF.frN (2 ^ s) a) : Nat), .int (a ^^^ NF.frN (2 ^ s) a : Nat), .int 1])
def LrI (s a : Nat) (m : Nat) (r : List Sl) : Prop := (m = 1 ∧ r = [.da (.int s), .da (.int a), .da (.tup [.int a, .int 1]), .da (.int (NF.frN (2 ^ s) a : Nat))]) ∨
  (m = 0 ∧ r = [.da (.int s), .da (.int a), .da (.tup [.int (NF.nm a (NF.frN (2 ^ s) a) : Nat), .int (a ^^^ NF.frN (2 ^ s) a : Nat), .int 1]), .da (.int a)])
def C_least_row : DC := fun ds k => ∃ s a : Nat, ds = [.int s, .int a] ∧ s ≤ 3 ∧ a < NF.sz (s + 1) ∧ ¬ a < NF.sz s ∧ k (.tup [.int (NF.nm a (NF.frN (2 ^ s) a) : Nat), .int (a ^^^ NF.frN (2 ^ s) a : Nat), .int 1])
def C_trace_by : DC := fun ds k => ∃ l a : Nat, ds = [.int l, .int a] ∧ l ≤ 6 ∧ a < 18446744073709551616 ∧ k (.int (NF.trb 0 (2 ^ l) a : Nat))
def TyI (l a : Nat) (m : Nat) (r : List Sl) : Prop := ∃ i : Nat, r = [.da (.int l), .da (.int a), .da (.int (NF.trb 0 i a : Nat)), .da (.int (NF.frN i a : Nat)), .da (.int (2 ^ m : Nat))] ∧ i + m = 2 ^ l
def C_trace : DC := fun ds k => ∃ l a : Nat, ds = [.int l, .int a] ∧ l ≤ 6 ∧ a < NF.sz l ∧ k (.int (NF.trb 0 (2 ^ l) a : Nat))
end
end M

namespace M
open PySem PySem.Spec L2 DL
section
variable {P : Program} {w : World} {K : PySem.W.Frag} {mg : Str → Option Value} {base : Heap} {A : Nat → Addr} {FD : Nat → FuncData} {TK : Nat → Tok}

local macro_rules | `(tactic| walk_at "dl") => `(tactic| simp (config := { decide := false }) only [dRet, dRetN, dAndV, dOrV, dNotV, dIsI, dBVar, dVar, dLVar, dC, dI, dI0, gI, gB, dCmp, dTest, dNot, dAnd, dOr, dChain, dIx, deSeq, deLst, deSc, dCons, dNil, dCall, dLen, dTup, dLst, dTupOf, dIf, dSeq, dNext, dSet, dvC, dvF, VV.put, dPar, dDrop, dMax2, dMin2, dIntOf, dIfE, dEq, dYes, dgName, dgTup, dgCons, dgNil, dStep, wipeS, dCallR, dFor, dRng1, dRng2, dAsgT, dPar3, dApp, dSortI, dMinI, dRep, dCat, dLLVar, deLL, dIsN, dReprB, dDrI, dDrC, dDrSet, isDr, dDisp3, dMinT, dRevT, dRevL, dStar, dPop, dSetIx, dSortP, dSortSet, dSetPop, dSortK, dRepT, dCatT, dSlT, dSlL, dONo, dOSo, dInI, dIsB, dAugIx, dIsI2, dZipT, dMinK, Bool.xor_false, Bool.xor_true, Sl.dr.injEq, bodyR, D.isN, D.reprB, Nat.reduceLeDiff,
  st0, frzAll, frzAt, frz_da, frz_no, frz_ol, frz_od, frz_dr, Sl.look, Sl.seq, D.seq, D.cls, D.sc, D.toI, bodyE, List.map_cons, List.map_nil, List.length_cons, List.length_nil, List.replicate, List.nil_append, List.cons_append, List.append_nil, List.getElem?_cons_zero, List.getElem?_cons_succ, List.set_cons_zero, List.set_cons_succ, Option.some.injEq, Sl.da.injEq, Sl.ol.injEq, D.int.injEq, D.bl.injEq, D.str.injEq, D.lst.injEq, D.tup.injEq, List.cons.injEq,
  exists_eq_left, exists_eq_left', exists_eq_right, exists_and_left, exists_and_right, and_assoc, and_true, true_and, and_self, ne_eq, not_false_eq_true, forall_const, reduceCtorEq, Nat.reduceSub, Nat.reduceAdd, Nat.sub_self, false_or, or_false, exists_const, exists_eq', exists_eq, exists_false, implies_true, and_false, false_and, if_true, if_false, decide_eq_true_eq, decide_true, decide_false, Bool.false_eq_true, reduceIte, Bool.not_true, Bool.not_false, pl_int, pl_bl, pl_non, pl_lst, pl_tup, pls_nil, pls_cons, pl_ints, pls_ints, pls_bls, eqv_int, eqv_bl, eqv_ints, eqv_tints, eqv_bls, Bool.false_xor, Bool.true_xor, Bool.and_true, Bool.true_and, Int.natCast_inj])

/-! codes by rows -/
abbrev wD (w : NF.Wd) : D := .tup (natsD w)
abbrev wsD (ws : List NF.Wd) : List D := ws.map wD
def zf (g : Nat → Nat → Nat) : D → D := fun d => match d with
  | .tup [.int a, .int b] => .int (g a.toNat b.toNat : Nat)
  | d => d
theorem zip_map (g : Nat → Nat → Nat) : ∀ (w r : NF.Wd), (zipD (natsD w) (natsD r)).map (zf g) = natsD (List.zipWith g w r)
  | [], _ => rfl
  | _ :: _, [] => rfl
  | a :: w, b :: r => by
    show zf g (.tup [.int (a : Nat), .int (b : Nat)]) :: (zipD (natsD w) (natsD r)).map (zf g) = _
    rw [zip_map g w r]; rfl
theorem zip_mem : ∀ {w r : NF.Wd} {d : D}, d ∈ zipD (natsD w) (natsD r) → ∃ a ∈ w, ∃ b ∈ r, d = .tup [.int (a : Nat), .int (b : Nat)]
  | [], _, d, h => by cases h
  | _ :: _, [], d, h => by cases h
  | a :: w, b :: r, d, h => by
    rcases List.mem_cons.mp (show d ∈ D.tup [.int (a : Nat), .int (b : Nat)] :: zipD (natsD w) (natsD r) from h) with q | q
    · exact ⟨a, by simp, b, by simp, q⟩
    · obtain ⟨x, hx, y, hy, e⟩ := zip_mem q
      exact ⟨x, by simp [hx], y, by simp [hy], e⟩
theorem zip_len (w r : NF.Wd) : (zipD (natsD w) (natsD r)).length ≤ w.length := by unfold zipD; rw [List.length_zipWith, natsD_len]; omega
theorem nat_at {w : NF.Wd} {i : Nat} (h : i < w.length) : atI (natsD w) (i : Int) = some (.int (w.getD i 0 : Nat)) := by
  rw [at_nat]; unfold natsD
  simp [h]
def B64 (w : NF.Wd) : Prop := ∀ x ∈ w, x < 18446744073709551616
theorem B64.get {w : NF.Wd} (h : B64 w) (i : Nat) : w.getD i 0 < 18446744073709551616 := NF.getD_lt (l := 6) h i
theorem b64 {w : NF.Wd} {l : Nat} (hl : l ≤ 6) (h : ∀ x ∈ w, x < NF.sz l) : B64 w := fun x hx => lt64 hl (h x hx)
def C_less : DC := fun ds k => ∃ (w r : NF.Wd) (c : Nat), ds = [wD w, wD r, .int c] ∧ w.length ≤ 1000 ∧ B64 r ∧ c < 18446744073709551616 ∧ k (wD (NF.lessW w r c))
theorem ok_less (T : Txt K mg A FD TK) : FnOk P w K mg base CX0 9 (A 38) (FD 38) ["word", "row", "number"] (spD K C_less) := by
  have S := sc_less
  refine fnD T.d_less.F S (fun ds k h => by obtain ⟨w, r, c, rfl, hw, hr', hc, kk⟩ := h; rfl) fun cdv Ar outer s H E hr ds k h => ?_
  obtain ⟨w, r, c, rfl, hw, hr', hc, kk⟩ := h
  refine ⟨_, _, (ss_one (s_ret (x_tupOf T.b_tuple (XF.l (f_lcG (own := [("one", 3), ("other", 4)]) (dg := dgTup 2 (dgCons (dgName 3) (dgCons (dgName 4) dgNil))) (is := ([3] ++ ([4] ++ []))) rfl S.nd (i_zipT T.b_zip (e_var (pv 0)) (e_var (pv 1))) (blkOk_by (N := ["word", "row", "number", "one", "other"]) (sc := defScope s_less) (by decide +kernel)) (fun _ _ _ _ _ => by exact ((g_tup rfl (gl_cons (g_name (i := 3) S.nd rfl) (gl_cons (g_name (i := 4) S.nd rfl) gl_nil))))) (fun _ _ _ _ _ => by exact (ts_nil)) (fun _ _ _ _ _ => by exact (x_xor (b_var (pv 3)) (b_call (ok_times_by T) (hr.mono (by decide)) T.d_times_by.mg T.d_times_by.F.kp T.d_times_by.bd (ab_cons (b_var (pv 2)) (ab_cons (b_var (pv 4)) ab_nil)))))))))), ?_⟩
  walk_at "dl"
  refine ⟨_, rfl, _, rfl, _, _, rfl, rfl, Nat.le_trans (zip_len w r) (by omega), rfl, cmp_map (f := zf fun a b => a ^^^ NF.nm c b) (fun d hd kk' hk => ?_) ?_⟩
  · obtain ⟨a, ha, b, hb, rfl⟩ := zip_mem hd
    walk_at "dl"
    refine ⟨c, b, rfl, hc, hr' b hb, ?_⟩
    have hk : kk' (some (.int ((a ^^^ NF.nm c b : Nat) : Int))) := hk
    exact ⟨_, rfl, by rw [bx]; exact hk⟩
  · rw [zip_map]; exact kk
def C_lead_of : DC := fun ds k => ∃ w : NF.Wd, ds = [wD w] ∧ w.length ≤ 1000 ∧ k (.int (NF.leadW w : Nat))
def ldF : D → Option D := fun d => match d with
  | .tup [.int i, .int x] => if x = 0 then none else some (.int i)
  | _ => none
def ldI (w : NF.Wd) : List Int := ((List.range w.length).filter fun i => w.getD i 0 != 0).map fun (i : Nat) => (i : Int)
theorem enum_nats (w : NF.Wd) : enumD (natsD w) = (List.range w.length).map fun i => .tup [.int (i : Nat), .int (w.getD i 0 : Nat)] := by
  apply List.ext_getElem?
  intro i
  unfold enumD natsD
  rw [List.getElem?_mapIdx, List.getElem?_map, List.getElem?_map]
  by_cases h : i < w.length
  · rw [List.getElem?_range h, List.getElem?_eq_getElem h]
    simp [List.getD_eq_getElem?_getD, h]
  · have h1 : w[i]? = none := by simp; omega
    have h2 : (List.range w.length)[i]? = none := by simp; omega
    rw [h1, h2]; rfl
theorem ld_list (w : NF.Wd) : (enumD (natsD w)).filterMap ldF = (ldI w).map D.int := by
  rw [enum_nats, List.filterMap_map]
  unfold ldI
  rw [List.map_map]
  have : ∀ xs : List Nat, xs.filterMap (ldF ∘ fun i => D.tup [D.int (i : Nat), D.int (w.getD i 0 : Nat)]) = (xs.filter fun i => w.getD i 0 != 0).map (D.int ∘ fun (i : Nat) => (i : Int)) := fun xs => by
    induction xs with
    | nil => rfl
    | cons x xs ih =>
      rw [List.filterMap_cons, List.filter_cons]
      have e : (ldF ∘ fun i => D.tup [D.int (i : Nat), D.int (w.getD i 0 : Nat)]) x = if w.getD x 0 = 0 then none else some (.int (x : Nat)) := by
        show (if ((w.getD x 0 : Nat) : Int) = 0 then none else some (D.int (x : Nat))) = _
        by_cases h : w.getD x 0 = 0
        · rw [if_pos h, if_pos (by omega)]
        · rw [if_neg h, if_neg (by omega)]
      rw [e]
      by_cases h : w.getD x 0 = 0
      · have h' : (w.getD x 0 != 0) = false := by rw [h]; rfl
        rw [if_pos h, h', ih]; rfl
      · have h' : (w.getD x 0 != 0) = true := bne_iff_ne.mpr h
        rw [if_neg h, h', ih]; rfl
  exact this _
theorem ld_mem {w : NF.Wd} {m : Int} : m ∈ ldI w ↔ ∃ i, i < w.length ∧ w.getD i 0 ≠ 0 ∧ m = (i : Nat) := by
  unfold ldI
  rw [List.mem_map]
  constructor
  · rintro ⟨i, hi, rfl⟩
    obtain ⟨h1, h2⟩ := List.mem_filter.mp hi
    exact ⟨i, List.mem_range.mp h1, bne_iff_ne.mp h2, rfl⟩
  · rintro ⟨i, h1, h2, rfl⟩
    exact ⟨i, List.mem_filter.mpr ⟨List.mem_range.mpr h1, bne_iff_ne.mpr h2⟩, rfl⟩
theorem ld_min {w : NF.Wd} {m : Int} (h : m ∈ ldI w ++ [(w.length : Int)]) (hm : ∀ y, y ∈ ldI w ++ [(w.length : Int)] → m ≤ y) : m = (NF.leadW w : Nat) := by
  have hl := NF.lead_le w
  have h1 : m ≤ (NF.leadW w : Nat) := by
    by_cases q : NF.leadW w < w.length
    · exact hm _ (List.mem_append_left _ (ld_mem.mpr ⟨_, q, NF.lead_at q, rfl⟩))
    · have e : NF.leadW w = w.length := by omega
      rw [e]; exact hm _ (by simp)
  have h2 : ((NF.leadW w : Nat) : Int) ≤ m := by
    rcases List.mem_append.mp h with q | q
    · obtain ⟨i, hi, h0, rfl⟩ := ld_mem.mp q
      by_cases z : i < NF.leadW w
      · exact absurd (NF.lead_low z) h0
      · omega
    · rw [List.mem_singleton.mp q]; omega
  omega
theorem ok_lead_of (T : Txt K mg A FD TK) : FnOk P w K mg base CX0 1 (A 39) (FD 39) ["word"] (spD K C_lead_of) := by
  have S := sc_lead_of
  refine fnD T.d_lead_of.F S (fun ds k h => by obtain ⟨w, rfl, hw, kk⟩ := h; rfl) fun cdv Ar outer s H E hr ds k h => ?_
  obtain ⟨w, rfl, hw, kk⟩ := h
  refine ⟨_, _, (ss_one (s_ret (x_minI rfl T.b_min (XE.b (XF.e (f_cat (XF.ll (f_lcG (own := [("at", 1), ("number", 2)]) (dg := dgTup 2 (dgCons (dgName 1) (dgCons (dgName 2) dgNil))) (is := ([1] ++ ([2] ++ []))) rfl S.nd (i_enumT T.b_enumerate (e_var (pv 0))) (blkOk_by (N := ["word", "at", "number"]) (sc := defScope s_lead_of) (by decide +kernel)) (fun _ _ _ _ _ => by exact ((g_tup rfl (gl_cons (g_name (i := 1) S.nd rfl) (gl_cons (g_name (i := 2) S.nd rfl) gl_nil))))) (fun _ _ _ _ _ => by exact ((ts_one (t_ne hr.units (b_var (pv 2)) (XE.b (c_int pe_int)))))) (fun _ _ _ _ _ => by exact (e_var (pv 1))))) (XF.ll (f_lst (a_cons (x_len T.b_len (l_var (pv 0))) a_nil))))))))), ?_⟩
  walk_at "dl"
  refine ⟨_, rfl, _, rfl, by unfold enumD; rw [List.length_mapIdx, natsD_len]; omega, rfl, cmp_pure (f := ldF) (fun d hd kk' hk => ?_) ?_⟩
  · rw [enum_nats] at hd
    obtain ⟨i, hi, rfl⟩ := List.mem_map.mp hd
    walk_at "dl"
    have hk : kk' (if ((w.getD i 0 : Nat) : Int) = 0 then none else some (.int (i : Nat))) := hk
    generalize w.getD i 0 = x at hk ⊢
    by_cases h : ((x : Nat) : Int) = 0
    · rw [if_pos h] at hk
      have h' : x = 0 := by omega
      simpa [h'] using hk
    · rw [if_neg h] at hk
      have h' : ¬ x = 0 := by omega
      simpa [h'] using hk
  · rw [ld_list]
    have h1 : (ldI w).length ≤ w.length := by
      unfold ldI
      rw [List.length_map]
      exact Nat.le_trans (List.length_filter_le _ _) (by rw [List.length_range]; omega)
    refine ⟨by rw [List.length_map]; omega, ldI w ++ [(w.length : Int)], by rw [natsD_len]; simp, by simp, fun m hm hy => ?_⟩
    rw [ld_min hm hy]; exact kk
/-! reduced rows -/
def RowsOk (n l : Nat) (rows : List NF.Wd) : Prop := (∀ r ∈ rows, r.length = n) ∧ ∀ r ∈ rows, ∀ x ∈ r, x < NF.sz l
def C_rows_by : DC := fun ds k => ∃ (d : D) (rows : List NF.Wd) (n l : Nat), ds = [d] ∧ d.seq = some (wsD rows) ∧ n ≤ 100 ∧ l ≤ 6 ∧ RowsOk n l rows ∧ k (.lst (wsD (NF.redRows rows)))
theorem wsD_len (ws : List NF.Wd) : (wsD ws).length = ws.length := List.length_map ..
theorem ws_get {ws : List NF.Wd} {i : Nat} {d : D} (h : (wsD ws)[i]? = some d) : ∃ w, ws[i]? = some w ∧ d = wD w := by
  rw [List.getElem?_map] at h
  cases e : ws[i]? with
  | none => rw [e] at h; cases h
  | some w => rw [e] at h; cases h; exact ⟨w, rfl, rfl⟩
theorem cmp_list {α : Type} {step : D → (Option D → Prop) → Prop} {e g : α → D} : ∀ {xs : List α}, (∀ x ∈ xs, ∀ k : Option D → Prop, k (some (g x)) → step (e x) k) → ∀ {k : List D → Prop}, k (xs.map g) → cmp step (xs.map e) k
  | [], _, k, q => q
  | x :: xs, h, k, q => by
    show step (e x) _
    exact h x (by simp) _ (cmp_list (fun y hy => h y (by simp [hy])) q)
def natI (w : NF.Wd) : List Int := w.map fun (n : Nat) => (n : Int)
theorem natsD_I (w : NF.Wd) : natsD w = (natI w).map D.int := by unfold natsD natI; rw [List.map_map]; rfl
def ldK (r : NF.Wd) : List Int := (NF.leadW r : Nat) :: natI r
theorem kyD_ld (r : NF.Wd) : kyD 1 (ldK r) = .tup [.int (NF.leadW r : Nat), wD r] := by
  show D.tup [.int (NF.leadW r : Nat), .tup ((natI r).map .int)] = _
  rw [← natsD_I]
theorem ld_sorted {n l : Nat} {ws : List NF.Wd} (g : NF.Good n l ws) {kss : List (List Int)} (pm : kss.Perm (ws.map ldK)) (so : kss.Pairwise fun x y => lexL y x = false) : kss = (NF.srtL ws).map ldK := by
  have hm : ∀ ks ∈ kss, ∃ r ∈ ws, ks = ldK r := fun ks h => by
    obtain ⟨r, hr, e⟩ := List.mem_map.mp (pm.mem_iff.mp h)
    exact ⟨r, hr, e.symm⟩
  refine NF.sorted_eq (fun ks : List Int => (ks.headD 0).toNat) (pm.trans ((NF.srtL_perm ws).symm.map ldK)) ?_ ?_ ?_
  · refine so.imp_of_mem fun {a b} ha hb h => ?_
    obtain ⟨r, _, rfl⟩ := hm a ha
    obtain ⟨s, _, rfl⟩ := hm b hb
    show ((NF.leadW r : Nat) : Int).toNat ≤ ((NF.leadW s : Nat) : Int).toNat
    refine Classical.byContradiction fun z => ?_
    unfold ldK at h
    rw [lexL_ne (by omega)] at h
    exact of_decide_eq_false h (by omega)
  · rw [List.pairwise_map]
    refine (NF.srtL_srt ws).imp fun {a b} h => ?_
    show ((NF.leadW a : Nat) : Int).toNat ≤ ((NF.leadW b : Nat) : Int).toNat
    omega
  · intro a ha b hb e
    obtain ⟨r, hr, rfl⟩ := hm a ha
    obtain ⟨s, hs, rfl⟩ := hm b hb
    have e : ((NF.leadW r : Nat) : Int).toNat = ((NF.leadW s : Nat) : Int).toNat := e
    rw [NF.lead_inj g.ech hr hs (by omega)]
theorem red_take1 {fs : List NF.Wd} {w f : NF.Wd} {j : Nat} (h : fs[j]? = some f) : NF.redW (fs.take (j + 1)) w = NF.lessW (NF.redW (fs.take j) w) f ((NF.redW (fs.take j) w).getD (NF.leadW f) 0) := by
  unfold NF.redW
  rw [List.take_add_one, h, List.foldl_append]; rfl
theorem RowsOk.take {n l i : Nat} {rows : List NF.Wd} (h : RowsOk n l rows) : RowsOk n l (rows.take i) := ⟨fun r hr => h.1 r (List.mem_of_mem_take hr), fun r hr => h.2 r (List.mem_of_mem_take hr)⟩
theorem rb_good {n l i : Nat} {rows : List NF.Wd} (h : RowsOk n l rows) : NF.Good n l ((rows.take i).foldl NF.stepW []) := NF.rows_good h.take.1 h.take.2
def RbI (d : D) (rows : List NF.Wd) (i : Nat) (r : List Sl) : Prop := ∃ s2 s3 s4 s5 s6 s7 s8 : Sl, r = [.da d, .da (.lst (wsD ((rows.take i).foldl NF.stepW []))), s2, s3, s4, s5, s6, s7, s8] ∧ s2.addr = none ∧ s3.addr = none ∧ s4.addr = none ∧ s5.addr = none ∧ s6.addr = none ∧ s7.addr = none ∧ s8.addr = none
def HrI (d : D) (fs : List NF.Wd) (w : NF.Wd) (j : Nat) (r : List Sl) : Prop := ∃ s4 s5 s6 s7 s8 : Sl, r = [.da d, .da (.lst (wsD fs)), .da (wD w), .da (wD (NF.redW (fs.take j) w)), s4, s5, s6, s7, s8] ∧ s4.addr = none ∧ s5.addr = none ∧ s6.addr = none ∧ s7.addr = none ∧ s8.addr = none
theorem ok_rows_by (T : Txt K mg A FD TK) : FnOk P w K mg base CX0 11 (A 40) (FD 40) ["rows"] (spD K C_rows_by) := by
  have S := sc_rows_by
  refine fnD T.d_rows_by.F S (fun ds k h => by obtain ⟨d, rows, n, l, rfl, hd, hn, hl, hR, kk⟩ := h; rfl) fun cdv Ar outer s H E hr ds k h => ?_
  obtain ⟨d, rows, n, l, rfl, hd, hn, hl, hR, kk⟩ := h
  refine ⟨_, _, (ss_cons (s_set (i := 1) S.nd rfl (XE.v (XF.e (f_lst a_nil))))
    (ss_cons (s_for PassesOwn.never rfl (i_seq (e_var (pv 0))) (g_name (i := 2) S.nd rfl)
    (ss_cons (s_set (i := 3) S.nd rfl (XE.v (e_var (pv 2))))
    (ss_cons (s_for PassesOwn.never rfl (i_seq (e_var (pv 1))) (g_name (i := 4) S.nd rfl)
    (ss_one (s_set (i := 3) S.nd rfl (XE.v (e_call (ok_less T) (hr.mono (by decide)) T.d_less.mg T.d_less.F.kp T.d_less.bd (a_cons (e_var (pv 3)) (a_cons (e_var (pv 4)) (a_cons (x_ix (l_var (pv 3)) (b_call (ok_lead_of T) (hr.mono (by decide)) T.d_lead_of.mg T.d_lead_of.F.kp T.d_lead_of.bd (ab_cons (b_var (pv 4)) ab_nil))) a_nil))))))))
    (ss_cons (s_set (i := 5) S.nd rfl (XE.v (e_call (ok_lead_of T) (hr.mono (by decide)) T.d_lead_of.mg T.d_lead_of.F.kp T.d_lead_of.bd (a_cons (e_var (pv 3)) a_nil))))
    (ss_one (s_if (t_lt (b_var (pv 5)) (XE.b (x_len T.b_len (l_var (pv 3)))))
    (ss_cons (s_set (i := 6) S.nd rfl (XE.v (e_call (ok_inverse_by T) (hr.mono (by decide)) T.d_inverse_by.mg T.d_inverse_by.F.kp T.d_inverse_by.bd (a_cons (x_ix (l_var (pv 3)) (b_var (pv 5))) a_nil))))
    (ss_cons (s_set (i := 3) S.nd rfl (XE.v (x_tupOf T.b_tuple (XF.l (f_lcG (own := [("number", 7)]) (dg := dgName 7) (is := [7]) rfl S.nd (i_seq (e_var (pv 3))) (blkOk_by (N := ["rows", "found", "word", "here", "row", "lead", "back", "number", "late"]) (sc := defScope s_rows_by) (by decide +kernel)) (fun _ _ _ _ _ => by exact ((g_name (i := 7) S.nd rfl))) (fun _ _ _ _ _ => by exact (ts_nil)) (fun _ _ _ _ _ => by exact (e_call (ok_times_by T) (hr.mono (by decide)) T.d_times_by.mg T.d_times_by.F.kp T.d_times_by.bd (a_cons (e_var (pv 6)) (a_cons (e_var (pv 7)) a_nil)))))))))
    (ss_one (s_set (i := 1) S.nd rfl (XE.v (XF.e (f_cat (XF.ll (f_lcG (own := [("row", 4)]) (dg := dgName 4) (is := [4]) rfl S.nd (i_seq (e_var (pv 1))) (blkOk_by (N := ["rows", "found", "word", "here", "row", "lead", "back", "number", "late"]) (sc := defScope s_rows_by) (by decide +kernel)) (fun _ _ _ _ _ => by exact ((g_name (i := 4) S.nd rfl))) (fun _ _ _ _ _ => by exact (ts_nil)) (fun _ _ _ _ _ => by exact (e_call (ok_less T) (hr.mono (by decide)) T.d_less.mg T.d_less.F.kp T.d_less.bd (a_cons (e_var (pv 4)) (a_cons (e_var (pv 3)) (a_cons (x_ix (l_var (pv 4)) (b_var (pv 5))) a_nil))))))) (XF.ll (f_lst (a_cons (e_var (pv 3)) a_nil))))))))))
    ss_nil))))))
    (ss_one (s_ret (XF.e (f_lcG (own := [("lead", 5), ("late", 8)]) (dg := dgTup 2 (dgCons (dgName 5) (dgCons (dgName 8) dgNil))) (is := ([5] ++ ([8] ++ []))) rfl S.nd (i_seq (XF.e (f_sortK (sh := 1) hr.units T.b_sorted (XF.ll (f_lcG (own := [("row", 4)]) (dg := dgName 4) (is := [4]) rfl S.nd (i_seq (e_var (pv 1))) (blkOk_by (N := ["rows", "found", "word", "here", "row", "lead", "back", "number", "late"]) (sc := defScope s_rows_by) (by decide +kernel)) (fun _ _ _ _ _ => by exact ((g_name (i := 4) S.nd rfl))) (fun _ _ _ _ _ => by exact (ts_nil)) (fun _ _ _ _ _ => by exact (x_tup (a_cons (e_call (ok_lead_of T) (hr.mono (by decide)) T.d_lead_of.mg T.d_lead_of.F.kp T.d_lead_of.bd (a_cons (e_var (pv 4)) a_nil)) (a_cons (e_var (pv 4)) a_nil))))))))) (blkOk_by (N := ["rows", "found", "word", "here", "row", "lead", "back", "number", "late"]) (sc := defScope s_rows_by) (by decide +kernel)) (fun _ _ _ _ _ => by exact ((g_tup rfl (gl_cons (g_name (i := 5) S.nd rfl) (gl_cons (g_name (i := 8) S.nd rfl) gl_nil))))) (fun _ _ _ _ _ => by exact (ts_nil)) (fun _ _ _ _ _ => by exact (e_var (pv 8))))))))), ?_⟩
  walk_at "dl"
  refine ⟨_, hd, RbI d rows, ⟨_, _, _, _, _, _, _, rfl, rfl, rfl, rfl, rfl, rfl, rfl, rfl⟩, ?_, ?_⟩
  · rintro i dw r hw ⟨s2, s3, s4, s5, s6, s7, s8, rfl, a2, a3, a4, a5, a6, a7, a8⟩
    obtain ⟨w, hwi, rfl⟩ := ws_get hw
    walk_at "dl"
    have g := rb_good (i := i) hR
    have hwl := hR.1 w (List.mem_of_getElem? hwi)
    have hwx := hR.2 w (List.mem_of_getElem? hwi)
    generalize hfs : (rows.take i).foldl NF.stepW [] = fs at g ⊢
    refine ⟨HrI d fs w, ⟨_, _, _, _, _, rfl, a4, a5, a6, a7, a8⟩, ?_, ?_⟩
    · rintro j dr r hr' ⟨s4, s5, s6, s7, s8, rfl, a4, a5, a6, a7, a8⟩
      obtain ⟨f, hf, rfl⟩ := ws_get hr'
      have hfm := List.mem_of_getElem? hf
      walk_at "dl"
      have hsub : ∀ r ∈ fs.take j, r ∈ fs := fun r hr => List.mem_of_mem_take hr
      have hlen := NF.red_len (fs.take j) (w := w) fun r hr => (g.len r (hsub r hr)).trans hwl.symm
      have hlt := NF.red_lt (fs.take j) (w := w) (l := l) (fun r hr => g.lt r (hsub r hr)) hwx
      generalize hh : NF.redW (fs.take j) w = hh0 at hlen hlt ⊢
      have hld := g.ld f hfm
      refine ⟨f, rfl, by rw [g.len f hfm]; omega, _, rfl, _, nat_at (by rw [hlen, hwl]; exact hld), ?_⟩
      refine ⟨hh0, f, _, rfl, by rw [hlen, hwl]; omega, b64 hl (g.lt f hfm), (b64 hl hlt).get _, ?_⟩
      refine ⟨_, _, _, _, _, by rw [red_take1 hf, hh], rfl, a5, a6, a7, a8⟩
    · rintro r ⟨s4, s5, s6, s7, s8, rfl, a4, a5, a6, a7, a8⟩
      rw [wsD_len, List.take_length]
      walk_at "dl"
      have hlen := NF.red_len fs (w := w) fun r hr => (g.len r hr).trans hwl.symm
      have hlt := NF.red_lt fs (w := w) (l := l) g.lt hwx
      have hst : (rows.take (i + 1)).foldl NF.stepW [] = NF.stepW fs w := by rw [List.take_add_one, hwi, List.foldl_append, hfs]; rfl
      rw [NF.step_eq] at hst
      generalize NF.redW fs w = h at hlen hlt hst ⊢
      refine ⟨h, rfl, by rw [hlen, hwl]; omega, _, rfl, ?_⟩
      rw [natsD_len]
      by_cases hlt' : NF.leadW h < h.length
      · rw [if_pos (by omega)]
        rw [if_pos hlt'] at hst
        refine ⟨_, rfl, _, nat_at hlt', _, rfl, (b64 hl hlt).get _, ?_⟩
        refine ⟨_, rfl, _, rfl, by rw [natsD_len, hlen, hwl]; omega, by simp [noOwn, a7], cmp_list (g := fun x => .int (NF.nm (NF.invN (h.getD (NF.leadW h) 0)) x : Nat)) (fun x hx kk' hk => ?_) ?_⟩
        · walk_at "dl"
          exact ⟨_, x, rfl, lt64 hl (NF.invN_lt (NF.getD_lt hlt _)), b64 hl hlt x hx, hk⟩
        have en : h.map (fun x => D.int (NF.nm (NF.invN (h.getD (NF.leadW h) 0)) x : Nat)) = natsD (NF.nrmW h) := by unfold natsD NF.nrmW; rw [List.map_map]; rfl
        rw [en]
        have hnlt := NF.nrm_lt hlt
        have hln := NF.nrm_len h
        refine ⟨_, rfl, _, rfl, by rw [wsD_len]; have := NF.good_rank g; omega, by simp [noOwn, a4], cmp_list (g := fun r => wD (NF.dnW h r)) (fun f hf kk' hk => ?_) ?_⟩
        · walk_at "dl"
          refine ⟨_, nat_at (by rw [g.len f hf]; omega), ?_⟩
          refine ⟨f, NF.nrmW h, _, rfl, by rw [g.len f hf]; omega, b64 hl hnlt, (b64 hl (g.lt f hf)).get _, hk⟩
        have hk := NF.good_rank g
        exact ⟨by rw [List.length_map]; omega, .da (wD w), .da (wD (NF.nrmW h)), s4, .da (.int (NF.leadW h : Nat)), .da (.int (NF.invN (h.getD (NF.leadW h) 0) : Nat)), s7, s8, by rw [hst]; simp [wsD, NF.invN], rfl, rfl, a4, rfl, rfl, a7, a8⟩
      · rw [if_neg (by omega)]
        rw [if_neg hlt'] at hst
        exact ⟨_, _, _, _, _, _, _, by rw [hst], rfl, rfl, a4, rfl, a6, a7, a8⟩
  · rintro r ⟨s2, s3, s4, s5, s6, s7, s8, rfl, a2, a3, a4, a5, a6, a7, a8⟩
    rw [wsD_len, List.take_length]
    walk_at "dl"
    simp only [frz_none, a2, a3, a4, a5, a6, a7, a8]
    have g := NF.rows_good hR.1 hR.2
    have hrk := NF.good_rank g
    refine ⟨_, rfl, _, rfl, by rw [wsD_len]; exact Nat.le_trans hrk (by omega), by simp [noOwn, a4], cmp_list (g := fun r => kyD 1 (ldK r)) (fun f hf kk' hk => ?_) ?_⟩
    · walk_at "dl"
      refine ⟨f, rfl, by rw [g.len f hf]; omega, ?_⟩
      rw [kyD_ld] at hk; exact hk
    refine ⟨(NF.rowsW rows).map ldK, by rw [List.map_map]; rfl, fun ks hks => ?_, fun kss' pm so => ?_⟩
    · obtain ⟨r, _, rfl⟩ := List.mem_map.mp hks
      exact List.cons_ne_nil _ _
    rw [ld_sorted g pm so]
    have e : ((NF.srtL (NF.rowsW rows)).map ldK).map (kyD 1) = (NF.redRows rows).map fun r => D.tup [.int (NF.leadW r : Nat), wD r] := by
      rw [List.map_map]
      exact List.map_congr_left fun r _ => kyD_ld r
    rw [e]
    refine ⟨_, rfl, by rw [List.length_map, NF.redRows_len]; omega, by simp [noOwn, a5, a8], cmp_list (g := wD) (fun f hf kk' hk => ?_) kk⟩
    walk_at "dl"
    exact hk
/-! all words, sorted -/
def SrtW (ws us : List NF.Wd) : Prop := ws.Perm us ∧ ws.Pairwise fun x y => lexL (natI y) (natI x) = false
def unI (ks : List Int) : NF.Wd := ks.map Int.toNat
theorem unI_I (w : NF.Wd) : unI (natI w) = w := by
  unfold unI natI
  rw [List.map_map]
  have : w.map (Int.toNat ∘ fun (n : Nat) => (n : Int)) = w.map id := List.map_congr_left fun x _ => by simp
  rw [this, List.map_id]
theorem natI_inj {w v : NF.Wd} (h : natI w = natI v) : w = v := by rw [← unI_I w, ← unI_I v, h]
theorem kss_back {kss : List (List Int)} {ws : List NF.Wd} (pm : kss.Perm (ws.map natI)) (so : kss.Pairwise fun x y => lexL y x = false) : ∃ vs : List NF.Wd, kss = vs.map natI ∧ SrtW vs ws := by
  have e : kss = (kss.map unI).map natI := by
    rw [List.map_map]
    have : kss.map (natI ∘ unI) = kss.map id := List.map_congr_left fun k hk => by
      obtain ⟨w, _, rfl⟩ := List.mem_map.mp (pm.mem_iff.mp hk)
      show natI (unI (natI w)) = natI w
      rw [unI_I]
    rw [this, List.map_id]
  refine ⟨kss.map unI, e, ?_, ?_⟩
  · have := pm.map unI
    rw [List.map_map] at this
    have e2 : ws.map (unI ∘ natI) = ws.map id := List.map_congr_left fun w _ => unI_I w
    rwa [e2, List.map_id] at this
  · rw [e, List.pairwise_map] at so
    exact so
theorem lex_one : ∀ {xs ys : List NF.Wd}, xs.Perm ys → xs.Pairwise (fun x y => lexL (natI y) (natI x) = false) → ys.Pairwise (fun x y => lexL (natI y) (natI x) = false) → xs = ys
  | [], ys, p, _, _ => (List.nil_perm.mp p).symm
  | x :: xs, [], p, _, _ => absurd p.length_eq (by simp)
  | x :: xs, y :: ys, p, h1, h2 => by
    have a1 := List.pairwise_cons.mp h1
    have a2 := List.pairwise_cons.mp h2
    have e : x = y := by
      have m1 : x ∈ y :: ys := p.mem_iff.mp (by simp)
      have m2 : y ∈ x :: xs := p.mem_iff.mpr (by simp)
      rcases List.mem_cons.mp m1 with z | z
      · exact z
      · rcases List.mem_cons.mp m2 with u | u
        · exact u.symm
        · exact natI_inj (lexL_eq _ _ (a2.1 x z) (a1.1 y u))
    subst e
    rw [lex_one (List.perm_cons _ |>.mp p) a1.2 a2.2]
theorem SrtW.one {ws vs us zs : List NF.Wd} (h : SrtW ws us) (h' : SrtW vs zs) (p : us.Perm zs) : ws = vs := lex_one (h.1.trans (p.trans h'.1.symm)) h.2 h'.2
theorem cmp2_flat {α : Type} {step : D → (List D → Prop) → Prop} {e : α → D} {g : α → List D} : ∀ {xs : List α}, (∀ x ∈ xs, ∀ k : List D → Prop, k (g x) → step (e x) k) → ∀ {k : List D → Prop}, k (xs.flatMap g) → cmp2 step (xs.map e) k
  | [], _, k, q => q
  | x :: xs, h, k, q => by
    show step (e x) _
    refine h x (by simp) _ (cmp2_flat (fun y hy => h y (by simp [hy])) ?_)
    rw [List.flatMap_cons] at q; exact q
theorem rng_list (n : Nat) : rng 0 n = (List.range n).map fun (i : Nat) => D.int (i : Nat) := by
  unfold rng
  exact List.map_congr_left fun i _ => by rw [Int.zero_add]
theorem rep_flat : ∀ n : Nat, (List.replicate n [D.int 0]).flatten = natsD (List.replicate n 0)
  | 0 => rfl
  | n + 1 => by rw [List.replicate_succ, List.flatten_cons, rep_flat n, List.replicate_succ]; rfl
abbrev stW (l : Nat) : List NF.Wd → NF.Wd → List NF.Wd := fun found row => (List.range (NF.sz l)).flatMap fun k => found.map fun w => NF.lessW w row k
def WbI (l n : Nat) (fs : List NF.Wd) (i : Nat) (r : List Sl) : Prop := ∃ s4 s5 s6 : Sl, r = [.da (.int l), .da (.lst (wsD fs)), .da (.int n), .da (.lst (wsD ((fs.take i).foldl (stW l) [List.replicate n 0]))), s4, s5, s6] ∧ s4.addr = none ∧ s5.addr = none ∧ s6.addr = none
def C_words_by : DC := fun ds k => ∃ (l n : Nat) (fs : List NF.Wd), ds = [.int l, .lst (wsD fs), .int n] ∧ l ≤ 2 ∧ 1 ≤ n ∧ n ≤ 100 ∧ RowsOk n l fs ∧ fs.length * 2 ^ l ≤ 12 ∧ ∀ ws, SrtW ws (NF.wordsW l n fs) → k (.lst (wsD ws))
theorem ok_words_by (T : Txt K mg A FD TK) : FnOk P w K mg base CX0 10 (A 41) (FD 41) ["level", "reduced", "length"] (spD K C_words_by) := by
  have S := sc_words_by
  refine fnD T.d_words_by.F S (fun ds k h => by obtain ⟨l, n, fs, rfl, hl, hn1, hn, hR, hk, kk⟩ := h; rfl) fun cdv Ar outer s H E hr ds k h => ?_
  obtain ⟨l, n, fs, rfl, hl, hn1, hn, hR, hk, kk⟩ := h
  refine ⟨_, _, (ss_cons (s_if (t_gt (XE.b (x_shl (XE.b (c_int pe_int)) (XE.b (x_shl (XE.b (x_len T.b_len (l_var (pv 1)))) (b_var (pv 0)))))) (XE.b (c_int (pe_glob rfl T.g_MOST_WORDS ⟨_, rfl⟩))))
    (ss_one s_never)
    ss_nil)
    (ss_cons (s_set (i := 3) S.nd rfl (XE.v (XF.e (f_lst (a_cons (x_repT (x_tup (a_cons (c_int pe_int) a_nil)) (b_var (pv 2))) a_nil)))))
    (ss_cons (s_for PassesOwn.never rfl (i_seq (e_var (pv 1))) (g_name (i := 4) S.nd rfl)
    (ss_one (s_set (i := 3) S.nd rfl (XE.v (XF.e (f_lc2G (own := [("number", 5), ("word", 6)]) (dg := dgName 5) (is := [5]) (dg1 := dgName 6) (is1 := [6]) (vs1 := [6]) rfl S.nd (i_rng1 T.b_range (XE.b (x_ix (XE.l (c_tup (its := []) (pe_glob rfl T.g_SIZES rfl) T.t_SIZES)) (b_var (pv 0))))) (blkOk_by (N := ["level", "reduced", "length", "found", "row", "number", "word"]) (sc := defScope s_words_by) (by decide +kernel)) (fun _ _ _ _ _ => by exact ((g_name (i := 5) S.nd rfl))) (fun _ _ _ _ _ => by exact (ts_nil)) (fun _ _ _ _ _ => by exact ((i_seq (e_var (pv 3))))) (fun _ _ _ _ _ => by exact ((g_name (i := 6) S.nd rfl))) (fun _ _ _ _ _ => by exact (ts_nil)) (fun _ _ _ _ _ => by exact (e_call (ok_less T) (hr.mono (by decide)) T.d_less.mg T.d_less.F.kp T.d_less.bd (a_cons (e_var (pv 6)) (a_cons (e_var (pv 4)) (a_cons (e_var (pv 5)) a_nil)))))))))))
    (ss_one (s_ret (XF.e (f_sortK (sh := 0) hr.units T.b_sorted (ll_var (pv 3))))))))), ?_⟩
  walk_at "dl"
  have e1 : (((wsD fs).length : Nat) : Int) * 2 ^ ((l : Nat) : Int).toNat = ((fs.length * 2 ^ l : Nat) : Int) := by rw [wsD_len]; simp
  have hp : 2 ^ (fs.length * 2 ^ l) ≤ 2 ^ 12 := Nat.pow_le_pow_right (by decide) hk
  have e2 : (1 : Int) * 2 ^ ((fs.length * 2 ^ l : Nat) : Int).toNat = ((2 ^ (fs.length * 2 ^ l) : Nat) : Int) := by rw [Int.toNat_natCast, Int.one_mul]; exact (Int.natCast_pow 2 _).symm
  have hlf : fs.length ≤ 12 := Nat.le_trans (Nat.le_mul_of_pos_right _ (Nat.two_pow_pos l)) hk
  rw [e1]
  refine ⟨⟨by omega, by omega, by rw [wsD_len]; omega⟩, ⟨by omega, by omega, by decide⟩, ?_⟩
  rw [e2, if_neg (by omega)]
  have hsz : NF.sz l ≤ 16 := NF.sz_mono (k := 2) hl
  have hcnt : ∀ i, i ≤ fs.length → NF.sz l ^ i ≤ 4096 := fun i hi => by
    have : NF.sz l ^ i = 2 ^ (2 ^ l * i) := by unfold NF.sz; rw [← Nat.pow_mul]
    rw [this]
    refine Nat.le_trans (Nat.pow_le_pow_right (by decide) ?_) (show 2 ^ 12 ≤ 4096 by decide)
    rw [Nat.mul_comm]
    exact Nat.le_trans (Nat.mul_le_mul_right _ hi) hk
  refine ⟨by omega, by omega, WbI l n fs, ⟨.no, .no, .no, ?_, rfl, rfl, rfl⟩, ?_, ?_⟩
  · rw [Int.toNat_natCast, rep_flat]; rfl
  · rintro i dr r hr' ⟨s4, s5, s6, rfl, a4, a5, a6⟩
    obtain ⟨f, hf, rfl⟩ := ws_get hr'
    have hfm := List.mem_of_getElem? hf
    have hi := (List.getElem?_eq_some_iff.mp hf).1
    have hst : (fs.take (i + 1)).foldl (stW l) [List.replicate n 0] = stW l ((fs.take i).foldl (stW l) [List.replicate n 0]) f := by rw [List.take_add_one, hf, List.foldl_append]; rfl
    have hc : ((fs.take i).foldl (stW l) [List.replicate n 0]).length = NF.sz l ^ i := by
      have := NF.words_count l n (fs.take i) [List.replicate n 0]
      rw [List.length_take, Nat.min_eq_left (by omega)] at this
      simpa using this
    have hwl : ∀ w ∈ (fs.take i).foldl (stW l) [List.replicate n 0], w.length = n := NF.wordsW_len (fs := fs.take i) hR.take.1
    have h4 := hcnt i (by omega)
    generalize (fs.take i).foldl (stW l) [List.replicate n 0] = bs at hst hc hwl ⊢
    have hml : NF.sz l * NF.sz l ^ i ≤ 16 * 4096 := Nat.mul_le_mul hsz h4
    refine ⟨_, rfl, _, _, rfl, rfl, _, _, rfl, at_SZ (l := l) (by omega), _, rfl, by omega, by omega, NF.sz l ^ i, by rw [rng_len, Int.toNat_natCast]; omega, by simp [noOwn, a5, a6], ?_⟩
    rw [Int.toNat_natCast, rng_list]
    refine cmp2_flat (g := fun c => wsD (bs.map fun w => NF.lessW w f c)) (fun c hc' kk' hk' => ?_) ?_
    · have hc'' := List.mem_range.mp hc'
      refine ⟨_, rfl, _, rfl, by rw [wsD_len, hc]; exact Nat.le_refl _, rfl, cmp_list (g := fun w => wD (NF.lessW w f c)) (fun w hw kk2 hk2 => ?_) ?_⟩
      · exact ⟨_, rfl, _, rfl, _, rfl, _, _, c, rfl, by rw [hwl w hw]; omega, b64 (l := l) (by omega) (hR.2 f hfm), lt64 (l := l) (by omega) hc'', hk2⟩
      · have e : bs.map (fun w => wD (NF.lessW w f c)) = wsD (bs.map fun w => NF.lessW w f c) := by unfold wsD; rw [List.map_map]; rfl
        rw [e]; exact hk'
    · have e : ((List.range (NF.sz l)).flatMap fun c => wsD (bs.map fun w => NF.lessW w f c)) = wsD ((fs.take (i + 1)).foldl (stW l) [List.replicate n 0]) := by
        rw [hst]
        show _ = ((List.range (NF.sz l)).flatMap fun k => bs.map fun w => NF.lessW w f k).map wD
        rw [List.map_flatMap]
      rw [e]
      exact ⟨_, _, _, rfl, rfl, a5, a6⟩
  · rintro r ⟨s4, s5, s6, rfl, a4, a5, a6⟩
    rw [wsD_len, List.take_length]
    have hwl : ∀ w ∈ fs.foldl (stW l) [List.replicate n 0], w.length = n := NF.wordsW_len (fs := fs) hR.1
    refine .inl ⟨_, rfl, (NF.wordsW l n fs).map natI, ?_, fun ks hks => ?_, fun kss' pm so => ?_⟩
    · show wsD (NF.wordsW l n fs) = _
      unfold wsD
      rw [List.map_map]
      exact List.map_congr_left fun w _ => congrArg D.tup (natsD_I w)
    · obtain ⟨w, hw, rfl⟩ := List.mem_map.mp hks
      intro z
      have := hwl w hw
      have z2 := congrArg List.length z
      unfold natI at z2
      rw [List.length_map, this] at z2
      have : n = 0 := z2
      omega
    · obtain ⟨vs, rfl, hs⟩ := kss_back pm so
      have e : (vs.map natI).map (kyD 0) = wsD vs := by
        unfold wsD
        rw [List.map_map]
        exact List.map_congr_left fun w _ => congrArg D.tup (natsD_I w).symm
      rw [e]
      exact kk vs hs
/-! the dual -/
def ldsD (fs : List NF.Wd) : List D := fs.map fun r => D.int (NF.leadW r : Nat)
def dwB (n f : Nat) : NF.Wd := (List.replicate n 0).set f 1
def dwP (fs : List NF.Wd) (n f j : Nat) : NF.Wd := (fs.take j).foldl (fun w r => w.set (NF.leadW r) (r.getD f 0)) (dwB n f)
theorem dwP_len (fs : List NF.Wd) (n f j : Nat) : (dwP fs n f j).length = n := by unfold dwP dwB; rw [NF.dw_len, List.length_set, List.length_replicate]
theorem dwP_succ {fs : List NF.Wd} {n f j : Nat} {r : NF.Wd} (h : fs[j]? = some r) : dwP fs n f (j + 1) = (dwP fs n f j).set (NF.leadW r) (r.getD f 0) := by unfold dwP; rw [List.take_add_one, h, List.foldl_append]; rfl
theorem zip_ld {fs : List NF.Wd} {j : Nat} {d : D} (h : (zipD (ldsD fs) (wsD fs))[j]? = some d) : ∃ r, fs[j]? = some r ∧ d = .tup [.int (NF.leadW r : Nat), wD r] := by
  unfold zipD ldsD at h
  rw [List.getElem?_zipWith, List.getElem?_map, List.getElem?_map] at h
  cases e : fs[j]? with
  | none => rw [e] at h; cases h
  | some r => rw [e] at h; cases h; exact ⟨r, rfl, rfl⟩
theorem set_nats (w : NF.Wd) (j x : Nat) : (natsD w).set j (.int (x : Nat)) = natsD (w.set j x) := by unfold natsD; rw [List.map_set]
def DbyI (fs : List NF.Wd) (n : Nat) (i : Nat) (r : List Sl) : Prop := ∃ (p : Addr) (s4 s5 s6 s7 s8 : Sl), r = [.da (.lst (wsD fs)), .da (.int n), .da (.lst (ldsD fs)), .ol p (wsD ((NF.freeW fs n).take i |>.map (NF.dwW fs n))), s4, s5, s6, s7, s8] ∧ s4.addr = none ∧ s6.addr = none ∧ s7.addr = none ∧ s8.addr = none
def DbiI (fs : List NF.Wd) (n f : Nat) (found : List D) (p q : Addr) (j : Nat) (r : List Sl) : Prop := ∃ (s6 s7 s8 : Sl), r = [.da (.lst (wsD fs)), .da (.int n), .da (.lst (ldsD fs)), .ol p found, .da (.int f), .ol q (natsD (dwP fs n f j)), s6, s7, s8] ∧ s6.addr = none ∧ s7.addr = none ∧ s8.addr = none
def C_dual_by : DC := fun ds k => ∃ (l n : Nat) (fs : List NF.Wd), ds = [.lst (wsD fs), .int n] ∧ l ≤ 6 ∧ n ≤ 100 ∧ NF.Good n l fs ∧ k (.lst (wsD (NF.redRows (NF.dualW fs n))))
theorem free_len (fs : List NF.Wd) (n : Nat) : (NF.freeW fs n).length ≤ n := by
  unfold NF.freeW
  exact Nat.le_trans (List.length_filter_le _ _) (by rw [List.length_range]; omega)
theorem cmp_filter {α : Type} {step : D → (Option D → Prop) → Prop} {e : α → D} {p : α → Bool} : ∀ {xs : List α}, (∀ x ∈ xs, ∀ k : Option D → Prop, k (if p x then some (e x) else none) → step (e x) k) → ∀ {k : List D → Prop}, k ((xs.filter p).map e) → cmp step (xs.map e) k
  | [], _, k, q => q
  | x :: xs, h, k, q => by
    show step (e x) _
    refine h x (by simp) _ (cmp_filter (fun y hy => h y (by simp [hy])) ?_)
    rw [List.filter_cons] at q
    by_cases c : p x = true
    · rw [if_pos c] at q ⊢; exact q
    · rw [if_neg c] at q ⊢; exact q
theorem ok_dual_by (T : Txt K mg A FD TK) : FnOk P w K mg base CX0 12 (A 42) (FD 42) ["reduced", "length"] (spD K C_dual_by) := by
  have S := sc_dual_by
  refine fnD T.d_dual_by.F S (fun ds k h => by obtain ⟨l, n, fs, rfl, hl, hn, g, kk⟩ := h; rfl) fun cdv Ar outer s H E hr ds k h => ?_
  obtain ⟨l, n, fs, rfl, hl, hn, g, kk⟩ := h
  refine ⟨_, _, (ss_cons (s_asgV (i := 2) (j := 3) rfl S.nd rfl rfl (by decide) (XE.v (XF.e (f_lcG (own := [("row", 7)]) (dg := dgName 7) (is := [7]) rfl S.nd (i_seq (e_var (pv 0))) (blkOk_by (N := ["reduced", "length", "leads", "found", "free", "word", "lead", "row", "at"]) (sc := defScope s_dual_by) (by decide +kernel)) (fun _ _ _ _ _ => by exact ((g_name (i := 7) S.nd rfl))) (fun _ _ _ _ _ => by exact (ts_nil)) (fun _ _ _ _ _ => by exact (e_call (ok_lead_of T) (hr.mono (by decide)) T.d_lead_of.mg T.d_lead_of.F.kp T.d_lead_of.bd (a_cons (e_var (pv 7)) a_nil)))))) (XF.v (f_lst a_nil)))
    (ss_cons (s_for PassesOwn.never rfl (i_seq (XF.e (f_lcG (own := [("at", 8)]) (dg := dgName 8) (is := [8]) rfl S.nd (i_rng1 T.b_range (b_var (pv 1))) (blkOk_by (N := ["reduced", "length", "leads", "found", "free", "word", "lead", "row", "at"]) (sc := defScope s_dual_by) (by decide +kernel)) (fun _ _ _ _ _ => by exact ((g_name (i := 8) S.nd rfl))) (fun _ _ _ _ _ => by exact ((ts_one (t_nin (b_var (pv 8)) (l_var (pv 2)))))) (fun _ _ _ _ _ => by exact (e_var (pv 8)))))) (g_name (i := 4) S.nd rfl)
    (ss_cons (s_set (i := 5) S.nd rfl (XF.v (f_rep (XF.ll (f_lst (a_cons (c_int pe_int) a_nil))) (b_var (pv 1)))))
    (ss_cons (s_setIx (pv 5) (b_var (pv 4)) (c_int pe_int))
    (ss_cons (s_for PassesOwn.never rfl (i_zip T.b_zip (e_var (pv 2)) (e_var (pv 0))) (g_tup rfl (gl_cons (g_name (i := 6) S.nd rfl) (gl_cons (g_name (i := 7) S.nd rfl) gl_nil)))
    (ss_one (s_setIx (pv 5) (b_var (pv 6)) (x_ix (l_var (pv 7)) (b_var (pv 4))))))
    (ss_one (s_app (pv 3) (x_tupOf T.b_tuple (l_var (pv 5)))))))))
    (ss_one (s_ret (e_call (ok_rows_by T) (hr.mono (by decide)) T.d_rows_by.mg T.d_rows_by.F.kp T.d_rows_by.bd (a_cons (e_var (pv 3)) a_nil)))))), ?_⟩
  walk_at "dl"
  have hrk := NF.good_rank g
  refine ⟨_, rfl, _, rfl, by rw [wsD_len]; omega, rfl, cmp_list (g := fun r => .int (NF.leadW r : Nat)) (fun f hf kk' hk' => ?_) ?_⟩
  · exact ⟨_, rfl, f, rfl, by rw [g.len f hf]; omega, hk'⟩
  intro p
  refine ⟨_, _, rfl, rfl, _, rfl, by omega, by omega, by rw [rng_len, Int.toNat_natCast]; omega, rfl, ?_⟩
  rw [Int.toNat_natCast, rng_list]
  refine cmp_filter (p := fun i => !(fs.map NF.leadW).contains i) (fun x hx kk' hk' => ?_) ?_
  · refine ⟨_, _, rfl, rfl, _, _, rfl, rfl, (x : Int), (fs.map fun r => ((NF.leadW r : Nat) : Int)), rfl, by rw [List.map_map]; rfl, _, rfl, ?_⟩
    have e : (true ^^ decide ((x : Int) ∈ fs.map fun r => ((NF.leadW r : Nat) : Int))) = !(fs.map NF.leadW).contains x := by
      rw [Bool.true_xor]
      congr 1
      by_cases h : x ∈ fs.map NF.leadW
      · have h2 : (x : Int) ∈ fs.map fun r => ((NF.leadW r : Nat) : Int) := by
          obtain ⟨r, hr, rfl⟩ := List.mem_map.mp h
          exact List.mem_map.mpr ⟨r, hr, rfl⟩
        rw [decide_eq_true h2]
        exact (List.contains_iff_mem.mpr h).symm
      · have h2 : ¬ (x : Int) ∈ fs.map fun r => ((NF.leadW r : Nat) : Int) := fun z => by
          obtain ⟨r, hr, e⟩ := List.mem_map.mp z
          exact h (List.mem_map.mpr ⟨r, hr, by omega⟩)
        rw [decide_eq_false h2]
        exact (Bool.eq_false_iff.mpr fun z => h (List.contains_iff_mem.mp z)).symm
    rw [e]
    show (if (!(fs.map NF.leadW).contains x) = true then _ else _)
    by_cases c : (!(fs.map NF.leadW).contains x) = true
    · rw [if_pos c] at hk' ⊢
      exact ⟨_, rfl, hk'⟩
    · rw [if_neg c] at hk' ⊢
      exact hk'
  refine ⟨DbyI fs n, ⟨p, .no, .no, .no, .no, .no, rfl, rfl, rfl, rfl, rfl⟩, ?_, ?_⟩
  · rintro i d r hd ⟨p, s4, s5, s6, s7, s8, rfl, a4, a6, a7, a8⟩
    have hd' : ((NF.freeW fs n).map fun (i : Nat) => D.int (i : Nat))[i]? = some d := hd
    rw [List.getElem?_map] at hd'
    obtain ⟨f, hf, e⟩ : ∃ f, (NF.freeW fs n)[i]? = some f ∧ D.int (f : Nat) = d := by
      cases q : (NF.freeW fs n)[i]? with
      | none => rw [q] at hd'; cases hd'
      | some f => rw [q] at hd'; cases hd'; exact ⟨f, rfl, rfl⟩
    subst e
    have hfm := NF.mem_free.mp (List.mem_of_getElem? hf)
    have hil := (List.getElem?_eq_some_iff.mp hf).1
    have hfl := free_len fs n
    walk_at "dl"
    refine ⟨by omega, by omega, by omega, fun q => ⟨f, ixN_nat (by simp; omega), ?_⟩⟩
    have e0 : (List.replicate ((n : Nat) : Int).toNat [D.int 0]).flatten.set f (.int 1) = natsD (dwP fs n f 0) := by
      rw [Int.toNat_natCast, rep_flat]
      exact set_nats _ f 1
    rw [e0]
    refine ⟨_, rfl, _, rfl, _, _, rfl, rfl, DbiI fs n f _ p q, ⟨s6, s7, s8, rfl, a6, a7, a8⟩, ?_, ?_⟩
    · rintro j d r hd ⟨s6, s7, s8, rfl, a6, a7, a8⟩
      obtain ⟨r, hr, rfl⟩ := zip_ld hd
      have hrm := List.mem_of_getElem? hr
      walk_at "dl"
      refine ⟨rfl, _, nat_at (by rw [g.len r hrm]; exact hfm.1), NF.leadW r, ixN_nat (by rw [natsD_len, dwP_len]; exact g.ld r hrm), ?_⟩
      exact ⟨.da (.int (NF.leadW r : Nat)), .da (wD r), s8, by rw [set_nats, dwP_succ hr], rfl, rfl, a8⟩
    · rintro r ⟨s6, s7, s8, rfl, a6, a7, a8⟩
      have e1 : (zipD (ldsD fs) (wsD fs)).length = fs.length := by unfold zipD ldsD; rw [List.length_zipWith, List.length_map, wsD_len, Nat.min_self]
      rw [e1]
      walk_at "dl"
      refine ⟨by rw [wsD_len, List.length_map, List.length_take]; omega, p, .da (.int f), .ol q (natsD (dwP fs n f fs.length)), s6, s7, s8, ?_, rfl, a6, a7, a8⟩
      have e2 : dwP fs n f fs.length = NF.dwW fs n f := by unfold dwP; rw [List.take_length]; rfl
      rw [e2, List.take_add_one, hf]
      simp [wsD]
  · rintro r ⟨p, s4, s5, s6, s7, s8, rfl, a4, a6, a7, a8⟩
    have e1 : ((NF.freeW fs n).take ((NF.freeW fs n).map fun (i : Nat) => D.int (i : Nat)).length).map (NF.dwW fs n) = NF.dualW fs n := by
      rw [List.length_map, List.take_length]; rfl
    have e2 : ((NF.freeW fs n).take (((List.range n).filter fun i => !(fs.map NF.leadW).contains i).map fun (i : Nat) => D.int (i : Nat)).length).map (NF.dwW fs n) = NF.dualW fs n := e1
    rw [e2]
    walk_at "dl"
    exact ⟨_, NF.dualW fs n, n, l, rfl, rfl, hn, hl, ⟨NF.dualW_len fs n, NF.dualW_lt g⟩, kk⟩
end
end M

namespace M
open PySem PySem.Spec L2 DL
section
variable {P : Program} {w : World} {K : PySem.W.Frag} {mg : Str → Option Value} {base : Heap} {A : Nat → Addr} {FD : Nat → FuncData} {TK : Nat → Tok}

local macro_rules | `(tactic| walk_at "dl") => `(tactic| simp (config := { decide := false }) only [dRet, dRetN, dAndV, dOrV, dNotV, dIsI, dBVar, dVar, dLVar, dC, dI, dI0, gI, gB, dCmp, dTest, dNot, dAnd, dOr, dChain, dIx, deSeq, deLst, deSc, dCons, dNil, dCall, dLen, dTup, dLst, dTupOf, dIf, dSeq, dNext, dSet, dvC, dvF, VV.put, dPar, dDrop, dMax2, dMin2, dIntOf, dIfE, dEq, dYes, dgName, dgTup, dgCons, dgNil, dStep, wipeS, dCallR, dFor, dRng1, dRng2, dAsgT, dPar3, dApp, dSortI, dMinI, dRep, dCat, dLLVar, deLL, dIsN, dReprB, dDrI, dDrC, dDrSet, isDr, dDisp3, dMinT, dRevT, dRevL, dStar, dPop, dSetIx, dSortP, dSortSet, dSetPop, dSortK, dRepT, dCatT, dSlT, dSlL, dONo, dOSo, dInI, dIsB, dAugIx, dIsI2, dZipT, dMinK, Bool.xor_false, Bool.xor_true, Sl.dr.injEq, bodyR, D.isN, D.reprB, Nat.reduceLeDiff,
  st0, frzAll, frzAt, frz_da, frz_no, frz_ol, frz_od, frz_dr, Sl.look, Sl.seq, D.seq, D.cls, D.sc, D.toI, bodyE, List.map_cons, List.map_nil, List.length_cons, List.length_nil, List.replicate, List.nil_append, List.cons_append, List.append_nil, List.getElem?_cons_zero, List.getElem?_cons_succ, List.set_cons_zero, List.set_cons_succ, Option.some.injEq, Sl.da.injEq, Sl.ol.injEq, D.int.injEq, D.bl.injEq, D.str.injEq, D.lst.injEq, D.tup.injEq, List.cons.injEq,
  exists_eq_left, exists_eq_left', exists_eq_right, exists_and_left, exists_and_right, and_assoc, and_true, true_and, and_self, ne_eq, not_false_eq_true, forall_const, reduceCtorEq, Nat.reduceSub, Nat.reduceAdd, Nat.sub_self, false_or, or_false, exists_const, exists_eq', exists_eq, exists_false, implies_true, and_false, false_and, if_true, if_false, decide_eq_true_eq, decide_true, decide_false, Bool.false_eq_true, reduceIte, Bool.not_true, Bool.not_false, pl_int, pl_bl, pl_non, pl_lst, pl_tup, pls_nil, pls_cons, pl_ints, pls_ints, pls_bls, eqv_int, eqv_bl, eqv_ints, eqv_tints, eqv_bls, Bool.false_xor, Bool.true_xor, Bool.and_true, Bool.true_and, Int.natCast_inj])

/-! what is asked of rows -/
theorem lt64l {l a : Nat} (hl : l ≤ 2) (h : a < NF.sz l) : a < 18446744073709551616 := lt64 (l := l) (by omega) h
structure CodeOk (l n : Nat) (rows : List NF.Wd) : Prop where
  l2 : l ≤ 2
  n1 : 1 ≤ n
  n12 : n ≤ 12
  r1 : 1 ≤ rows.length
  r12 : rows.length ≤ 12
  ok : RowsOk n l rows
theorem CodeOk.l6 {l n : Nat} {rows : List NF.Wd} (h : CodeOk l n rows) : l ≤ 6 := Nat.le_trans h.l2 (by decide)
def RD (d : D) (rows : List NF.Wd) : Prop := d = .lst (wsD rows) ∨ d = .tup (wsD rows)
theorem RD.seq {d : D} {rows : List NF.Wd} (h : RD d rows) : d.seq = some (wsD rows) := by rcases h with rfl | rfl <;> rfl
theorem RD.inst {d : D} {rows : List NF.Wd} (h : RD d rows) : (∀ ns, d ≠ .fz ns) ∧ (isInst d.cls "list" || isInst d.cls "tuple") = true := by
  rcases h with rfl | rfl
  · exact ⟨(fun ns z => by cases z), (by simp [isInst, D.cls])⟩
  · exact ⟨(fun ns z => by cases z), (by simp [isInst, D.cls])⟩
theorem ws_first {rows : List NF.Wd} (h : 1 ≤ rows.length) : ∃ w, w ∈ rows ∧ atI (wsD rows) 0 = some (wD w) := by
  cases rows with
  | nil => simp at h
  | cons w r => exact ⟨w, by simp, by rw [at0]; rfl⟩
theorem all_true {α : Type} (w : List α) : (w.map fun _ => D.bl true) = (w.map fun _ => true).map D.bl := by rw [List.map_map]; rfl
theorem all_id {α : Type} (w : List α) : (w.map fun _ => true).all id = true := by
  rw [List.all_map, List.all_eq_true]
  intro x _; rfl
def C_need_small : DC := fun ds k => ∃ l : Nat, ds = [.int l] ∧ l ≤ 2 ∧ k .non
theorem ok_need_small (T : Txt K mg A FD TK) : FnOk P w K mg base CX0 3 (A 33) (FD 33) ["level"] (spD K C_need_small) := by
  have S := sc_need_small
  refine fnD T.d_need_small.F S (fun ds k h => by obtain ⟨l, rfl, hl, kk⟩ := h; rfl) fun cdv Ar outer s H E hr ds k h => ?_
  obtain ⟨l, rfl, hl, kk⟩ := h
  refine ⟨_, _, (ss_cons (s_expr (b_call (ok_need_level T) (hr.mono (by decide)) T.d_need_level.mg T.d_need_level.F.kp T.d_need_level.bd (ab_cons (b_var (pv 0)) ab_nil)))
    (ss_one (s_if (t_gt (b_var (pv 0)) (XE.b (c_int (pe_glob rfl T.g_MOST_LEVEL ⟨_, rfl⟩))))
    (ss_one s_never)
    ss_nil))), ?_⟩
  walk_at "dl"
  refine ⟨l, rfl, by omega, ?_⟩
  rw [if_neg (by omega)]
  exact kk
def C_is_word_of : DC := fun ds k => ∃ (l : Nat) (w : NF.Wd), ds = [.int l, wD w] ∧ l ≤ 6 ∧ 1 ≤ w.length ∧ w.length ≤ 12 ∧ (∀ x ∈ w, x < NF.sz l) ∧ k (.bl true)
theorem ok_is_word_of (T : Txt K mg A FD TK) : FnOk P w K mg base CX0 3 (A 34) (FD 34) ["level", "thing"] (spD K C_is_word_of) := by
  have S := sc_is_word_of
  refine fnD T.d_is_word_of.F S (fun ds k h => by obtain ⟨l, w, rfl, hl, h1, h12, hx, kk⟩ := h; rfl) fun cdv Ar outer s H E hr ds k h => ?_
  obtain ⟨l, w, rfl, hl, h1, h12, hx, kk⟩ := h
  refine ⟨_, _, (ss_cons (s_if (XW.t (w_or (t_not (t_val (XE.b (x_isI (t := "tuple") (by simp [isTypes]) T.b_isinstance T.b_tuple (by decide +kernel) (b_var (pv 1)))))) (w_or1 (t_not (t_chain op_le op_le (XE.b (c_int pe_int)) (XE.b (x_len T.b_len (l_var (pv 1)))) (XE.b (c_int (pe_glob rfl T.g_MOST_LENGTH ⟨_, rfl⟩))))))))
    (ss_one (s_ret (c_bl pe_bl)))
    ss_nil)
    (ss_one (s_ret (x_allB rfl T.b_all (XE.b (XF.e (f_lcG (own := [("number", 2)]) (dg := dgName 2) (is := [2]) rfl S.nd (i_seq (e_var (pv 1))) (blkOk_by (N := ["level", "thing", "number"]) (sc := defScope s_is_word_of) (by decide +kernel)) (fun _ _ _ _ _ => by exact ((g_name (i := 2) S.nd rfl))) (fun _ _ _ _ _ => by exact (ts_nil)) (fun _ _ _ _ _ => by exact (e_call (ok_in_level T) (hr.mono (by decide)) T.d_in_level.mg T.d_in_level.F.kp T.d_in_level.bd (a_cons (e_var (pv 0)) (a_cons (e_var (pv 2)) a_nil))))))))))), ?_⟩
  walk_at "dl"
  have hln : ((natsD w).length : Int) = (w.length : Int) := by rw [natsD_len]
  rw [hln, if_neg (by simp [isInst]), if_pos (by omega), if_neg (by simp; omega)]
  refine ⟨_, rfl, _, rfl, by rw [natsD_len]; omega, rfl, cmp_list (g := fun _ => .bl true) (fun x hx' kk' hk' => ?_) ?_⟩
  · walk_at "dl"
    refine ⟨l, x, rfl, hl, ?_⟩
    rw [decide_eq_true (hx x hx')]; exact hk'
  · rw [all_true w]
    exact ⟨_, rfl, by rw [all_id]; exact kk⟩
def C_are_rows_of : DC := fun ds k => ∃ (l n : Nat) (d : D) (rows : List NF.Wd), ds = [.int l, d] ∧ RD d rows ∧ CodeOk l n rows ∧ k (.bl true)
theorem ok_are_rows_of (T : Txt K mg A FD TK) : FnOk P w K mg base CX0 4 (A 35) (FD 35) ["level", "thing"] (spD K C_are_rows_of) := by
  have S := sc_are_rows_of
  refine fnD T.d_are_rows_of.F S (fun ds k h => by obtain ⟨l, n, d, rows, rfl, hd, hC, kk⟩ := h; rfl) fun cdv Ar outer s H E hr ds k h => ?_
  obtain ⟨l, n, d, rows, rfl, hd, hC, kk⟩ := h
  refine ⟨_, _, (ss_cons (s_if (XW.t (w_or (t_not (t_val (XE.b (x_isI2 (t := "list") (u := "tuple") (by simp [isTypes]) (by simp [isTypes]) T.b_isinstance T.b_list T.b_tuple (by decide +kernel) (by decide +kernel) (b_var (pv 1)))))) (w_or1 (t_not (t_chain op_le op_le (XE.b (c_int pe_int)) (XE.b (x_len T.b_len (l_var (pv 1)))) (XE.b (c_int (pe_glob rfl T.g_MOST_LENGTH ⟨_, rfl⟩))))))))
    (ss_one (s_ret (c_bl pe_bl)))
    ss_nil)
    (ss_one (s_ret (x_allB rfl T.b_all (XE.b (XF.e (f_lcG (own := [("word", 2)]) (dg := dgName 2) (is := [2]) rfl S.nd (i_seq (e_var (pv 1))) (blkOk_by (N := ["level", "thing", "word"]) (sc := defScope s_are_rows_of) (by decide +kernel)) (fun _ _ _ _ _ => by exact ((g_name (i := 2) S.nd rfl))) (fun _ _ _ _ _ => by exact (ts_nil)) (fun _ _ _ _ _ => by exact (x_and (b_call (ok_is_word_of T) (hr.mono (by decide)) T.d_is_word_of.mg T.d_is_word_of.F.kp T.d_is_word_of.bd (ab_cons (b_var (pv 0)) (ab_cons (b_var (pv 2)) ab_nil))) (x_one (x_eq hr.units (XE.b (x_len T.b_len (l_var (pv 2)))) (XE.b (x_len T.b_len (XE.l (x_ix (l_var (pv 1)) (XE.b (c_int pe_int))))))))))))))))), ?_⟩
  obtain ⟨i1, i2⟩ := hd.inst
  have hsq := hd.seq
  have hln : ((wsD rows).length : Int) = (rows.length : Int) := by rw [wsD_len]
  have h1 := hC.r1
  have h2 := hC.r12
  have core : dAllB (deLst (dLc (deSeq (dVar 1)) (dgName 2) dYes (dAndV (dCall C_is_word_of (dCons (dBVar 0) (dCons (dBVar 2) dNil))) (dEq false (dLen (dLVar 2)) (dLen (deSeq (dIx (dLVar 1) (dC (.int 0))))))) [2])) [Sl.da (D.int l), Sl.da d, Sl.no] fun d => k d := by
    refine ⟨_, rfl, _, hsq, by rw [wsD_len]; omega, rfl, cmp_list (g := fun _ => .bl true) (fun w hw kk' hk' => ?_) ?_⟩
    · obtain ⟨w0, hw0, e0⟩ := ws_first h1
      have hl1 := hC.ok.1 w hw
      have hl2 := hC.ok.1 w0 hw0
      have hn1 := hC.n1
      have hn2 := hC.n12
      walk_at "dl"
      refine ⟨l, w, rfl, hC.l6, by omega, by omega, hC.ok.2 w hw, _, rfl, ?_⟩
      rw [if_pos rfl]
      refine ⟨_, hsq, _, e0, _, rfl, ?_⟩
      rw [natsD_len, natsD_len, hl1, hl2, decide_eq_true rfl]
      exact hk'
    · rw [all_true]
      exact ⟨_, rfl, by rw [all_id]; exact kk⟩
  rcases hd with rfl | rfl
  all_goals
    walk_at "dl"
    rw [hln, if_neg (by simp [isInst]), if_pos (by omega), if_neg (by simp; omega)]
    exact core
theorem CodeOk.first {l n : Nat} {rows : List NF.Wd} (h : CodeOk l n rows) : ∃ w, w.length = n ∧ (∀ x ∈ w, x < NF.sz l) ∧ atI (wsD rows) 0 = some (wD w) := by
  obtain ⟨w, h1, h2⟩ := ws_first h.r1
  exact ⟨w, h.ok.1 w h1, h.ok.2 w h1, h2⟩
def C_need_rows : DC := fun ds k => ∃ (l n : Nat) (d : D) (rows : List NF.Wd), ds = [.int l, d] ∧ RD d rows ∧ CodeOk l n rows ∧ k .non
theorem ok_need_rows (T : Txt K mg A FD TK) : FnOk P w K mg base CX0 5 (A 36) (FD 36) ["level", "rows"] (spD K C_need_rows) := by
  have S := sc_need_rows
  refine fnD T.d_need_rows.F S (fun ds k h => by obtain ⟨l, n, d, rows, rfl, hd, hC, kk⟩ := h; rfl) fun cdv Ar outer s H E hr ds k h => ?_
  obtain ⟨l, n, d, rows, rfl, hd, hC, kk⟩ := h
  refine ⟨_, _, (ss_cons (s_expr (b_call (ok_need_small T) (hr.mono (by decide)) T.d_need_small.mg T.d_need_small.F.kp T.d_need_small.bd (ab_cons (b_var (pv 0)) ab_nil)))
    (ss_one (s_if (t_not (t_val (b_call (ok_are_rows_of T) (hr.mono (by decide)) T.d_are_rows_of.mg T.d_are_rows_of.F.kp T.d_are_rows_of.bd (ab_cons (b_var (pv 0)) (ab_cons (b_var (pv 1)) ab_nil)))))
    (ss_one s_never)
    ss_nil))), ?_⟩
  walk_at "dl"
  exact ⟨l, rfl, hC.l2, l, n, d, rows, rfl, hd, hC, _, rfl, by rw [if_neg (by simp)]; exact kk⟩
def C_need_word : DC := fun ds k => ∃ (l n : Nat) (d : D) (rows : List NF.Wd) (w : NF.Wd), ds = [.int l, d, wD w] ∧ RD d rows ∧ CodeOk l n rows ∧ w.length = n ∧ (∀ x ∈ w, x < NF.sz l) ∧ k .non
theorem ok_need_word (T : Txt K mg A FD TK) : FnOk P w K mg base CX0 4 (A 37) (FD 37) ["level", "rows", "word"] (spD K C_need_word) := by
  have S := sc_need_word
  refine fnD T.d_need_word.F S (fun ds k h => by obtain ⟨l, n, d, rows, w, rfl, hd, hC, hw, hx, kk⟩ := h; rfl) fun cdv Ar outer s H E hr ds k h => ?_
  obtain ⟨l, n, d, rows, w, rfl, hd, hC, hw, hx, kk⟩ := h
  refine ⟨_, _, (ss_one (s_if (XW.t (w_or (t_not (t_val (b_call (ok_is_word_of T) (hr.mono (by decide)) T.d_is_word_of.mg T.d_is_word_of.F.kp T.d_is_word_of.bd (ab_cons (b_var (pv 0)) (ab_cons (b_var (pv 2)) ab_nil))))) (w_or1 (t_ne hr.units (XE.b (x_len T.b_len (l_var (pv 2)))) (XE.b (x_len T.b_len (XE.l (x_ix (l_var (pv 1)) (XE.b (c_int pe_int))))))))))
    (ss_one s_never)
    ss_nil)), ?_⟩
  obtain ⟨w0, h1, h2, h3⟩ := hC.first
  have hsq := hd.seq
  have hn1 := hC.n1
  have hn2 := hC.n12
  walk_at "dl"
  refine ⟨l, w, rfl, hC.l6, by omega, by omega, hx, _, rfl, ?_⟩
  rw [if_neg (by simp)]
  refine ⟨_, hsq, _, h3, _, rfl, ?_⟩
  rw [natsD_len, natsD_len, hw, h1, if_neg (by simp)]
  exact kk
def C_words : DC := fun ds k => ∃ (l n : Nat) (d : D) (rows : List NF.Wd), ds = [.int l, d] ∧ RD d rows ∧ CodeOk l n rows ∧ n * 2 ^ l ≤ 12 ∧ ∀ ws, SrtW ws (NF.wordsW l n (NF.redRows rows)) → k (.tup (wsD ws))
theorem CodeOk.good {l n : Nat} {rows : List NF.Wd} (h : CodeOk l n rows) : NF.Good n l (NF.redRows rows) := NF.redRows_good h.ok.1 h.ok.2
theorem CodeOk.few {l n : Nat} {rows : List NF.Wd} (h : CodeOk l n rows) (q : n * 2 ^ l ≤ 12) : (NF.redRows rows).length * 2 ^ l ≤ 12 := Nat.le_trans (Nat.mul_le_mul_right _ (NF.good_rank h.good)) q
theorem CodeOk.rok {l n : Nat} {rows : List NF.Wd} (h : CodeOk l n rows) : RowsOk n l (NF.redRows rows) := ⟨h.good.len, h.good.lt⟩
def C_reduced_rows : DC := fun ds k => ∃ (l n : Nat) (d : D) (rows : List NF.Wd), ds = [.int l, d] ∧ RD d rows ∧ CodeOk l n rows ∧ k (.tup (wsD (NF.redRows rows)))
theorem ok_reduced_rows (T : Txt K mg A FD TK) : FnOk P w K mg base CX0 12 (A 43) (FD 43) ["level", "rows"] (spD K C_reduced_rows) := by
  have S := sc_reduced_rows
  refine fnD T.d_reduced_rows.F S (fun ds k h => by obtain ⟨l, n, d, rows, rfl, hd, hC, kk⟩ := h; rfl) fun cdv Ar outer s H E hr ds k h => ?_
  obtain ⟨l, n, d, rows, rfl, hd, hC, kk⟩ := h
  refine ⟨_, _, (ss_cons (s_expr (b_call (ok_need_rows T) (hr.mono (by decide)) T.d_need_rows.mg T.d_need_rows.F.kp T.d_need_rows.bd (ab_cons (b_var (pv 0)) (ab_cons (b_var (pv 1)) ab_nil))))
    (ss_one (s_ret (x_tupOf T.b_tuple (XE.l (e_call (ok_rows_by T) (hr.mono (by decide)) T.d_rows_by.mg T.d_rows_by.F.kp T.d_rows_by.bd (a_cons (e_var (pv 1)) a_nil))))))), ?_⟩
  have hn2 := hC.n12
  walk_at "dl"
  exact ⟨l, n, d, rows, rfl, hd, hC, d, rows, n, l, rfl, hd.seq, by omega, hC.l6, hC.ok, _, rfl, kk⟩
def C_is_in : DC := fun ds k => ∃ (l n : Nat) (d : D) (rows : List NF.Wd) (w : NF.Wd), ds = [.int l, d, wD w] ∧ RD d rows ∧ CodeOk l n rows ∧ w.length = n ∧ (∀ x ∈ w, x < NF.sz l) ∧ k (.bl (decide ((NF.rowsW (rows ++ [w])).length = (NF.rowsW rows).length)))
theorem ok_is_in (T : Txt K mg A FD TK) : FnOk P w K mg base CX0 12 (A 44) (FD 44) ["level", "rows", "word"] (spD K C_is_in) := by
  have S := sc_is_in
  refine fnD T.d_is_in.F S (fun ds k h => by obtain ⟨l, n, d, rows, w, rfl, hd, hC, hw, hx, kk⟩ := h; rfl) fun cdv Ar outer s H E hr ds k h => ?_
  obtain ⟨l, n, d, rows, w, rfl, hd, hC, hw, hx, kk⟩ := h
  refine ⟨_, _, (ss_cons (s_expr (b_call (ok_need_rows T) (hr.mono (by decide)) T.d_need_rows.mg T.d_need_rows.F.kp T.d_need_rows.bd (ab_cons (b_var (pv 0)) (ab_cons (b_var (pv 1)) ab_nil))))
    (ss_cons (s_expr (b_call (ok_need_word T) (hr.mono (by decide)) T.d_need_word.mg T.d_need_word.F.kp T.d_need_word.bd (ab_cons (b_var (pv 0)) (ab_cons (b_var (pv 1)) (ab_cons (b_var (pv 2)) ab_nil)))))
    (ss_one (s_ret (x_eq hr.units (XE.b (x_len T.b_len (XE.l (e_call (ok_rows_by T) (hr.mono (by decide)) T.d_rows_by.mg T.d_rows_by.F.kp T.d_rows_by.bd (a_cons (XF.e (f_lst (a_star (l_var (pv 1)) (a_cons (e_var (pv 2)) a_nil)))) a_nil))))) (XE.b (x_len T.b_len (XE.l (e_call (ok_rows_by T) (hr.mono (by decide)) T.d_rows_by.mg T.d_rows_by.F.kp T.d_rows_by.bd (a_cons (e_var (pv 1)) a_nil)))))))))), ?_⟩
  have hn2 := hC.n12
  have hr12 := hC.r12
  have hok : RowsOk n l (rows ++ [w]) := by
    constructor
    · intro r hr
      rcases List.mem_append.mp hr with q | q
      · exact hC.ok.1 r q
      · rw [List.mem_singleton.mp q]; exact hw
    · intro r hr
      rcases List.mem_append.mp hr with q | q
      · exact hC.ok.2 r q
      · rw [List.mem_singleton.mp q]; exact hx
  walk_at "dl"
  refine ⟨l, n, d, rows, rfl, hd, hC, l, n, d, rows, w, rfl, hd, hC, hw, hx, _, hd.seq, ?_⟩
  have ea : wsD rows ++ [wD w] = wsD (rows ++ [w]) := by simp [wsD]
  rw [ea]
  refine ⟨by rw [wsD_len, List.length_append, List.length_singleton]; omega, _, rows ++ [w], n, l, rfl, rfl, by omega, hC.l6, hok, _, rfl, d, rows, n, l, rfl, hd.seq, by omega, hC.l6, hC.ok, _, rfl, ?_⟩
  rw [wsD_len, wsD_len, NF.redRows_len, NF.redRows_len]
  exact kk
def C_are_same : DC := fun ds k => ∃ (l n : Nat) (d e : D) (rows others : List NF.Wd), ds = [.int l, d, e] ∧ RD d rows ∧ RD e others ∧ CodeOk l n rows ∧ CodeOk l n others ∧ k (.bl (decide (NF.redRows rows = NF.redRows others)))
theorem eqvs_nats : ∀ ns ms : NF.Wd, PyData.eqvAll (D.pys (natsD ns)) (D.pys (natsD ms)) = decide (ns = ms) := fun ns ms => by
  rw [natsD_I, natsD_I, eqvs_ints]
  by_cases h : ns = ms
  · rw [decide_eq_true h, decide_eq_true (by rw [h])]
  · rw [decide_eq_false h, decide_eq_false (fun z => h (natI_inj z))]
theorem eqvs_ws : ∀ ws vs : List NF.Wd, PyData.eqvAll (D.pys (wsD ws)) (D.pys (wsD vs)) = decide (ws = vs)
  | [], [] => by simp [D.pys, PyData.eqvAll]
  | [], _ :: _ => by simp [D.pys, PyData.eqvAll]
  | _ :: _, [] => by simp [D.pys, PyData.eqvAll]
  | w :: ws, v :: vs => by
    have h1 := eqvs_ws ws vs
    have h2 := eqvs_nats w v
    show PyData.eqvAll (PyData.tuple (D.pys (natsD w)) :: D.pys (wsD ws)) (PyData.tuple (D.pys (natsD v)) :: D.pys (wsD vs)) = _
    simp only [PyData.eqvAll, PyData.eqv, h1, h2]
    by_cases e1 : w = v <;> by_cases e2 : ws = vs <;> simp [e1, e2]
theorem eqv_ws (ws vs : List NF.Wd) : D.eqv (.lst (wsD ws)) (.lst (wsD vs)) = decide (ws = vs) := by
  unfold D.eqv
  simp only [D.py, PyData.eqv]
  exact eqvs_ws ws vs
theorem eqv_wst (ws vs : List NF.Wd) : D.eqv (.tup (wsD ws)) (.tup (wsD vs)) = decide (ws = vs) := by
  unfold D.eqv
  simp only [D.py, PyData.eqv]
  exact eqvs_ws ws vs
theorem eqv_nats (w v : NF.Wd) : D.eqv (wD w) (wD v) = decide (w = v) := by
  unfold D.eqv
  simp only [D.py, PyData.eqv]
  exact eqvs_nats w v
theorem pls_nats (n : Nat) (w : NF.Wd) : D.pls n (natsD w) = true := by rw [natsD_I]; exact pls_ints n _
theorem pl_wD (n : Nat) (w : NF.Wd) : D.pl (n + 1) (wD w) = true := by rw [pl_tup]; exact pls_nats n w
theorem pls_ws (n : Nat) : ∀ ws : List NF.Wd, D.pls (n + 1) (wsD ws) = true
  | [] => pls_nil _
  | w :: ws => by rw [show wsD (w :: ws) = wD w :: wsD ws from rfl, pls_cons, pl_wD, pls_ws n ws]; rfl
theorem pl_ws (n : Nat) (ws : List NF.Wd) : D.pl (n + 2) (.lst (wsD ws)) = true := by rw [pl_lst]; exact pls_ws n ws
theorem pl_wst (n : Nat) (ws : List NF.Wd) : D.pl (n + 2) (.tup (wsD ws)) = true := by rw [pl_tup]; exact pls_ws n ws
def C_dual_rows : DC := fun ds k => ∃ (l n : Nat) (d : D) (rows : List NF.Wd), ds = [.int l, d] ∧ RD d rows ∧ CodeOk l n rows ∧ k (.tup (wsD (NF.dualRows rows n)))
theorem ok_dual_rows (T : Txt K mg A FD TK) : FnOk P w K mg base CX0 13 (A 45) (FD 45) ["level", "rows"] (spD K C_dual_rows) := by
  have S := sc_dual_rows
  refine fnD T.d_dual_rows.F S (fun ds k h => by obtain ⟨l, n, d, rows, rfl, hd, hC, kk⟩ := h; rfl) fun cdv Ar outer s H E hr ds k h => ?_
  obtain ⟨l, n, d, rows, rfl, hd, hC, kk⟩ := h
  refine ⟨_, _, (ss_cons (s_expr (b_call (ok_need_rows T) (hr.mono (by decide)) T.d_need_rows.mg T.d_need_rows.F.kp T.d_need_rows.bd (ab_cons (b_var (pv 0)) (ab_cons (b_var (pv 1)) ab_nil))))
    (ss_one (s_ret (x_tupOf T.b_tuple (XE.l (e_call (ok_dual_by T) (hr.mono (by decide)) T.d_dual_by.mg T.d_dual_by.F.kp T.d_dual_by.bd (a_cons (e_call (ok_rows_by T) (hr.mono (by decide)) T.d_rows_by.mg T.d_rows_by.F.kp T.d_rows_by.bd (a_cons (e_var (pv 1)) a_nil)) (a_cons (x_len T.b_len (XE.l (x_ix (l_var (pv 1)) (XE.b (c_int pe_int))))) a_nil)))))))), ?_⟩
  obtain ⟨w0, h1, h2, h3⟩ := hC.first
  have hn2 := hC.n12
  walk_at "dl"
  refine ⟨l, n, d, rows, rfl, hd, hC, d, rows, n, l, rfl, hd.seq, by omega, hC.l6, hC.ok, _, hd.seq, _, h3, _, rfl, ?_⟩
  rw [natsD_len, h1]
  exact ⟨l, n, _, rfl, hC.l6, by omega, hC.good, _, rfl, kk⟩
theorem words_many {l n : Nat} {rows : List NF.Wd} (h : CodeOk l n rows) (q : n * 2 ^ l ≤ 12) : (NF.wordsW l n (NF.redRows rows)).length ≤ 4096 := by
  have := NF.words_count l n (NF.redRows rows) [List.replicate n 0]
  have e : NF.wordsW l n (NF.redRows rows) = (NF.redRows rows).foldl (fun found row => (List.range (NF.sz l)).flatMap fun k => found.map fun w => NF.lessW w row k) [List.replicate n 0] := rfl
  rw [e, this, List.length_singleton, Nat.mul_one]
  have e2 : NF.sz l ^ (NF.redRows rows).length = 2 ^ (2 ^ l * (NF.redRows rows).length) := by unfold NF.sz; rw [← Nat.pow_mul]
  rw [e2]
  refine Nat.le_trans (Nat.pow_le_pow_right (by decide) ?_) (show 2 ^ 12 ≤ 4096 by decide)
  rw [Nat.mul_comm]
  exact h.few q
theorem ws_ky (ws : List NF.Wd) : wsD ws = (ws.map natI).map (kyD 0) := by
  unfold wsD
  rw [List.map_map]
  exact List.map_congr_left fun w _ => congrArg D.tup (natsD_I w)
/-! weights -/
def C_weight : DC := fun ds k => ∃ w : NF.Wd, ds = [wD w] ∧ w.length ≤ 1000 ∧ k (.int (NF.wtW w : Nat))
theorem ok_weight (T : Txt K mg A FD TK) : FnOk P w K mg base CX0 1 (A 57) (FD 57) ["word"] (spD K C_weight) := by
  have S := sc_weight
  refine fnD T.d_weight.F S (fun ds k h => by obtain ⟨w, rfl, hw, kk⟩ := h; rfl) fun cdv Ar outer s H E hr ds k h => ?_
  obtain ⟨w, rfl, hw, kk⟩ := h
  refine ⟨_, _, (ss_one (s_ret (x_len T.b_len (XF.l (f_lcG (own := [("number", 1)]) (dg := dgName 1) (is := [1]) rfl S.nd (i_seq (e_var (pv 0))) (blkOk_by (N := ["word", "number"]) (sc := defScope s_weight) (by decide +kernel)) (fun _ _ _ _ _ => by exact ((g_name (i := 1) S.nd rfl))) (fun _ _ _ _ _ => by exact ((ts_one (t_ne hr.units (b_var (pv 1)) (XE.b (c_int pe_int)))))) (fun _ _ _ _ _ => by exact (e_var (pv 1)))))))), ?_⟩
  walk_at "dl"
  refine ⟨_, rfl, _, rfl, by rw [natsD_len]; omega, rfl, cmp_filter (p := fun x => x != 0) (fun x hx kk' hk' => ?_) ?_⟩
  · walk_at "dl"
    by_cases h : x = 0
    · subst h; simpa using hk'
    · have h' : (x != 0) = true := bne_iff_ne.mpr h
      rw [if_pos h'] at hk'
      simpa [h] using hk'
  · rw [List.length_map]; exact kk
def WtI (ws : List NF.Wd) (n : Nat) (d : D) (i : Nat) (r : List Sl) : Prop := ∃ (p : Addr) (s3 : Sl), r = [.da d, .da (.int n), .ol p (natsD (NF.wtsW (ws.take i) n)), s3] ∧ s3.addr = none
def C_weights_by : DC := fun ds k => ∃ (d : D) (ws : List NF.Wd) (n : Nat), ds = [d, .int n] ∧ d.seq = some (wsD ws) ∧ n ≤ 1000 ∧ (∀ w ∈ ws, w.length = n) ∧ k (.lst (natsD (NF.wtsW ws n)))
theorem wt_le (w : NF.Wd) : NF.wtW w ≤ w.length := List.length_filter_le _ _
theorem wts_zero (n : Nat) : NF.wtsW [] n = List.replicate (n + 1) 0 := by
  unfold NF.wtsW
  apply List.ext_getElem
  · simp
  · intro i h1 h2; simp
theorem wts_len (ws : List NF.Wd) (n : Nat) : (NF.wtsW ws n).length = n + 1 := by unfold NF.wtsW; rw [List.length_map, List.length_range]
theorem wts_at (ws : List NF.Wd) {n t : Nat} (h : t ≤ n) : (NF.wtsW ws n)[t]? = some (ws.countP fun w => NF.wtW w == t) := by
  unfold NF.wtsW
  rw [List.getElem?_map, List.getElem?_range (by omega)]; rfl
theorem wts_step (ws : List NF.Wd) (w : NF.Wd) {n : Nat} (h : NF.wtW w ≤ n) : NF.wtsW (ws ++ [w]) n = (NF.wtsW ws n).set (NF.wtW w) (ws.countP (fun v => NF.wtW v == NF.wtW w) + 1) := by
  apply List.ext_getElem?
  intro i
  by_cases hi : i ≤ n
  · rw [wts_at _ hi, List.getElem?_set, List.countP_append]
    by_cases e : NF.wtW w = i
    · subst e
      rw [if_pos rfl, if_pos (by rw [wts_len]; omega)]
      simp
    · rw [if_neg e, wts_at _ hi]
      simp [e]
  · have h1 : (NF.wtsW (ws ++ [w]) n)[i]? = none := by rw [List.getElem?_eq_none_iff, wts_len]; omega
    have h2 : ((NF.wtsW ws n).set (NF.wtW w) (ws.countP (fun v => NF.wtW v == NF.wtW w) + 1))[i]? = none := by rw [List.getElem?_eq_none_iff, List.length_set, wts_len]; omega
    rw [h1, h2]
theorem ok_weights_by (T : Txt K mg A FD TK) : FnOk P w K mg base CX0 2 (A 58) (FD 58) ["some", "length"] (spD K C_weights_by) := by
  have S := sc_weights_by
  refine fnD T.d_weights_by.F S (fun ds k h => by obtain ⟨d, ws, n, rfl, hd, hn, hl, kk⟩ := h; rfl) fun cdv Ar outer s H E hr ds k h => ?_
  obtain ⟨d, ws, n, rfl, hd, hn, hl, kk⟩ := h
  refine ⟨_, _, (ss_cons (s_set (i := 2) S.nd rfl (XF.v (f_rep (XF.ll (f_lst (a_cons (c_int pe_int) a_nil))) (XE.b (x_add (b_var (pv 1)) (XE.b (c_int pe_int)))))))
    (ss_cons (s_for PassesOwn.never rfl (i_seq (e_var (pv 0))) (g_name (i := 3) S.nd rfl)
    (ss_one (s_augIx (pv 2) (b_call (ok_weight T) (hr.mono (by decide)) T.d_weight.mg T.d_weight.F.kp T.d_weight.bd (ab_cons (b_var (pv 3)) ab_nil)) (XE.b (c_int pe_int)))))
    (ss_one (s_ret (e_var (pv 2)))))), ?_⟩
  walk_at "dl"
  have en : ((n : Int) + 1).toNat = n + 1 := by omega
  rw [en]
  refine ⟨by omega, by omega, by omega, fun p => ⟨_, hd, WtI ws n d, ⟨p, .no, ?_, rfl⟩, ?_, ?_⟩⟩
  · rw [rep_flat, List.take_zero, wts_zero]
  · rintro i dw r hdw ⟨p, s3, rfl, a3⟩
    obtain ⟨w, hw, rfl⟩ := ws_get hdw
    have hwl := hl w (List.mem_of_getElem? hw)
    have hle : NF.wtW w ≤ n := by have := wt_le w; omega
    have hts : ws.take (i + 1) = ws.take i ++ [w] := by rw [List.take_add_one, hw]; rfl
    walk_at "dl"
    refine ⟨w, rfl, by omega, NF.wtW w, rfl, (((ws.take i).countP fun v => NF.wtW v == NF.wtW w : Nat) : Int), ?_, ?_⟩
    · unfold natsD
      rw [List.getElem?_map, wts_at _ hle]; rfl
    · refine ⟨p, .da (wD w), ?_, rfl⟩
      rw [hts, wts_step _ _ hle]
      have e : (((ws.take i).countP fun v => NF.wtW v == NF.wtW w : Nat) : Int) + 1 = (((ws.take i).countP (fun v => NF.wtW v == NF.wtW w) + 1 : Nat) : Int) := by omega
      rw [e, set_nats]
  · rintro r ⟨p, s3, rfl, a3⟩
    rw [wsD_len, List.take_length]
    walk_at "dl"
    exact kk
def C_code_of : DC := fun ds k => ∃ (l n : Nat) (d : D) (rows : List NF.Wd), ds = [.int l, d] ∧ RD d rows ∧ CodeOk l n rows ∧ (NF.redRows rows).length * 2 ^ l ≤ 12 ∧ ∀ ws, SrtW ws (NF.wordsW l n (NF.redRows rows)) → k (.lst (wsD ws))
theorem ok_code_of (T : Txt K mg A FD TK) : FnOk P w K mg base CX0 12 (A 59) (FD 59) ["level", "rows"] (spD K C_code_of) := by
  have S := sc_code_of
  refine fnD T.d_code_of.F S (fun ds k h => by obtain ⟨l, n, d, rows, rfl, hd, hC, hq, kk⟩ := h; rfl) fun cdv Ar outer s H E hr ds k h => ?_
  obtain ⟨l, n, d, rows, rfl, hd, hC, hq, kk⟩ := h
  refine ⟨_, _, (ss_one (s_ret (e_call (ok_words_by T) (hr.mono (by decide)) T.d_words_by.mg T.d_words_by.F.kp T.d_words_by.bd (a_cons (e_var (pv 0)) (a_cons (e_call (ok_rows_by T) (hr.mono (by decide)) T.d_rows_by.mg T.d_rows_by.F.kp T.d_rows_by.bd (a_cons (e_var (pv 1)) a_nil)) (a_cons (x_len T.b_len (XE.l (x_ix (l_var (pv 1)) (XE.b (c_int pe_int))))) a_nil)))))), ?_⟩
  obtain ⟨w0, h1, h2, h3⟩ := hC.first
  have hn1 := hC.n1
  have hn2 := hC.n12
  walk_at "dl"
  refine ⟨d, rows, n, l, rfl, hd.seq, by omega, hC.l6, hC.ok, _, hd.seq, _, h3, _, rfl, ?_⟩
  rw [natsD_len, h1]
  exact ⟨l, n, _, rfl, hC.l2, hn1, by omega, hC.rok, hq, fun ws hs => kk ws hs⟩
def C_weights : DC := fun ds k => ∃ (l n : Nat) (d : D) (rows : List NF.Wd), ds = [.int l, d] ∧ RD d rows ∧ CodeOk l n rows ∧ n * 2 ^ l ≤ 12 ∧ k (.tup (natsD (NF.wtsW (NF.wordsW l n (NF.redRows rows)) n)))
/-! numbers of a list -/
def C_need_numbers : DC := fun ds k => ∃ (d : D) (w : NF.Wd), ds = [d] ∧ (d = .lst (natsD w) ∨ d = wD w) ∧ w.length ≤ 200 ∧ B64 w ∧ k .non
def C_sum_of : DC := fun ds k => ∃ (d : D) (w : NF.Wd), ds = [d] ∧ (d = .lst (natsD w) ∨ d = wD w) ∧ w.length ≤ 200 ∧ B64 w ∧ k (.int (w.foldl (· ^^^ ·) 0 : Nat))
def SmI (d : D) (w : NF.Wd) (i : Nat) (r : List Sl) : Prop := ∃ s2 : Sl, r = [.da d, .da (.int ((w.take i).foldl (· ^^^ ·) 0 : Nat)), s2] ∧ s2.addr = none
theorem nats_get {w : NF.Wd} {i : Nat} {d : D} (h : (natsD w)[i]? = some d) : ∃ x, w[i]? = some x ∧ d = .int (x : Nat) := by
  unfold natsD at h
  rw [List.getElem?_map] at h
  cases e : w[i]? with
  | none => rw [e] at h; cases h
  | some x => rw [e] at h; cases h; exact ⟨x, rfl, rfl⟩
def C_nim_product : DC := fun ds k => ∃ a b : Nat, ds = [.int a, .int b] ∧ a < 18446744073709551616 ∧ b < 18446744073709551616 ∧ k (.int (NF.nm a b : Nat))
def C_square_root : DC := fun ds k => ∃ a : Nat, ds = [.int a] ∧ a < 18446744073709551616 ∧ k (.int (NF.frN 63 a : Nat))
end
end M

namespace M
open PySem PySem.Spec L2 DL
section
variable {P : Program} {w : World} {K : PySem.W.Frag} {mg : Str → Option Value} {base : Heap} {A : Nat → Addr} {FD : Nat → FuncData} {TK : Nat → Tok}

local macro_rules | `(tactic| walk_at "dl") => `(tactic| simp (config := { decide := false }) only [dRet, dRetN, dAndV, dOrV, dNotV, dIsI, dBVar, dVar, dLVar, dC, dI, dI0, gI, gB, dCmp, dTest, dNot, dAnd, dOr, dChain, dIx, deSeq, deLst, deSc, dCons, dNil, dCall, dLen, dTup, dLst, dTupOf, dIf, dSeq, dNext, dSet, dvC, dvF, VV.put, dPar, dDrop, dMax2, dMin2, dIntOf, dIfE, dEq, dYes, dgName, dgTup, dgCons, dgNil, dStep, wipeS, dCallR, dFor, dRng1, dRng2, dAsgT, dPar3, dApp, dSortI, dMinI, dRep, dCat, dLLVar, deLL, dIsN, dReprB, dDrI, dDrC, dDrSet, isDr, dDisp3, dMinT, dRevT, dRevL, dStar, dPop, dSetIx, dSortP, dSortSet, dSetPop, dSortK, dRepT, dCatT, dSlT, dSlL, dONo, dOSo, dInI, dIsB, dAugIx, dIsI2, dZipT, dMinK, Bool.xor_false, Bool.xor_true, Sl.dr.injEq, bodyR, D.isN, D.reprB, Nat.reduceLeDiff,
  st0, frzAll, frzAt, frz_da, frz_no, frz_ol, frz_od, frz_dr, Sl.look, Sl.seq, D.seq, D.cls, D.sc, D.toI, bodyE, List.map_cons, List.map_nil, List.length_cons, List.length_nil, List.replicate, List.nil_append, List.cons_append, List.append_nil, List.getElem?_cons_zero, List.getElem?_cons_succ, List.set_cons_zero, List.set_cons_succ, Option.some.injEq, Sl.da.injEq, Sl.ol.injEq, D.int.injEq, D.bl.injEq, D.str.injEq, D.lst.injEq, D.tup.injEq, List.cons.injEq,
  exists_eq_left, exists_eq_left', exists_eq_right, exists_and_left, exists_and_right, and_assoc, and_true, true_and, and_self, ne_eq, not_false_eq_true, forall_const, reduceCtorEq, Nat.reduceSub, Nat.reduceAdd, Nat.sub_self, false_or, or_false, exists_const, exists_eq', exists_eq, exists_false, implies_true, and_false, false_and, if_true, if_false, decide_eq_true_eq, decide_true, decide_false, Bool.false_eq_true, reduceIte, Bool.not_true, Bool.not_false, pl_int, pl_bl, pl_non, pl_lst, pl_tup, pls_nil, pls_cons, pl_ints, pls_ints, pls_bls, eqv_int, eqv_bl, eqv_ints, eqv_tints, eqv_bls, Bool.false_xor, Bool.true_xor, Bool.and_true, Bool.true_and, Int.natCast_inj])

/-! drawn rows -/
theorem cmp_any {α : Type} {P : α → Prop} {g : α → D} {step : D → (Option D → Prop) → Prop} : ∀ {ds : List D}, (∀ d ∈ ds, ∀ k : Option D → Prop, (∀ a, P a → k (some (g a))) → step d k) → ∀ {k : List D → Prop}, (∀ as : List α, as.length = ds.length → (∀ a ∈ as, P a) → k (as.map g)) → cmp step ds k
  | [], _, k, q => q [] rfl fun _ h => nomatch h
  | d :: ds, h, k, q => by
    show step d _
    refine h d (by simp) _ fun a ha => cmp_any (P := P) (g := g) (fun y hy => h y (by simp [hy])) fun as hl hp => ?_
    exact q (a :: as) (by simp [hl]) fun b hb => by
      rcases List.mem_cons.mp hb with z | z
      · rw [z]; exact ha
      · exact hp b z
def C__law_sum : DC := fun ds k => ∃ w : NF.Wd, ds = [.lst (natsD w)] ∧ k (.int (w.foldl (· ^^^ ·) 0 : Nat))
theorem ok__law_sum (T : Txt K mg A FD TK) : FnOk P w K mg base CX0 1 (A 72) (FD 72) ["numbers"] (spD K C__law_sum) := by
  have S := sc__law_sum
  refine fnD T.d__law_sum.F S (fun ds k h => by obtain ⟨w, rfl, kk⟩ := h; rfl) fun cdv Ar outer s H E hr ds k h => ?_
  obtain ⟨w, rfl, kk⟩ := h
  refine ⟨_, _, (ss_cons (s_set (i := 1) S.nd rfl (XE.v (c_int pe_int)))
    (ss_cons (s_for PassesOwn.never rfl (i_seq (e_var (pv 0))) (g_name (i := 2) S.nd rfl)
    (ss_one (s_set (i := 1) S.nd rfl (XE.v (x_xor (b_var (pv 1)) (b_var (pv 2)))))))
    (ss_one (s_ret (e_var (pv 1)))))), ?_⟩
  walk_at "dl"
  refine ⟨SmI _ w, ⟨.no, rfl, rfl⟩, ?_, ?_⟩
  · rintro i dx r hdx ⟨s2, rfl, a2⟩
    obtain ⟨x, hx1, rfl⟩ := nats_get hdx
    walk_at "dl"
    refine ⟨.da (.int (x : Nat)), ?_, rfl⟩
    rw [bx, List.take_add_one, hx1, List.foldl_append]; rfl
  · rintro r ⟨s2, rfl, a2⟩
    rw [natsD_len, List.take_length]
    walk_at "dl"
    exact kk
def addW (w r : NF.Wd) : NF.Wd := List.zipWith (fun a b => a ^^^ b) w r
def C__law_added : DC := fun ds k => ∃ w r : NF.Wd, ds = [wD w, wD r] ∧ w.length ≤ 1000 ∧ k (wD (addW w r))
theorem add_len {w r : NF.Wd} (h : w.length = r.length) : (addW w r).length = w.length := by unfold addW; rw [List.length_zipWith]; omega
theorem add_lt {w r : NF.Wd} {l : Nat} (hw : ∀ x ∈ w, x < NF.sz l) (hr : ∀ x ∈ r, x < NF.sz l) : ∀ x ∈ addW w r, x < NF.sz l := fun x hx => by
  obtain ⟨i, hi, e⟩ := List.getElem_of_mem hx
  unfold addW at hi e
  rw [List.getElem_zipWith] at e
  subst e
  exact NF.xor_lt (hw _ (List.getElem_mem _)) (hr _ (List.getElem_mem _))
theorem ws_last {rows : List NF.Wd} (h : 1 ≤ rows.length) : ∃ w, w ∈ rows ∧ atI (wsD rows) (-1) = some (wD w) := by
  have hn : rows ≠ [] := fun z => by rw [z] at h; simp at h
  refine ⟨rows.getLast hn, List.getLast_mem hn, ?_⟩
  have e : wsD rows = wsD rows.dropLast ++ [wD (rows.getLast hn)] := by
    show rows.map wD = rows.dropLast.map wD ++ [wD (rows.getLast hn)]
    have := List.dropLast_concat_getLast hn
    rw [← List.map_singleton (f := wD), ← List.map_append, this]
  rw [e]
  exact at_end _ _
def RwI (p : Addr) (q : Addr) (l n m : Nat) (i : Nat) (r : List Sl) : Prop := ∃ (a : Addr) (rows : List NF.Wd) (s6 s7 s8 : Sl), r = [.dr p q, .da (.int l), .da (.int n), .da (.int m), .da (.int (NF.sz l : Nat)), .ol a (wsD rows), s6, s7, s8] ∧ RowsOk n l rows ∧ rows.length = i + 1 ∧ s6.addr = none ∧ s7.addr = none ∧ s8.addr = none
def C__law_rows : DC := fun ds k => ∃ l n m : Nat, ds = [.int l, .int n, .int m] ∧ l ≤ 2 ∧ 1 ≤ n ∧ n ≤ 12 ∧ 1 ≤ m ∧ m ≤ 12 ∧ ∀ rows, CodeOk l n rows → rows.length ≤ m → k (.lst (wsD rows))
/-! a level and a length -/
def C__law_shape : DC := fun ds k => ds = [] ∧ ∀ l n : Nat, l ≤ 2 → 1 ≤ n → n * 2 ^ l ≤ 8 → k (.tup [.int l, .int n])
end
end M

namespace M
open PySem PySem.Spec L2 DL
section
variable {P : Program} {w : World} {K : PySem.W.Frag} {mg : Str → Option Value} {base : Heap} {A : Nat → Addr} {FD : Nat → FuncData} {TK : Nat → Tok}

local macro_rules | `(tactic| walk_at "dl") => `(tactic| simp (config := { decide := false }) only [dRet, dRetN, dAndV, dOrV, dNotV, dIsI, dBVar, dVar, dLVar, dC, dI, dI0, gI, gB, dCmp, dTest, dNot, dAnd, dOr, dChain, dIx, deSeq, deLst, deSc, dCons, dNil, dCall, dLen, dTup, dLst, dTupOf, dIf, dSeq, dNext, dSet, dvC, dvF, VV.put, dPar, dDrop, dMax2, dMin2, dIntOf, dIfE, dEq, dYes, dgName, dgTup, dgCons, dgNil, dStep, wipeS, dCallR, dFor, dRng1, dRng2, dAsgT, dPar3, dApp, dSortI, dMinI, dRep, dCat, dLLVar, deLL, dIsN, dReprB, dDrI, dDrC, dDrSet, isDr, dDisp3, dMinT, dRevT, dRevL, dStar, dPop, dSetIx, dSortP, dSortSet, dSetPop, dSortK, dRepT, dCatT, dSlT, dSlL, dONo, dOSo, dInI, dIsB, dAugIx, dIsI2, dZipT, dMinK, Bool.xor_false, Bool.xor_true, Sl.dr.injEq, bodyR, D.isN, D.reprB, Nat.reduceLeDiff,
  st0, frzAll, frzAt, frz_da, frz_no, frz_ol, frz_od, frz_dr, Sl.look, Sl.seq, D.seq, D.cls, D.sc, D.toI, bodyE, List.map_cons, List.map_nil, List.length_cons, List.length_nil, List.replicate, List.nil_append, List.cons_append, List.append_nil, List.getElem?_cons_zero, List.getElem?_cons_succ, List.set_cons_zero, List.set_cons_succ, Option.some.injEq, Sl.da.injEq, Sl.ol.injEq, D.int.injEq, D.bl.injEq, D.str.injEq, D.lst.injEq, D.tup.injEq, List.cons.injEq,
  exists_eq_left, exists_eq_left', exists_eq_right, exists_and_left, exists_and_right, and_assoc, and_true, true_and, and_self, ne_eq, not_false_eq_true, forall_const, reduceCtorEq, Nat.reduceSub, Nat.reduceAdd, Nat.sub_self, false_or, or_false, exists_const, exists_eq', exists_eq, exists_false, implies_true, and_false, false_and, if_true, if_false, decide_eq_true_eq, decide_true, decide_false, Bool.false_eq_true, reduceIte, Bool.not_true, Bool.not_false, pl_int, pl_bl, pl_non, pl_lst, pl_tup, pls_nil, pls_cons, pl_ints, pls_ints, pls_bls, eqv_int, eqv_bl, eqv_ints, eqv_tints, eqv_bls, Bool.false_xor, Bool.true_xor, Bool.and_true, Bool.true_and, Int.natCast_inj])

/-! rows of every kind -/
def TailOk (ns : List Nat) : Prop := ∀ ys m, ns = ys ++ [m] → m ≠ 0
theorem trim_ok (ns : List Nat) : TailOk (trim ns) := fun ys m e z => by
  subst z
  have h1 : (ns.reverse.dropWhile fun n => decide (n = 0)) = 0 :: ys.reverse := by
    have := congrArg List.reverse e
    unfold trim at this
    rw [List.reverse_reverse, List.reverse_append] at this
    exact this
  have := List.head_dropWhile_not (p := fun n => decide (n = 0)) (l := ns.reverse) (by rw [h1]; simp)
  simp [h1] at this
theorem trim_mem {ns : List Nat} {x : Nat} (h : x ∈ trim ns) : x ∈ ns := by
  unfold trim at h
  have h := List.mem_reverse.mp h
  have := (List.dropWhile_sublist _).subset h
  exact List.mem_reverse.mp this
theorem trim_len (ns : List Nat) : (trim ns).length ≤ ns.length := by
  unfold trim
  rw [List.length_reverse]
  have := (List.dropWhile_sublist (fun n : Nat => decide (n = 0)) (l := ns.reverse)).length_le
  rwa [List.length_reverse] at this
def C_is_row_of : DC := fun ds k => ∃ (l : Nat) (ns : List Nat), ds = [.int l, .tup (natsD ns)] ∧ l ≤ 6 ∧ ns.length ≤ 17 ∧ (∀ n ∈ ns, n < NF.sz l) ∧ TailOk ns ∧ k (.bl true)
theorem ok_is_row_of (T : Txt K mg A FD TK) : FnOk P w K mg base CX0 3 (A 52) (FD 52) ["level", "thing"] (spD K C_is_row_of) := by
  have S := sc_is_row_of
  refine fnD T.d_is_row_of.F S (fun ds k h => by obtain ⟨l, ns, rfl, hl, hn, hs, hm, kk⟩ := h; rfl) fun cdv Ar outer s H E hr ds k h => ?_
  obtain ⟨l, ns, rfl, hl, hn, hs, hm, kk⟩ := h
  refine ⟨_, _, (ss_cons (s_if (XW.t (w_or (t_not (t_val (XE.b (x_isI (t := "tuple") (by simp [isTypes]) T.b_isinstance T.b_tuple (by decide +kernel) (b_var (pv 1)))))) (w_or1 (t_gt (XE.b (x_len T.b_len (l_var (pv 1)))) (XE.b (x_add (XE.b (c_int (pe_glob rfl T.g_MOST_DEGREE ⟨_, rfl⟩))) (XE.b (c_int pe_int))))))))
    (ss_one (s_ret (c_bl pe_bl)))
    ss_nil)
    (ss_one (s_ret (x_and (XE.b (x_allB rfl T.b_all (XE.b (XF.e (f_lcG (own := [("number", 2)]) (dg := dgName 2) (is := [2]) rfl S.nd (i_seq (e_var (pv 1))) (blkOk_by (N := ["level", "thing", "number"]) (sc := defScope s_is_row_of) (by decide +kernel)) (fun _ _ _ _ _ => by exact ((g_name (i := 2) S.nd rfl))) (fun _ _ _ _ _ => by exact (ts_nil)) (fun _ _ _ _ _ => by exact (e_call (ok_in_level T) (hr.mono (by decide)) T.d_in_level.mg T.d_in_level.F.kp T.d_in_level.bd (a_cons (e_var (pv 0)) (a_cons (e_var (pv 2)) a_nil))))))))) (x_one (x_or (XE.b (x_eq hr.units (b_var (pv 1)) (XE.b (x_tup a_nil)))) (x_one (x_ne hr.units (XE.b (x_ix (l_var (pv 1)) (XE.b (x_neg (XE.b (c_int pe_int)))))) (XE.b (c_int pe_int)))))))))), ?_⟩
  walk_at "dl"
  rw [if_neg (by simp [isInst]), if_neg (by rw [natsD_len]; simp; omega)]
  refine ⟨_, rfl, _, rfl, by rw [natsD_len]; omega, rfl, cmp_map (f := fun _ => .bl true) (fun d hd kk' hk => ?_) ?_⟩
  · obtain ⟨n, hm', rfl⟩ := List.mem_map.mp hd
    walk_at "dl"
    refine ⟨l, n, rfl, hl, ?_⟩
    rw [decide_eq_true (hs n hm')]
    exact hk
  rw [natsD_all]
  refine ⟨_, rfl, _, rfl, ?_⟩
  rw [if_pos (by simp), eqv_tnil]
  rcases List.eq_nil_or_concat ns with rfl | ⟨ys, m, rfl⟩
  · rw [if_pos (by simp [natsD])]
    exact ⟨natsD_pls _ _, kk⟩
  · rw [List.concat_eq_append] at hm ⊢
    rw [if_neg (by rw [natsD_app]; simp)]
    refine ⟨natsD_pls _ _, _, by rw [natsD_app]; exact at_end _ _, pl_int _ _, ?_⟩
    have := hm ys m rfl
    rw [eqv_int, decide_eq_false (by omega)]
    exact kk
def C_need_row : DC := fun ds k => ∃ (l : Nat) (ns : List Nat) (w : Str), ds = [.int l, .tup (natsD ns), .str w] ∧ l ≤ 6 ∧ ns.length ≤ 17 ∧ (∀ n ∈ ns, n < NF.sz l) ∧ TailOk ns ∧ k .non
theorem ok_need_row (T : Txt K mg A FD TK) : FnOk P w K mg base CX0 4 (A 53) (FD 53) ["level", "row", "word"] (spD K C_need_row) := by
  have S := sc_need_row
  refine fnD T.d_need_row.F S (fun ds k h => by obtain ⟨l, ns, w, rfl, hl, hn, hs, hm, kk⟩ := h; rfl) fun cdv Ar outer s H E hr ds k h => ?_
  obtain ⟨l, ns, w, rfl, hl, hn, hs, hm, kk⟩ := h
  refine ⟨_, _, (ss_cons (s_if (t_val (b_call (ok_is_row_of T) (hr.mono (by decide)) T.d_is_row_of.mg T.d_is_row_of.F.kp T.d_is_row_of.bd (ab_cons (b_var (pv 0)) (ab_cons (b_var (pv 1)) ab_nil))))
    (ss_one s_retN)
    ss_nil)
    (ss_cons (s_if (t_eq hr.units (b_var (pv 2)) (XE.b (c_str pe_str)))
    (ss_one s_never)
    ss_nil)
    (ss_one s_never))), ?_⟩
  walk_at "dl"
  exact ⟨l, ns, rfl, hl, hn, hs, hm, _, rfl, kk⟩
def vr (z : Nat) : List Nat → Nat
  | [] => 0
  | a :: w => NF.nm (vr z w) z ^^^ a
theorem hor_vr (z : Nat) (ns : List Nat) : hor z ns.reverse = vr z ns := by
  unfold hor
  rw [List.foldl_reverse]
  induction ns with
  | nil => rfl
  | cons a w ih => rw [List.foldr_cons, ih]; rfl
theorem vr_zero (z : Nat) (ns : List Nat) : vr z (ns ++ [0]) = vr z ns := by
  induction ns with
  | nil => show NF.nm 0 z ^^^ 0 = 0; rw [NF.nm_zero]; rfl
  | cons a w ih => show NF.nm (vr z (w ++ [0])) z ^^^ a = _; rw [ih]; rfl
theorem vr_trim (z : Nat) (ns : List Nat) : vr z (trim ns) = vr z ns := by
  have : ∀ (n : Nat) (ns : List Nat), ns.length ≤ n → vr z (trim ns) = vr z ns := fun n => by
    induction n with
    | zero => intro ns h; rw [List.length_eq_zero_iff.mp (Nat.le_zero.mp h)]; rfl
    | succ n ih =>
      intro ns h
      rcases List.eq_nil_or_concat ns with rfl | ⟨ys, m, rfl⟩
      · rfl
      · rw [List.concat_eq_append] at h ⊢
        by_cases h0 : m = 0
        · subst h0
          rw [trim_zero, vr_zero]
          exact ih ys (by simp at h; omega)
        · rw [trim_pos ys h0]
  exact this _ ns (Nat.le_refl _)
def C_value_at : DC := fun ds k => ∃ (l : Nat) (ns : List Nat) (z : Nat), ds = [.int l, .tup (natsD ns), .int z] ∧ l ≤ 6 ∧ ns.length ≤ 17 ∧ (∀ n ∈ ns, n < NF.sz l) ∧ TailOk ns ∧ z < NF.sz l ∧ k (.int (vr z ns : Nat))
theorem ok_value_at (T : Txt K mg A FD TK) : FnOk P w K mg base CX0 10 (A 55) (FD 55) ["level", "row", "number"] (spD K C_value_at) := by
  have S := sc_value_at
  refine fnD T.d_value_at.F S (fun ds k h => by obtain ⟨l, ns, z, rfl, hl, hn, hs, hm, hz, kk⟩ := h; rfl) fun cdv Ar outer s H E hr ds k h => ?_
  obtain ⟨l, ns, z, rfl, hl, hn, hs, hm, hz, kk⟩ := h
  refine ⟨_, _, (ss_cons (s_expr (b_call (ok_need_level T) (hr.mono (by decide)) T.d_need_level.mg T.d_need_level.F.kp T.d_need_level.bd (ab_cons (b_var (pv 0)) ab_nil)))
    (ss_cons (s_expr (b_call (ok_need_row T) (hr.mono (by decide)) T.d_need_row.mg T.d_need_row.F.kp T.d_need_row.bd (ab_cons (b_var (pv 0)) (ab_cons (b_var (pv 1)) (ab_cons (XE.b (c_str pe_str)) ab_nil)))))
    (ss_cons (s_expr (b_call (ok_need_in T) (hr.mono (by decide)) T.d_need_in.mg T.d_need_in.F.kp T.d_need_in.bd (ab_cons (b_var (pv 0)) (ab_cons (b_var (pv 2)) (ab_cons (XE.b (c_str pe_str)) ab_nil)))))
    (ss_one (s_ret (e_call (ok_value_by T) (hr.mono (by decide)) T.d_value_by.mg T.d_value_by.F.kp T.d_value_by.bd (a_cons (e_var (pv 1)) (a_cons (e_var (pv 2)) a_nil)))))))), ?_⟩
  walk_at "dl"
  have hw := szle hl
  refine ⟨l, rfl, hl, l, ns, _, rfl, hl, hn, hs, hm, l, z, _, rfl, hl, hz, ns, z, rfl, fun n h => by have := hs n h; omega, by omega, ?_⟩
  rw [hor_vr]; exact kk
def C__law_trim : DC := fun ds k => ∃ w : NF.Wd, ds = [wD w] ∧ w.length ≤ 1000 ∧ k (wD (trim w))
def TmI (w : NF.Wd) (m : Nat) (r : List Sl) : Prop := ∃ ys : NF.Wd, r = [.da (wD w), .da (.lst (natsD ys))] ∧ ys.length = m ∧ trim ys = trim w
theorem cut_end (ys : NF.Wd) (n : Nat) : cutD (natsD (ys ++ [n])) none (some (-1)) = natsD ys := by
  rw [natsD_app]
  unfold cutD HT.sIx
  simp
  rw [show (-1 + ((natsD ys).length + 1 : Int)).toNat = (natsD ys).length by omega]
  exact List.take_left
theorem ok__law_trim (T : Txt K mg A FD TK) : FnOk P w K mg base CX0 1 (A 74) (FD 74) ["numbers"] (spD K C__law_trim) := by
  have S := sc__law_trim
  refine fnD T.d__law_trim.F S (fun ds k h => by obtain ⟨w, rfl, hw, kk⟩ := h; rfl) fun cdv Ar outer s H E hr ds k h => ?_
  obtain ⟨w, rfl, hw, kk⟩ := h
  refine ⟨_, _, (ss_cons (s_set (i := 1) S.nd rfl (XE.v (XF.e (f_lstOf T.b_list (l_var (pv 0))))))
    (ss_cons (s_while PassesOwn.never (XW.t (w_and (t_ne hr.units (b_var (pv 1)) (XE.b (XF.e (f_lst a_nil)))) (w_and1 (t_eq hr.units (XE.b (x_ix (l_var (pv 1)) (XE.b (x_neg (XE.b (c_int pe_int)))))) (XE.b (c_int pe_int))))))
    (ss_one (s_set (i := 1) S.nd rfl (XE.v (XF.e (f_slL (ll_var (pv 1)) o_no (o_so (XE.b (x_neg (XE.b (c_int pe_int)))))))))))
    (ss_one (s_ret (x_tupOf T.b_tuple (l_var (pv 1))))))), ?_⟩
  walk_at "dl"
  refine ⟨TmI w, ⟨w.length, w, rfl, rfl, rfl⟩, ?_⟩
  rintro m r ⟨ys, rfl, hm, ht⟩
  walk_at "dl"
  refine ⟨natsD_pls _ _, ?_⟩
  rcases List.eq_nil_or_concat ys with rfl | ⟨zs, n, rfl⟩
  · rw [if_neg (by rw [eqv_nil]; simp [natsD])]
    have e : natsD (trim w) = natsD ([] : List Nat) := by rw [← ht]; rfl
    unfold wD at kk
    rw [e] at kk
    exact kk
  · rw [List.concat_eq_append] at hm ht ⊢
    rw [if_pos (by rw [eqv_nil, natsD_app]; simp)]
    refine ⟨_, by rw [natsD_app]; exact at_end _ _, pl_int _ _, ?_⟩
    rw [eqz]
    by_cases h0 : n = 0
    · subst h0
      rw [decide_eq_true rfl, if_pos rfl]
      refine ⟨zs.length, by rw [← hm]; simp, zs, ?_, rfl, by rw [← ht, trim_zero]⟩
      rw [cut_end]
    · rw [decide_eq_false h0, if_neg (by simp)]
      rw [← ht, trim_pos zs h0] at kk
      exact kk
/-! the other code's weights, told by sums -/
def C_repeated : DC := fun ds k => ∃ a n : Nat, ds = [.int a, .int n] ∧ a < 65536 ∧ n ≤ 1000 ∧ k (.int ((a : Int) ^ n))
def RpI (a n : Nat) (i : Nat) (r : List Sl) : Prop := ∃ x, r = [.da (.int a), .da (.int n), .da (.int ((a : Int) ^ i)), x] ∧ x.addr = none
theorem ok_repeated (T : Txt K mg A FD TK) : FnOk P w K mg base CX0 1 (A 60) (FD 60) ["number", "many"] (spD K C_repeated) := by
  have S := sc_repeated
  refine fnD T.d_repeated.F S (fun ds k h => by obtain ⟨a, n, rfl, ha, hn, kk⟩ := h; rfl) fun cdv Ar outer s H E hr ds k h => ?_
  obtain ⟨a, n, rfl, ha, hn, kk⟩ := h
  refine ⟨_, _, (ss_cons (s_set (i := 2) S.nd rfl (XE.v (c_int pe_int)))
    (ss_cons (s_for PassesOwn.never rfl (i_rng1 T.b_range (b_var (pv 1))) (g_name (i := 3) S.nd rfl)
    (ss_one (s_set (i := 2) S.nd rfl (XE.v (x_mul (b_var (pv 2)) (b_var (pv 0)))))))
    (ss_one (s_ret (e_var (pv 2)))))), ?_⟩
  walk_at "dl"
  refine ⟨by omega, by omega, RpI a n, ⟨.no, rfl, rfl⟩, ?_, ?_⟩
  · rintro i d r hd ⟨x, rfl, _⟩
    walk_at "dl"
    exact ⟨.inr ⟨by omega, by omega⟩, .da d, rfl, rfl⟩
  · rintro r ⟨x, rfl, hx⟩
    rw [rng_len]
    walk_at "dl"
    rw [Int.toNat_natCast]
    exact kk
def oftI (s n at' m : Nat) (k : Nat) : Int := PySem.W.mcComb (at' : Nat) (k : Nat) * PySem.W.mcComb ((n : Int) - (at' : Int)) ((m : Int) - (k : Int)) * ((s - 1 : Nat) : Int) ^ (m - k)
def shI (s n at' m : Nat) (i : Nat) : Int := (List.range i).foldl (fun f k => if k % 2 = 1 then f - oftI s n at' m k else f + oftI s n at' m k) 0
theorem shI_succ (s n at' m i : Nat) : shI s n at' m (i + 1) = if i % 2 = 1 then shI s n at' m i - oftI s n at' m i else shI s n at' m i + oftI s n at' m i := by
  unfold shI
  rw [List.range_succ, List.foldl_append]; rfl
theorem comb_small {a b : Nat} (ha : a ≤ 12) (hb : b ≤ 12) : -(2 ^ 64) < PySem.W.mcComb (a : Int) (b : Int) ∧ PySem.W.mcComb (a : Int) (b : Int) < 2 ^ 64 := by
  have : ∀ a : Fin 13, ∀ b : Fin 13, -(2 ^ 64) < PySem.W.mcComb ((a.val : Nat) : Int) ((b.val : Nat) : Int) ∧ PySem.W.mcComb ((a.val : Nat) : Int) ((b.val : Nat) : Int) < 2 ^ 64 := by decide +kernel
  exact this ⟨a, by omega⟩ ⟨b, by omega⟩
def C_share : DC := fun ds k => ∃ s n a m : Nat, ds = [.int s, .int n, .int a, .int m] ∧ 1 ≤ s ∧ s ≤ 16 ∧ n ≤ 12 ∧ a ≤ n ∧ m ≤ n ∧ k (.int (shI s n a m (m + 1)))
def ShI (s n a m : Nat) (i : Nat) (r : List Sl) : Prop := ∃ x y, r = [.da (.int s), .da (.int n), .da (.int a), .da (.int m), .da (.int (shI s n a m i)), x, y] ∧ x.addr = none ∧ y.addr = none
theorem pow_small {s e : Nat} (hs : s ≤ 16) (he : e ≤ 12) : -(2 ^ 64) < ((s - 1 : Nat) : Int) ^ e ∧ ((s - 1 : Nat) : Int) ^ e < 2 ^ 64 := by
  have h1 : (s - 1) ^ e ≤ 16 ^ 12 := Nat.le_trans (Nat.pow_le_pow_left (by omega) e) (Nat.pow_le_pow_right (by decide) he)
  have h2 : (((s - 1) ^ e : Nat) : Int) = ((s - 1 : Nat) : Int) ^ e := by rw [Int.natCast_pow]
  rw [← h2]
  have h3 : (16 : Nat) ^ 12 = 281474976710656 := by decide
  have h4 : (2 : Int) ^ 64 = 18446744073709551616 := by decide
  rw [h4]; omega
theorem ok_share (T : Txt K mg A FD TK) : FnOk P w K mg base CX0 2 (A 61) (FD 61) ["size", "length", "at", "many"] (spD K C_share) := by
  have S := sc_share
  refine fnD T.d_share.F S (fun ds k h => by obtain ⟨s, n, a, m, rfl, hs1, hs, hn, ha, hm, kk⟩ := h; rfl) fun cdv Ar outer s H E hr ds k h => ?_
  obtain ⟨s, n, a, m, rfl, hs1, hs, hn, ha, hm, kk⟩ := h
  refine ⟨_, _, (ss_cons (s_set (i := 4) S.nd rfl (XE.v (c_int pe_int)))
    (ss_cons (s_for PassesOwn.never rfl (i_rng1 T.b_range (XE.b (x_add (b_var (pv 3)) (XE.b (c_int pe_int))))) (g_name (i := 5) S.nd rfl)
    (ss_cons (s_set (i := 6) S.nd rfl (XE.v (x_mul (XE.b (x_mul (XE.b (x_comb T.i_comb (b_var (pv 2)) (b_var (pv 5)))) (XE.b (x_comb T.i_comb (XE.b (x_sub (b_var (pv 1)) (b_var (pv 2)))) (XE.b (x_sub (b_var (pv 3)) (b_var (pv 5)))))))) (b_call (ok_repeated T) (hr.mono (by decide)) T.d_repeated.mg T.d_repeated.F.kp T.d_repeated.bd (ab_cons (XE.b (x_sub (b_var (pv 0)) (XE.b (c_int pe_int)))) (ab_cons (XE.b (x_sub (b_var (pv 3)) (b_var (pv 5)))) ab_nil))))))
    (ss_one (s_set (i := 4) S.nd rfl (XE.v (x_if (t_eq hr.units (XE.b (x_mod (b_var (pv 5)) (XE.b (c_int pe_int)))) (XE.b (c_int pe_int))) (x_sub (b_var (pv 4)) (b_var (pv 6))) (x_add (b_var (pv 4)) (b_var (pv 6)))))))))
    (ss_one (s_ret (e_var (pv 4)))))), ?_⟩
  walk_at "dl"
  refine ⟨by omega, by omega, ShI s n a m, ⟨.no, .no, rfl, rfl, rfl⟩, ?_, ?_⟩
  · rintro i d r hd ⟨x, y, rfl, _, _⟩
    obtain ⟨hi, rfl⟩ := rng_get hd
    have hi : i ≤ m := by omega
    walk_at "dl"
    have e0 : (0 : Int) + (i : Int) = (i : Int) := by omega
    have e1 : (n : Int) - (a : Int) = ((n - a : Nat) : Int) := by omega
    have e2 : (m : Int) - (i : Int) = ((m - i : Nat) : Int) := by omega
    have e3 : (s : Int) - 1 = ((s - 1 : Nat) : Int) := by omega
    simp only [e0]
    have c1 := comb_small (a := a) (b := i) (by omega) (by omega)
    have c2 := comb_small (a := n - a) (b := m - i) (by omega) (by omega)
    unfold dComb
    walk_at "dl"
    refine ⟨by omega, by omega, by omega, by omega, by omega, by omega, ?_⟩
    rw [e1, e2, e3]
    refine ⟨.inr c2, s - 1, m - i, rfl, by omega, by omega, ?_⟩
    have e4 : PySem.W.mcComb (a : Int) (i : Int) * PySem.W.mcComb ((n - a : Nat) : Int) ((m - i : Nat) : Int) * ((s - 1 : Nat) : Int) ^ (m - i) = oftI s n a m i := by
      unfold oftI; rw [e1, e2]
    refine ⟨_, rfl, .inr (pow_small hs (by omega)), ?_⟩
    rw [e4]
    have e5 : (i : Int).fmod 2 = ((i % 2 : Nat) : Int) := fmodN i 2
    refine ⟨by decide, ?_⟩
    rw [e5]
    by_cases h : i % 2 = 1
    · rw [if_pos (by omega)]
      refine ⟨.da (.int i), .da (.int (oftI s n a m i)), ?_, rfl, rfl⟩
      rw [shI_succ, if_pos h]
    · rw [if_neg (by omega)]
      refine ⟨.da (.int i), .da (.int (oftI s n a m i)), ?_, rfl, rfl⟩
      rw [shI_succ, if_neg h]
  · rintro r ⟨x, y, rfl, hx, hy⟩
    rw [rng_len]
    walk_at "dl"
    have e : ((m : Int) + 1).toNat = m + 1 := by omega
    rw [e]
    exact kk
def dsts (l n : Nat) (rows : List NF.Wd) : List Nat := (List.range n).filter fun t => decide (0 < (NF.wtsW (NF.wordsW l n (NF.redRows rows)) n).getD (t + 1) 0)
theorem words_few {l n : Nat} {rows : List NF.Wd} (q : (NF.redRows rows).length * 2 ^ l ≤ 12) : 1 ≤ (NF.wordsW l n (NF.redRows rows)).length ∧ (NF.wordsW l n (NF.redRows rows)).length ≤ 4096 := by
  have := NF.words_count l n (NF.redRows rows) [List.replicate n 0]
  have e : NF.wordsW l n (NF.redRows rows) = (NF.redRows rows).foldl (fun found row => (List.range (NF.sz l)).flatMap fun k => found.map fun w => NF.lessW w row k) [List.replicate n 0] := rfl
  rw [e, this, List.length_singleton, Nat.mul_one]
  have e2 : NF.sz l ^ (NF.redRows rows).length = 2 ^ (2 ^ l * (NF.redRows rows).length) := by unfold NF.sz; rw [← Nat.pow_mul]
  rw [e2]
  refine ⟨Nat.two_pow_pos _, Nat.le_trans (Nat.pow_le_pow_right (by decide) ?_) (show 2 ^ 12 ≤ 4096 by decide)⟩
  rw [Nat.mul_comm]
  exact q
def ldD (l n : Nat) (rows : List NF.Wd) : D := match dsts l n rows with
  | [] => .non
  | t :: _ => .int (t + 1 : Nat)
def C_least_distance : DC := fun ds k => ∃ (l n : Nat) (d : D) (rows : List NF.Wd), ds = [.int l, d] ∧ RD d rows ∧ CodeOk l n rows ∧ (NF.redRows rows).length * 2 ^ l ≤ 12 ∧ k (ldD l n rows)
theorem rng_one (n : Nat) : rng 1 n = (List.range n).map fun (i : Nat) => D.int (i + 1 : Nat) := by
  unfold rng
  refine List.map_congr_left fun i _ => congrArg D.int ?_
  omega
theorem ok_least_distance (T : Txt K mg A FD TK) : FnOk P w K mg base CX0 13 (A 62) (FD 62) ["level", "rows"] (spD K C_least_distance) := by
  have S := sc_least_distance
  refine fnD T.d_least_distance.F S (fun ds k h => by obtain ⟨l, n, d, rows, rfl, hd, hC, hq, kk⟩ := h; rfl) fun cdv Ar outer s H E hr ds k h => ?_
  obtain ⟨l, n, d, rows, rfl, hd, hC, hq, kk⟩ := h
  refine ⟨_, _, (ss_cons (s_expr (b_call (ok_need_rows T) (hr.mono (by decide)) T.d_need_rows.mg T.d_need_rows.F.kp T.d_need_rows.bd (ab_cons (b_var (pv 0)) (ab_cons (b_var (pv 1)) ab_nil))))
    (ss_cons (s_set (i := 2) S.nd rfl (XE.v (e_call (ok_weights_by T) (hr.mono (by decide)) T.d_weights_by.mg T.d_weights_by.F.kp T.d_weights_by.bd (a_cons (e_call (ok_code_of T) (hr.mono (by decide)) T.d_code_of.mg T.d_code_of.F.kp T.d_code_of.bd (a_cons (e_var (pv 0)) (a_cons (e_var (pv 1)) a_nil))) (a_cons (x_len T.b_len (XE.l (x_ix (l_var (pv 1)) (XE.b (c_int pe_int))))) a_nil)))))
    (ss_cons (s_setLcG (i := 3) (own := [("at", 4)]) (dg := dgName 4) (is := [4]) rfl S.nd rfl (sw_true rfl rfl rfl (by decide +kernel)) (i_rng2 T.b_range (XE.b (c_int pe_int)) (XE.b (x_len T.b_len (l_var (pv 2))))) (blkOk_by (N := ["level", "rows", "found", "some", "at"]) (sc := defScope s_least_distance) (by decide +kernel)) (fun _ _ _ _ _ => by exact ((g_name (i := 4) S.nd rfl))) (fun _ _ _ _ _ => by exact ((ts_one (t_gt (XE.b (x_ix (l_var (pv 2)) (b_var (pv 4)))) (XE.b (c_int pe_int)))))) (fun _ _ _ _ _ => by exact (e_var (pv 4))))
    (ss_one (XS.frz 3 (s_ret (x_if (t_ne hr.units (b_var (pv 3)) (XE.b (XF.e (f_lst a_nil)))) (x_ix (l_var (pv 3)) (XE.b (c_int pe_int))) (c_non pe_non)))))))), ?_⟩
  obtain ⟨w0, h1, h2, h3⟩ := hC.first
  have hn1 := hC.n1
  have hn2 := hC.n12
  walk_at "dl"
  refine ⟨l, n, d, rows, rfl, hd, hC, l, n, d, rows, rfl, hd, hC, hq, fun ws hs => ⟨_, hd.seq, _, h3, _, rfl, ?_⟩⟩
  rw [natsD_len, h1]
  refine ⟨_, ws, n, rfl, rfl, by omega, fun w hw => NF.wordsW_len hC.good.len w (hs.1.mem_iff.mp hw), ?_⟩
  rw [NF.wtsW_perm hs.1]
  unfold ldD dsts at kk
  have hwl := wts_len (NF.wordsW l n (NF.redRows rows)) n
  generalize NF.wtsW (NF.wordsW l n (NF.redRows rows)) n = wts at hwl kk ⊢
  have e0 : (((natsD wts).length : Int) - 1).toNat = n := by rw [natsD_len, hwl]; omega
  walk_at "dl"
  refine ⟨_, _, rfl, rfl, _, _, rfl, rfl, ⟨by decide, by decide, by rw [natsD_len]; omega, by rw [natsD_len]; omega⟩, by rw [e0, rng_len]; omega, rfl, ?_⟩
  rw [e0, rng_one]
  refine cmp_filter (p := fun t => decide (0 < wts.getD (t + 1) 0)) (fun t ht kk' hk' => ?_) ?_
  · have ht := List.mem_range.mp ht
    walk_at "dl"
    refine ⟨_, nat_at (by omega), ?_⟩
    by_cases h : 0 < wts.getD (t + 1) 0
    · rw [decide_eq_true h, if_pos rfl] at hk'
      exact ⟨_, rfl, by rw [if_pos (by omega)]; exact hk'⟩
    · rw [decide_eq_false h, if_neg (by simp)] at hk'
      exact ⟨_, rfl, by rw [if_neg (by omega)]; exact hk'⟩
  · generalize List.filter (fun t => decide (0 < wts.getD (t + 1) 0)) (List.range n) = ts at kk ⊢
    have e1 : ts.map (fun (i : Nat) => D.int (i + 1 : Nat)) = natsD (ts.map fun i => i + 1) := by unfold natsD; rw [List.map_map]; rfl
    rw [e1, eqv_nil]
    refine ⟨natsD_pls _ _, ?_⟩
    cases ts with
    | nil => exact kk
    | cons t ts => exact ⟨_, by rw [at0]; rfl, kk⟩
def dwT (l n : Nat) (wts : List Nat) (m : Nat) : Int := ((List.range (n + 1)).map fun t => (wts.getD t 0 : Int) * shI (NF.sz l) n t m (m + 1)).sum
def dwsI (l n : Nat) (wts : List Nat) (c : Nat) : List Int := (List.range (n + 1)).map fun m => dwT l n wts m / (c : Int)
def DwI (l n : Nat) (d : D) (ws : List NF.Wd) (wts : List Nat) (i : Nat) (r : List Sl) : Prop := ∃ (p : Addr) (s6 s7 : Sl), r = [.da (.int l), .da d, .da (.lst (wsD ws)), .da (.int n), .da (.lst (natsD wts)), .ol p (((List.range i).map fun m => dwT l n wts m / (ws.length : Int)).map D.int), s6, s7, .no, .no] ∧ s6.addr = none ∧ s7.addr = none
def C_dual_weights : DC := fun ds k => ∃ (l n : Nat) (d : D) (rows : List NF.Wd), ds = [.int l, d] ∧ RD d rows ∧ CodeOk l n rows ∧ (NF.redRows rows).length * 2 ^ l ≤ 12 ∧ k (.tup ((dwsI l n (NF.wtsW (NF.wordsW l n (NF.redRows rows)) n) (NF.wordsW l n (NF.redRows rows)).length).map D.int))
theorem ok_dual_weights (T : Txt K mg A FD TK) : FnOk P w K mg base CX0 13 (A 63) (FD 63) ["level", "rows"] (spD K C_dual_weights) := by
  have S := sc_dual_weights
  refine fnD T.d_dual_weights.F S (fun ds k h => by obtain ⟨l, n, d, rows, rfl, hd, hC, hq, kk⟩ := h; rfl) fun cdv Ar outer s H E hr ds k h => ?_
  obtain ⟨l, n, d, rows, rfl, hd, hC, hq, kk⟩ := h
  refine ⟨_, _, (ss_cons (s_expr (b_call (ok_need_rows T) (hr.mono (by decide)) T.d_need_rows.mg T.d_need_rows.F.kp T.d_need_rows.bd (ab_cons (b_var (pv 0)) (ab_cons (b_var (pv 1)) ab_nil))))
    (ss_cons (s_asgV (i := 2) (j := 3) rfl S.nd rfl rfl (by decide) (XE.v (e_call (ok_code_of T) (hr.mono (by decide)) T.d_code_of.mg T.d_code_of.F.kp T.d_code_of.bd (a_cons (e_var (pv 0)) (a_cons (e_var (pv 1)) a_nil)))) (XE.v (x_len T.b_len (XE.l (x_ix (l_var (pv 1)) (XE.b (c_int pe_int)))))))
    (ss_cons (s_par (i := 4) (j := 5) rfl S.nd rfl rfl (by decide) (XE.v (e_call (ok_weights_by T) (hr.mono (by decide)) T.d_weights_by.mg T.d_weights_by.F.kp T.d_weights_by.bd (a_cons (e_var (pv 2)) (a_cons (e_var (pv 3)) a_nil)))) (XF.v (f_lst a_nil)))
    (ss_cons (s_for PassesOwn.never rfl (i_rng1 T.b_range (XE.b (x_add (b_var (pv 3)) (XE.b (c_int pe_int))))) (g_name (i := 6) S.nd rfl)
    (ss_cons (s_set (i := 7) S.nd rfl (XE.v (x_sumI rfl T.b_sum (XE.b (XF.e (f_lcG (own := [("at", 8), ("count", 9)]) (dg := dgTup 2 (dgCons (dgName 8) (dgCons (dgName 9) dgNil))) (is := ([8] ++ ([9] ++ []))) rfl S.nd (i_enum T.b_enumerate (e_var (pv 4))) (blkOk_by (N := ["level", "rows", "some", "length", "counts", "found", "many", "whole", "at", "count"]) (sc := defScope s_dual_weights) (by decide +kernel)) (fun _ _ _ _ _ => by exact ((g_tup rfl (gl_cons (g_name (i := 8) S.nd rfl) (gl_cons (g_name (i := 9) S.nd rfl) gl_nil))))) (fun _ _ _ _ _ => by exact (ts_nil)) (fun _ _ _ _ _ => by exact (x_mul (b_var (pv 9)) (b_call (ok_share T) (hr.mono (by decide)) T.d_share.mg T.d_share.F.kp T.d_share.bd (ab_cons (XE.b (x_ix (XE.l (c_tup (its := []) (pe_glob rfl T.g_SIZES rfl) T.t_SIZES)) (b_var (pv 0)))) (ab_cons (b_var (pv 3)) (ab_cons (b_var (pv 8)) (ab_cons (b_var (pv 6)) ab_nil)))))))))))))
    (ss_one (s_app (pv 5) (x_div (b_var (pv 7)) (XE.b (x_len T.b_len (l_var (pv 2)))))))))
    (ss_one (s_ret (x_tupOf T.b_tuple (l_var (pv 5))))))))), ?_⟩
  obtain ⟨w0, h1, h2, h3⟩ := hC.first
  have hn1 := hC.n1
  have hn2 := hC.n12
  walk_at "dl"
  refine ⟨l, n, d, rows, rfl, hd, hC, l, n, d, rows, rfl, hd, hC, hq, fun ws hs => ⟨_, hd.seq, _, h3, _, rfl, ?_⟩⟩
  rw [natsD_len, h1]
  refine ⟨_, ws, n, rfl, rfl, by omega, fun w hw => NF.wordsW_len hC.good.len w (hs.1.mem_iff.mp hw), ?_⟩
  rw [NF.wtsW_perm hs.1]
  have hc := hs.1.length_eq
  have hwl := wts_len (NF.wordsW l n (NF.redRows rows)) n
  rw [← hc] at kk
  have hmany := words_few (l := l) (n := n) (rows := rows) hq
  have hcnt : ∀ t, (NF.wtsW (NF.wordsW l n (NF.redRows rows)) n).getD t 0 < 18446744073709551616 := fun t => by
    rw [List.getD_eq_getElem?_getD]
    by_cases ht : t ≤ n
    · rw [wts_at _ ht]
      have := List.countP_le_length (p := fun w => NF.wtW w == t) (l := NF.wordsW l n (NF.redRows rows))
      show List.countP _ _ < _
      omega
    · rw [List.getElem?_eq_none (by rw [wts_len]; omega)]
      show 0 < _
      omega
  have hdiv : ∀ i : Int, CDivW i (ws.length : Int) := fun i => wide_div (b := 30) (by omega) (by omega) (by decide) (by decide)
  generalize NF.wtsW (NF.wordsW l n (NF.redRows rows)) n = wts at hwl kk hcnt ⊢
  walk_at "dl"
  intro p
  refine ⟨by omega, by omega, DwI l n d ws wts, ⟨p, .no, .no, rfl, rfl, rfl⟩, ?_, ?_⟩
  · rintro i dx r hdx ⟨p, s6, s7, rfl, a6, a7⟩
    obtain ⟨hi, rfl⟩ := rng_get hdx
    walk_at "dl"
    refine ⟨_, rfl, ?_⟩
    have hwl' : wts.length ≤ 13 := by omega
    have hcm : ∀ t, wts.getD t 0 < 18446744073709551616 := hcnt
    have e0 : (0 : Int) + (i : Int) = (i : Int) := by omega
    rw [e0]
    refine ⟨_, rfl, ?_⟩
    rw [enum_nats]
    refine ⟨by rw [List.length_map, List.length_range]; omega, rfl, cmp_list (g := fun t => .int ((wts.getD t 0 : Int) * shI (NF.sz l) n t i (i + 1))) (fun t ht kk' hk' => ?_) ?_⟩
    · have ht := List.mem_range.mp ht
      walk_at "dl"
      refine ⟨_, at_SZ hC.l6, NF.sz l, n, t, i, rfl, NF.sz_pos l, NF.sz_mono (k := 2) hC.l2, hn2, by omega, by omega, ?_⟩
      have := hcm t
      exact ⟨_, rfl, .inl ⟨by omega, by omega⟩, hk'⟩
    rw [hwl]
    refine ⟨(List.range (n + 1)).map fun t => (wts.getD t 0 : Int) * shI (NF.sz l) n t i (i + 1), by rw [List.map_map]; rfl, ?_⟩
    have eT : ((List.range (n + 1)).map fun t => (wts.getD t 0 : Int) * shI (NF.sz l) n t i (i + 1)).sum = dwT l n wts i := rfl
    rw [eT]
    refine ⟨_, rfl, ?_, by rw [List.length_map, List.length_map, List.length_range]; omega, p, .da (.int i), .da (.int (dwT l n wts i)), ?_, rfl, rfl⟩
    · rw [wsD_len]; exact hdiv _
    · rw [wsD_len, List.range_succ, List.map_append, List.map_append]; rfl
  · rintro r ⟨p, s6, s7, rfl, a6, a7⟩
    rw [rng_len]
    walk_at "dl"
    have e : ((n : Int) + 1).toNat = n + 1 := by omega
    rw [e]
    exact kk
end
end M

namespace M
open PySem PySem.Spec L2 DL
section
variable {P : Program} {w : World} {K : PySem.W.Frag} {mg : Str → Option Value} {base : Heap} {A : Nat → Addr} {FD : Nat → FuncData} {TK : Nat → Tok}

local macro_rules | `(tactic| walk_at "dl") => `(tactic| simp (config := { decide := false }) only [dRet, dRetN, dAndV, dOrV, dNotV, dIsI, dBVar, dVar, dLVar, dC, dI, dI0, gI, gB, dCmp, dTest, dNot, dAnd, dOr, dChain, dIx, deSeq, deLst, deSc, dCons, dNil, dCall, dLen, dTup, dLst, dTupOf, dIf, dSeq, dNext, dSet, dvC, dvF, VV.put, dPar, dDrop, dMax2, dMin2, dIntOf, dIfE, dEq, dYes, dgName, dgTup, dgCons, dgNil, dStep, wipeS, dCallR, dFor, dRng1, dRng2, dAsgT, dPar3, dApp, dSortI, dMinI, dRep, dCat, dLLVar, deLL, dIsN, dReprB, dDrI, dDrC, dDrSet, isDr, dDisp3, dMinT, dRevT, dRevL, dStar, dPop, dSetIx, dSortP, dSortSet, dSetPop, dSortK, dRepT, dCatT, dSlT, dSlL, dONo, dOSo, dInI, dIsB, dAugIx, dIsI2, dZipT, dMinK, Bool.xor_false, Bool.xor_true, Sl.dr.injEq, bodyR, D.isN, D.reprB, Nat.reduceLeDiff,
  st0, frzAll, frzAt, frz_da, frz_no, frz_ol, frz_od, frz_dr, Sl.look, Sl.seq, D.seq, D.cls, D.sc, D.toI, bodyE, List.map_cons, List.map_nil, List.length_cons, List.length_nil, List.replicate, List.nil_append, List.cons_append, List.append_nil, List.getElem?_cons_zero, List.getElem?_cons_succ, List.set_cons_zero, List.set_cons_succ, Option.some.injEq, Sl.da.injEq, Sl.ol.injEq, D.int.injEq, D.bl.injEq, D.str.injEq, D.lst.injEq, D.tup.injEq, List.cons.injEq,
  exists_eq_left, exists_eq_left', exists_eq_right, exists_and_left, exists_and_right, and_assoc, and_true, true_and, and_self, ne_eq, not_false_eq_true, forall_const, reduceCtorEq, Nat.reduceSub, Nat.reduceAdd, Nat.sub_self, false_or, or_false, exists_const, exists_eq', exists_eq, exists_false, implies_true, and_false, false_and, if_true, if_false, decide_eq_true_eq, decide_true, decide_false, Bool.false_eq_true, reduceIte, Bool.not_true, Bool.not_false, pl_int, pl_bl, pl_non, pl_lst, pl_tup, pls_nil, pls_cons, pl_ints, pls_ints, pls_bls, eqv_int, eqv_bl, eqv_ints, eqv_tints, eqv_bls, Bool.false_xor, Bool.true_xor, Bool.and_true, Bool.true_and, Int.natCast_inj])

/-! a word of powers -/
def pws (z m : Nat) : NF.Wd := (List.range m).map (NF.pw z)
def rot1 (w : NF.Wd) : NF.Wd := w.drop 1 ++ w.take 1
structure Fct (l m z : Nat) : Prop where
  red : NF.redRows [pws z m] = [pws z m]
  ld : dsts l m [pws z m] = [m - 1]
  dl : (NF.dualRows [pws z m] m).length = m - 1
  dw : (dwsI l m (NF.wtsW (NF.wordsW l m [pws z m]) m) (NF.wordsW l m [pws z m]).length)[1]? = some 0
  rr : NF.redRows [rot1 (pws z m)] = [pws z m]
  ri : (NF.rowsW ([pws z m] ++ [rot1 (pws z m)])).length = (NF.rowsW [pws z m]).length
  p1 : NF.pw z m = 1
def fctB (l m z : Nat) : Bool := decide (NF.redRows [pws z m] = [pws z m]) && decide (dsts l m [pws z m] = [m - 1]) && decide ((NF.dualRows [pws z m] m).length = m - 1) &&
  decide ((dwsI l m (NF.wtsW (NF.wordsW l m [pws z m]) m) (NF.wordsW l m [pws z m]).length)[1]? = some 0) && decide (NF.redRows [rot1 (pws z m)] = [pws z m]) && decide ((NF.rowsW ([pws z m] ++ [rot1 (pws z m)])).length = (NF.rowsW [pws z m]).length) && decide (NF.pw z m = 1)
theorem fct_of {l m z : Nat} (h : fctB l m z = true) : Fct l m z := by
  unfold fctB at h
  simp only [Bool.and_eq_true, decide_eq_true_eq] at h
  obtain ⟨⟨⟨⟨⟨⟨h1, h2⟩, h3⟩, h4⟩, h5⟩, h6⟩, h7⟩ := h
  exact ⟨h1, h2, h3, h4, h5, h6, h7⟩
def zsOf (l m : Nat) : List Nat := (List.range (NF.sz l - 2)).filter fun x => decide (NF.ordBy (x + 2) = m)
theorem fct_13 : (zsOf 1 3).all (fun x => fctB 1 3 (x + 2)) = true ∧ 0 < (zsOf 1 3).length := by decide +kernel
theorem fct_23 : (zsOf 2 3).all (fun x => fctB 2 3 (x + 2)) = true ∧ 0 < (zsOf 2 3).length := by decide +kernel
theorem fct_25 : (zsOf 2 5).all (fun x => fctB 2 5 (x + 2)) = true ∧ 0 < (zsOf 2 5).length := by decide +kernel
theorem zs_fct {l m : Nat} (h : (l = 1 ∧ m = 3) ∨ (l = 2 ∧ m = 3) ∨ (l = 2 ∧ m = 5)) : 0 < (zsOf l m).length ∧ ∀ x ∈ zsOf l m, x + 2 < NF.sz l ∧ Fct l m (x + 2) := by
  have hp : 0 < (zsOf l m).length ∧ (zsOf l m).all (fun x => fctB l m (x + 2)) = true := by
    rcases h with ⟨rfl, rfl⟩ | ⟨rfl, rfl⟩ | ⟨rfl, rfl⟩
    · exact ⟨fct_13.2, fct_13.1⟩
    · exact ⟨fct_23.2, fct_23.1⟩
    · exact ⟨fct_25.2, fct_25.1⟩
  refine ⟨hp.1, fun x hx => ⟨?_, fct_of (List.all_eq_true.mp hp.2 x hx)⟩⟩
  have := List.mem_range.mp (List.mem_filter.mp hx).1
  omega
theorem pws_len (z m : Nat) : (pws z m).length = m := by unfold pws; rw [List.length_map, List.length_range]
theorem pws_lt {z m l : Nat} (h : z < NF.sz l) : ∀ x ∈ pws z m, x < NF.sz l := fun x hx => by
  obtain ⟨k, _, rfl⟩ := List.mem_map.mp hx
  exact NF.pw_lt h k
theorem rot_len {w : NF.Wd} : (rot1 w).length = w.length := by unfold rot1; rw [List.length_append, List.length_drop, List.length_take]; omega
theorem rot_mem {w : NF.Wd} {x : Nat} (h : x ∈ rot1 w) : x ∈ w := by
  unfold rot1 at h
  rcases List.mem_append.mp h with h | h
  · exact List.mem_of_mem_drop h
  · exact List.mem_of_mem_take h
theorem nmC (a b : Nat) : NF.nm a b = NF.nm b a := by
  have : (⟨a⟩ : NF.N2) * ⟨b⟩ = ⟨b⟩ * ⟨a⟩ := by grind
  exact congrArg NF.N2.v this
/-! the value of a row is the product with the powers -/
open Lean.Grind in
theorem vr_snoc (z : Nat) (x : Nat) : ∀ u : List Nat, vr z (u ++ [x]) = vr z u ^^^ NF.nm (NF.pw z u.length) x
  | [] => by
    show NF.nm 0 z ^^^ x = 0 ^^^ NF.nm (NF.pw z 0) x
    rw [NF.nm_zero, NF.pw_zero, NF.nm_one]
  | a :: u => by
    show NF.nm (vr z (u ++ [x])) z ^^^ a = (NF.nm (vr z u) z ^^^ a) ^^^ NF.nm (NF.pw z (u.length + 1)) x
    rw [vr_snoc z x u, NF.pw_succ]
    generalize vr z u = b
    generalize NF.pw z u.length = c
    have : ((⟨b⟩ : NF.N2) + ⟨c⟩ * ⟨x⟩) * ⟨z⟩ + ⟨a⟩ = (⟨b⟩ * ⟨z⟩ + ⟨a⟩) + (⟨c⟩ * ⟨z⟩) * ⟨x⟩ := by grind
    exact congrArg NF.N2.v this
theorem dot_snoc (w u : NF.Wd) (a b : Nat) (h : w.length = u.length) : NF.dotW (w ++ [a]) (u ++ [b]) = NF.dotW w u ^^^ NF.nm a b := by
  unfold NF.dotW
  rw [List.zipWith_append h, List.foldl_append]; rfl
theorem dot_pws (z : Nat) : ∀ (m : Nat) (w : NF.Wd), w.length = m → NF.dotW w (pws z m) = vr z w
  | 0, w, h => by rw [List.length_eq_zero_iff.mp h]; rfl
  | m + 1, w, h => by
    rcases List.eq_nil_or_concat w with rfl | ⟨u, x, rfl⟩
    · cases h
    · rw [List.concat_eq_append] at h ⊢
      have hu : u.length = m := by simpa using h
      have e : pws z (m + 1) = pws z m ++ [NF.pw z m] := by unfold pws; rw [List.range_succ, List.map_append]; rfl
      rw [e, dot_snoc _ _ _ _ (by rw [hu, pws_len]), dot_pws z m u hu, vr_snoc, hu, nmC x]
theorem vr_rot {z m : Nat} {u : NF.Wd} {x : Nat} (hu : u.length + 1 = m) (h1 : NF.pw z m = 1) : NF.nm (vr z (u ++ [x])) z = vr z (x :: u) := by
  rw [vr_snoc]
  show _ = NF.nm (vr z u) z ^^^ x
  have h2 : NF.nm (NF.pw z u.length) z = 1 := by rw [← NF.pw_succ, hu]; exact h1
  generalize vr z u = b at *
  generalize NF.pw z u.length = c at *
  have h3 : (⟨c⟩ : NF.N2) * ⟨z⟩ = 1 := NF.N2.eq h2
  have : ((⟨b⟩ : NF.N2) + ⟨c⟩ * ⟨x⟩) * ⟨z⟩ = ⟨b⟩ * ⟨z⟩ + ⟨x⟩ := by grind
  exact congrArg NF.N2.v this
theorem vr_lt {z l : Nat} (hz : z < NF.sz l) : ∀ {w : List Nat}, (∀ x ∈ w, x < NF.sz l) → vr z w < NF.sz l
  | [], _ => NF.sz_pos l
  | a :: w, h => NF.xor_lt (NF.nm_lt (vr_lt hz fun x hx => h x (by simp [hx])) hz) (h a (by simp))
theorem vr_rot0 {z m : Nat} {u : NF.Wd} {x : Nat} (hu : u.length + 1 = m) (h1 : NF.pw z m = 1) : vr z (x :: u) = 0 ↔ vr z (u ++ [x]) = 0 := by
  rw [← vr_rot hu h1]
  have h2 : NF.nm (NF.pw z u.length) z = 1 := by rw [← NF.pw_succ, hu]; exact h1
  generalize vr z (u ++ [x]) = b
  generalize NF.pw z u.length = c at h2
  have h3 : (⟨c⟩ : NF.N2) * ⟨z⟩ = 1 := NF.N2.eq h2
  constructor
  · intro h
    have h4 : (⟨b⟩ : NF.N2) * ⟨z⟩ = 0 := NF.N2.eq h
    have : (⟨b⟩ : NF.N2) = 0 := by grind
    exact congrArg NF.N2.v this
  · rintro rfl; exact NF.nm_zero z
theorem cut_last (u : NF.Wd) (x : Nat) : cutD (natsD (u ++ [x])) (some (-1)) none = natsD [x] := by
  rw [natsD_app]
  unfold cutD HT.sIx
  simp
  rw [show (-1 + ((natsD u).length + 1 : Int)).toNat = (natsD u).length by omega, List.drop_left]
  exact List.take_of_length_le (by simp)
theorem rng_two (n : Nat) : rng 2 n = (List.range n).map fun (i : Nat) => D.int (i + 2 : Nat) := by
  unfold rng
  refine List.map_congr_left fun i _ => congrArg D.int ?_
  omega
theorem cut_first (a : Nat) (w : NF.Wd) : cutD (natsD (a :: w)) none (some 1) = natsD [a] := by
  unfold cutD HT.sIx natsD
  simp
theorem cut_rest (a : Nat) (w : NF.Wd) : cutD (natsD (a :: w)) (some 1) none = natsD w := by
  unfold cutD HT.sIx natsD
  simp
  rw [← List.length_map (f := fun n : Nat => D.int (n : Nat)), List.take_length]
theorem at1n {α : Type} (xs : List α) : atI xs 1 = xs[1]? := by exact at_nat xs 1
def LpI (p c : Addr) (l m z : Nat) (du : List NF.Wd) (i : Nat) (r : List Sl) : Prop := ∃ s7 s8 s9 s10, r = [.dr p c, .da (.int l), .da (.int m), .da (.int (NF.sz l : Nat)), .da (.int z), .da (wD (pws z m)), .da (.tup (wsD du)), s7, s8, s9, s10, .no, .no, .no, .no] ∧ s7.addr = none ∧ s8.addr = none ∧ s9.addr = none ∧ s10.addr = none
def C__law_right : DC := fun ds k => ds = [] ∧ k (.bl true)
set_option maxHeartbeats 1000000 in
theorem ok__law_right (T : Txt K mg A FD TK) : FnOk P w K mg base CX0 14 (A 75) (FD 75) ["draw"] (spR K C__law_right) := by
  have S := sc__law_right
  refine fnR T.d__law_right.F S (fun ds k h => by obtain ⟨rfl, kk⟩ := h; rfl) fun cdv Ar outer s H E hr ds k p c h => ?_
  obtain ⟨rfl, kk⟩ := h
  refine ⟨_, _, (ss_cons (s_asgT (e_draw (ok__law_pick T) (hr.mono (by decide)) T.d__law_pick.mg T.d__law_pick.F.kp T.d__law_pick.bd (pv 0) (a_cons (XF.e (f_lst (a_cons (x_tup (a_cons (c_int pe_int) (a_cons (c_int pe_int) a_nil))) (a_cons (x_tup (a_cons (c_int pe_int) (a_cons (c_int pe_int) a_nil))) (a_cons (x_tup (a_cons (c_int pe_int) (a_cons (c_int pe_int) a_nil))) (a_cons (x_tup (a_cons (c_int pe_int) (a_cons (c_int pe_int) a_nil))) a_nil)))))) a_nil)) (g_tup rfl (gl_cons (g_name (i := 1) S.nd rfl) (gl_cons (g_name (i := 2) S.nd rfl) gl_nil))))
    (ss_cons (s_set (i := 3) S.nd rfl (XE.v (e_call (ok__law_size T) (hr.mono (by decide)) T.d__law_size.mg T.d__law_size.F.kp T.d__law_size.bd (a_cons (e_var (pv 1)) a_nil))))
    (ss_cons (s_set (i := 4) S.nd rfl (XE.v (e_draw (ok__law_pick T) (hr.mono (by decide)) T.d__law_pick.mg T.d__law_pick.F.kp T.d__law_pick.bd (pv 0) (a_cons (XF.e (f_lcG (own := [("one", 12)]) (dg := dgName 12) (is := [12]) rfl S.nd (i_rng2 T.b_range (XE.b (c_int pe_int)) (b_var (pv 3))) (blkOk_by (N := ["draw", "level", "many", "size", "number", "word", "dual", "lap", "late", "gap", "due", "moved", "one", "k", "place"]) (sc := defScope s__law_right) (by decide +kernel)) (fun _ _ _ _ _ => by exact ((g_name (i := 12) S.nd rfl))) (fun _ _ _ _ _ => by exact ((ts_one (t_eq hr.units (b_call (ok_order T) (hr.mono (by decide)) T.d_order.mg T.d_order.F.kp T.d_order.bd (ab_cons (b_var (pv 12)) ab_nil)) (b_var (pv 2)))))) (fun _ _ _ _ _ => by exact (e_var (pv 12))))) a_nil))))
    (ss_cons (s_set (i := 5) S.nd rfl (XE.v (x_tupOf T.b_tuple (XF.l (f_lcG (own := [("k", 13)]) (dg := dgName 13) (is := [13]) rfl S.nd (i_rng1 T.b_range (b_var (pv 2))) (blkOk_by (N := ["draw", "level", "many", "size", "number", "word", "dual", "lap", "late", "gap", "due", "moved", "one", "k", "place"]) (sc := defScope s__law_right) (by decide +kernel)) (fun _ _ _ _ _ => by exact ((g_name (i := 13) S.nd rfl))) (fun _ _ _ _ _ => by exact (ts_nil)) (fun _ _ _ _ _ => by exact (e_call (ok_power T) (hr.mono (by decide)) T.d_power.mg T.d_power.F.kp T.d_power.bd (a_cons (e_var (pv 4)) (a_cons (e_var (pv 13)) a_nil)))))))))
    (ss_cons (s_set (i := 6) S.nd rfl (XE.v (e_call (ok_dual_rows T) (hr.mono (by decide)) T.d_dual_rows.mg T.d_dual_rows.F.kp T.d_dual_rows.bd (a_cons (e_var (pv 1)) (a_cons (XF.e (f_lst (a_cons (e_var (pv 5)) a_nil))) a_nil)))))
    (ss_cons (s_if (XW.t (w_or (t_ne hr.units (b_call (ok_least_distance T) (hr.mono (by decide)) T.d_least_distance.mg T.d_least_distance.F.kp T.d_least_distance.bd (ab_cons (b_var (pv 1)) (ab_cons (XE.b (XF.e (f_lst (a_cons (e_var (pv 5)) a_nil)))) ab_nil))) (b_var (pv 2))) (w_or (t_ne hr.units (XE.b (x_len T.b_len (l_var (pv 6)))) (XE.b (x_sub (b_var (pv 2)) (XE.b (c_int pe_int))))) (w_or1 (t_ne hr.units (XE.b (x_ix (XE.l (e_call (ok_dual_weights T) (hr.mono (by decide)) T.d_dual_weights.mg T.d_dual_weights.F.kp T.d_dual_weights.bd (a_cons (e_var (pv 1)) (a_cons (XF.e (f_lst (a_cons (e_var (pv 5)) a_nil))) a_nil)))) (XE.b (c_int pe_int)))) (XE.b (c_int pe_int)))))))
    (ss_one (s_ret (c_bl pe_bl)))
    ss_nil)
    (ss_cons (s_for PassesOwn.never rfl (i_rng1 T.b_range (XE.b (c_int pe_int))) (g_name (i := 7) S.nd rfl)
    (ss_cons (s_set (i := 8) S.nd rfl (XE.v (x_tupOf T.b_tuple (XF.l (f_lcG (own := [("place", 14)]) (dg := dgName 14) (is := [14]) rfl S.nd (i_rng1 T.b_range (b_var (pv 2))) (blkOk_by (N := ["draw", "level", "many", "size", "number", "word", "dual", "lap", "late", "gap", "due", "moved", "one", "k", "place"]) (sc := defScope s__law_right) (by decide +kernel)) (fun _ _ _ _ _ => by exact ((g_name (i := 14) S.nd rfl))) (fun _ _ _ _ _ => by exact (ts_nil)) (fun _ _ _ _ _ => by exact (e_draw (ok__law_take T) (hr.mono (by decide)) T.d__law_take.mg T.d__law_take.F.kp T.d__law_take.bd (pv 0) (a_cons (e_var (pv 3)) a_nil))))))))
    (ss_cons (s_if (t_gt (b_var (pv 7)) (XE.b (c_int pe_int)))
    (ss_cons (s_set (i := 8) S.nd rfl (XE.v (x_catT (x_slT (e_var (pv 8)) o_no (o_so (XE.b (x_neg (XE.b (c_int pe_int)))))) (x_tup (a_cons (c_int pe_int) a_nil)))))
    (ss_cons (s_set (i := 9) S.nd rfl (XE.v (e_call (ok_value_at T) (hr.mono (by decide)) T.d_value_at.mg T.d_value_at.F.kp T.d_value_at.bd (a_cons (e_var (pv 1)) (a_cons (e_call (ok__law_trim T) (hr.mono (by decide)) T.d__law_trim.mg T.d__law_trim.F.kp T.d__law_trim.bd (a_cons (e_var (pv 8)) a_nil)) (a_cons (e_var (pv 4)) a_nil))))))
    (ss_one (s_set (i := 8) S.nd rfl (XE.v (x_catT (x_tup (a_cons (e_call (ok__law_sum T) (hr.mono (by decide)) T.d__law_sum.mg T.d__law_sum.F.kp T.d__law_sum.bd (a_cons (XF.e (f_lst (a_cons (x_ix (l_var (pv 8)) (XE.b (c_int pe_int))) (a_cons (e_var (pv 9)) a_nil)))) a_nil)) a_nil)) (x_slT (e_var (pv 8)) (o_so (XE.b (c_int pe_int))) o_no)))))))
    ss_nil)
    (ss_cons (s_set (i := 10) S.nd rfl (XE.v (x_eq hr.units (b_call (ok_value_at T) (hr.mono (by decide)) T.d_value_at.mg T.d_value_at.F.kp T.d_value_at.bd (ab_cons (b_var (pv 1)) (ab_cons (b_call (ok__law_trim T) (hr.mono (by decide)) T.d__law_trim.mg T.d__law_trim.F.kp T.d__law_trim.bd (ab_cons (b_var (pv 8)) ab_nil)) (ab_cons (b_var (pv 4)) ab_nil)))) (XE.b (c_int pe_int)))))
    (ss_one (s_if (XW.t (w_or (t_ne hr.units (b_call (ok_is_in T) (hr.mono (by decide)) T.d_is_in.mg T.d_is_in.F.kp T.d_is_in.bd (ab_cons (b_var (pv 1)) (ab_cons (b_var (pv 6)) (ab_cons (b_var (pv 8)) ab_nil)))) (b_var (pv 10))) (w_or (XW.t (w_and (t_gt (b_var (pv 7)) (XE.b (c_int pe_int))) (w_and1 (t_not (t_val (b_var (pv 10))))))) (w_or1 (t_ne hr.units (b_call (ok_is_in T) (hr.mono (by decide)) T.d_is_in.mg T.d_is_in.F.kp T.d_is_in.bd (ab_cons (b_var (pv 1)) (ab_cons (b_var (pv 6)) (ab_cons (XE.b (x_catT (x_slT (e_var (pv 8)) (o_so (XE.b (x_neg (XE.b (c_int pe_int))))) o_no) (x_slT (e_var (pv 8)) o_no (o_so (XE.b (x_neg (XE.b (c_int pe_int)))))))) ab_nil)))) (b_var (pv 10)))))))
    (ss_one (s_ret (c_bl pe_bl)))
    ss_nil))))))
    (ss_cons (s_set (i := 11) S.nd rfl (XE.v (x_catT (x_slT (e_var (pv 5)) (o_so (XE.b (c_int pe_int))) o_no) (x_slT (e_var (pv 5)) o_no (o_so (XE.b (c_int pe_int)))))))
    (ss_one (s_ret (x_and (XE.b (x_eq hr.units (b_call (ok_reduced_rows T) (hr.mono (by decide)) T.d_reduced_rows.mg T.d_reduced_rows.F.kp T.d_reduced_rows.bd (ab_cons (b_var (pv 1)) (ab_cons (XE.b (XF.e (f_lst (a_cons (e_var (pv 11)) a_nil)))) ab_nil))) (b_call (ok_reduced_rows T) (hr.mono (by decide)) T.d_reduced_rows.mg T.d_reduced_rows.F.kp T.d_reduced_rows.bd (ab_cons (b_var (pv 1)) (ab_cons (XE.b (XF.e (f_lst (a_cons (e_var (pv 5)) a_nil)))) ab_nil))))) (x_one (x_isB (c := true) (b_call (ok_is_in T) (hr.mono (by decide)) T.d_is_in.mg T.d_is_in.F.kp T.d_is_in.bd (ab_cons (b_var (pv 1)) (ab_cons (XE.b (XF.e (f_lst (a_cons (e_var (pv 5)) a_nil)))) (ab_cons (b_var (pv 11)) ab_nil)))) pe_bl))))))))))))), ?_⟩
  walk_at "dl"
  refine ⟨_, _, rfl, rfl, by simp, by simp, fun x hx => ?_⟩
  obtain ⟨l, m, rfl, hlm⟩ : ∃ l m : Nat, x = .tup [.int (l : Nat), .int (m : Nat)] ∧ ((l = 1 ∧ m = 3) ∨ (l = 2 ∧ m = 3) ∨ (l = 2 ∧ m = 5)) := by
    simp only [List.mem_cons, List.not_mem_nil, or_false] at hx
    rcases hx with rfl | rfl | rfl | rfl
    · exact ⟨1, 3, rfl, .inl ⟨rfl, rfl⟩⟩
    · exact ⟨2, 3, rfl, .inr (.inl ⟨rfl, rfl⟩)⟩
    · exact ⟨2, 5, rfl, .inr (.inr ⟨rfl, rfl⟩)⟩
    · exact ⟨2, 5, rfl, .inr (.inr ⟨rfl, rfl⟩)⟩
  clear hx
  have hl : l ≤ 2 := by omega
  have hm3 : 3 ≤ m := by omega
  have hm5 : m ≤ 5 := by omega
  obtain ⟨hz0, hzs⟩ := zs_fct hlm
  clear hlm
  have hsz : NF.sz l ≤ 16 := NF.sz_mono (k := 2) hl
  have hsp := NF.sz_pos l
  refine ⟨_, rfl, rfl, _, _, rfl, _, _, rfl, rfl, l, rfl, by omega, ?_⟩
  refine ⟨_, _, rfl, rfl, _, _, rfl, rfl, ⟨by decide, by decide, by omega, by omega⟩, by rw [rng_len]; omega, rfl, ?_⟩
  have ez : ((NF.sz l : Int) - 2).toNat = NF.sz l - 2 := by omega
  rw [ez, rng_two]
  refine cmp_filter (p := fun x => decide (NF.ordBy (x + 2) = m)) (fun x hx kk' hk' => ?_) ?_
  · have := List.mem_range.mp hx
    walk_at "dl"
    refine ⟨x + 2, rfl, by omega, by omega, pl_int _ _, ?_⟩
    rw [eqv_int]
    by_cases h : NF.ordBy (x + 2) = m
    · rw [decide_eq_true h, if_pos rfl] at hk'
      rw [decide_eq_true (by omega)]
      exact hk'
    · rw [decide_eq_false h, if_neg (by simp)] at hk'
      rw [decide_eq_false (by omega)]
      exact hk'
  refine ⟨_, _, rfl, rfl, by rw [List.length_map]; exact hz0, by rw [List.length_map]; have := List.length_filter_le (fun x => decide (NF.ordBy (x + 2) = m)) (List.range (NF.sz l - 2)); rw [List.length_range] at this; omega, fun x hx => ?_⟩
  obtain ⟨y, hy, rfl⟩ := List.mem_map.mp hx
  obtain ⟨hzl, hF⟩ := hzs y hy
  clear hz0 hzs hx hy ez
  generalize y + 2 = z at hzl hF ⊢
  have hz64 : z < 18446744073709551616 := lt64l hl hzl
  refine ⟨_, _, rfl, rfl, _, rfl, by omega, by omega, by rw [rng_len, Int.toNat_natCast]; omega, rfl, ?_⟩
  rw [Int.toNat_natCast, rng_list]
  refine cmp_list (g := fun k => .int (NF.pw z k : Nat)) (fun k hk kk' hk' => ?_) ?_
  · have := List.mem_range.mp hk
    walk_at "dl"
    exact ⟨z, k, rfl, hz64, by omega, hk'⟩
  have ep : (List.range m).map (fun k => D.int (NF.pw z k : Nat)) = natsD (pws z m) := by unfold natsD pws; rw [List.map_map]; rfl
  rw [ep]
  clear ep
  have hwl := pws_len z m
  have hwx := pws_lt (m := m) hzl
  have hC : CodeOk l m [pws z m] := ⟨hl, by omega, by omega, by simp, by simp, ⟨fun r hr => by rw [List.mem_singleton.mp hr]; exact hwl, fun r hr => by rw [List.mem_singleton.mp hr]; exact hwx⟩⟩
  have hfew : (NF.redRows [pws z m]).length * 2 ^ l ≤ 12 := by
    rw [hF.red, List.length_singleton, Nat.one_mul]
    exact Nat.le_trans (Nat.pow_le_pow_right (n := 2) (by decide) hl) (by decide)
  have gD := NF.dualRows_good hC.ok.1 hC.ok.2
  have hdl := hF.dl
  have hdu : ∀ w : NF.Wd, w.length = m → decide ((NF.rowsW (NF.dualRows [pws z m] m ++ [w])).length = (NF.rowsW (NF.dualRows [pws z m] m)).length) = decide (vr z w = 0) := fun w hw => by
    have g := gD
    refine decide_eq_decide.mpr ?_
    rw [NF.rows_in g.len g.lt hw, NF.dualRows_spf hC.ok.1 hC.ok.2 hw]
    constructor
    · intro h
      have := (NF.dot_zero hw hwl).mpr (h _ (List.mem_singleton.mpr rfl))
      rw [dot_pws z m w hw] at this
      exact this
    · intro h r hr
      rw [List.mem_singleton.mp hr]
      refine (NF.dot_zero hw hwl).mp ?_
      rw [dot_pws z m w hw]; exact h
  refine ⟨l, m, _, [pws z m], rfl, .inl rfl, hC, ?_⟩
  refine ⟨l, m, _, [pws z m], rfl, .inl rfl, hC, hfew, ?_⟩
  have e1 : ldD l m [pws z m] = D.int (m : Nat) := by
    unfold ldD
    rw [hF.ld]
    show D.int ((m - 1 + 1 : Nat) : Int) = _
    rw [show m - 1 + 1 = m by omega]
  rw [e1]
  refine ⟨pl_int _ _, pl_int _ _, ?_⟩
  rw [eqv_int, decide_eq_true rfl, if_neg (by simp)]
  refine ⟨_, rfl, _, rfl, ?_⟩
  rw [wsD_len, hdl, decide_eq_true (by omega), if_neg (by simp)]
  refine ⟨l, m, _, [pws z m], rfl, .inl rfl, hC, hfew, _, rfl, D.int 0, ?_, ?_⟩
  · have hw := hF.dw
    rw [hF.red]
    generalize dwsI l m (NF.wtsW (NF.wordsW l m [pws z m]) m) (NF.wordsW l m [pws z m]).length = is at hw ⊢
    rw [at1n, List.getElem?_map, hw]; rfl
  refine ⟨pl_int _ _, ?_⟩
  rw [eqv_int, decide_eq_true rfl, if_neg (by simp)]
  have hDC : CodeOk l m (NF.dualRows [pws z m] m) := ⟨hl, by omega, by omega, by rw [hdl]; omega, by rw [hdl]; omega, ⟨gD.len, gD.lt⟩⟩
  generalize NF.dualRows [pws z m] m = du at hdu hDC ⊢
  clear gD e1 hfew hdl
  refine ⟨by decide, by decide, LpI p c l m z du, ⟨.no, .no, .no, .no, rfl, rfl, rfl, rfl, rfl⟩, ?_, ?_⟩
  · rintro i d r hd ⟨s7, s8, s9, s10, rfl, a7, a8, a9, a10⟩
    obtain ⟨hi, rfl⟩ := rng_get hd
    walk_at "dl"
    have hA : ∀ (u : NF.Wd) (x0 : Nat), u.length + 1 = m → decide ((NF.rowsW (du ++ [u ++ [x0]])).length = (NF.rowsW du).length) = decide (vr z (u ++ [x0]) = 0) := fun u x0 hu => hdu _ (by simp; omega)
    have hB : ∀ (u : NF.Wd) (x0 : Nat), u.length + 1 = m → decide ((NF.rowsW (du ++ [x0 :: u])).length = (NF.rowsW du).length) = decide (vr z (u ++ [x0]) = 0) := fun u x0 hu => by
      rw [hdu _ (by simp; omega)]
      exact decide_eq_decide.mpr (vr_rot0 hu hF.p1)
    refine ⟨_, _, rfl, rfl, _, rfl, by omega, by omega, by rw [rng_len, Int.toNat_natCast]; omega, rfl, ?_⟩
    rw [Int.toNat_natCast]
    refine cmp_any (P := fun a : Nat => a < NF.sz l) (g := fun a => .int (a : Nat)) (fun d hd kk' hk' => ?_) fun w hw hx => ?_
    · walk_at "dl"
      exact ⟨NF.sz l, rfl, by omega, fun a ha => hk' a (by omega)⟩
    rw [rng_len] at hw
    have ew : w.map (fun a => D.int (a : Nat)) = natsD w := rfl
    rw [ew]
    clear ew
    have cut1 : ∀ (u : NF.Wd) (x0 : Nat), cutD (natsD (u ++ [x0])) (some (-1)) none ++ cutD (natsD (u ++ [x0])) none (some (-1)) = natsD (x0 :: u) := fun u x0 => by
      rw [cut_last, cut_end]; rfl
    have cutl : ∀ (u : NF.Wd) (x0 : Nat), u.length + 1 = m → (cutD (natsD (u ++ [x0])) (some (-1)) none).length + (cutD (natsD (u ++ [x0])) none (some (-1))).length ≤ 10000000 := fun u x0 hu => by
      rw [cut_last, cut_end, natsD_len, natsD_len, List.length_singleton]; omega
    rcases List.eq_nil_or_concat w with rfl | ⟨u, x0, rfl⟩
    · simp at hw; omega
    rw [List.concat_eq_append] at hw hx ⊢
    have hu : u.length + 1 = m := by simpa using hw
    have htl : ∀ v : NF.Wd, v.length = m → (trim v).length ≤ 17 := fun v hv => by have := trim_len v; omega
    by_cases h : (1 : Int) < 0 + (i : Int)
    · simp only [if_pos h]
      rw [cut_end]
      rw [show natsD u ++ [D.int 0] = natsD (u ++ [0]) from (natsD_app u 0).symm]
      have hx0 : ∀ y ∈ u ++ [0], y < NF.sz l := fun y hy => by
        rcases List.mem_append.mp hy with q | q
        · exact hx y (List.mem_append_left _ q)
        · rw [List.mem_singleton.mp q]; exact hsp
      cases u with
      | nil => simp at hu; omega
      | cons a u =>
        rw [List.cons_append] at hx0 ⊢
        have hu2 : u.length + 2 = m := by simpa using hu
        have hg : vr z (a :: (u ++ [0])) < NF.sz l := vr_lt hzl hx0
        have ha : a < NF.sz l := hx0 a (by simp)
        refine ⟨by rw [natsD_len]; simp at hu2 ⊢; omega, a :: (u ++ [0]), rfl, by simp; omega, l, trim (a :: (u ++ [0])), z, rfl, by omega, htl _ (by simp; omega), fun y hy => hx0 y (trim_mem hy), trim_ok _, hzl, ?_⟩
        rw [vr_trim]
        refine ⟨.int (a : Nat), by rw [at0]; rfl, [a, vr z (a :: (u ++ [0]))], rfl, ?_⟩
        have es : [a, vr z (a :: (u ++ [0]))].foldl (· ^^^ ·) 0 = a ^^^ vr z (a :: (u ++ [0])) := by show (0 ^^^ a) ^^^ _ = _; rw [Nat.zero_xor]
        rw [es]
        have ec : cutD (natsD (a :: (u ++ [0]))) (some 1) none = natsD (u ++ [0]) := cut_rest a (u ++ [0])
        rw [ec]
        have ez : vr z ((a ^^^ vr z (a :: (u ++ [0]))) :: (u ++ [0])) = 0 := by
          show NF.nm (vr z (u ++ [0])) z ^^^ (a ^^^ (NF.nm (vr z (u ++ [0])) z ^^^ a)) = 0
          generalize NF.nm (vr z (u ++ [0])) z = q
          rw [Nat.xor_comm q a, ← Nat.xor_assoc a, Nat.xor_self, Nat.zero_xor, Nat.xor_self]
        have hb : a ^^^ vr z (a :: (u ++ [0])) < NF.sz l := NF.xor_lt ha hg
        generalize a ^^^ vr z (a :: (u ++ [0])) = b at ez hb ⊢
        have hbx : ∀ y ∈ b :: (u ++ [0]), y < NF.sz l := fun y hy => by
          rcases List.mem_cons.mp hy with q | q
          · rw [q]; exact hb
          · exact hx0 y (List.mem_cons_of_mem _ q)
        have hbl : (b :: (u ++ [0])).length = m := by simp; omega
        dsimp only
        rw [show D.int (b : Nat) :: natsD (u ++ [0]) = natsD (b :: (u ++ [0])) from rfl]
        have hA2 := hA (b :: u) 0 (by simp; omega)
        have hB2 := hB (b :: u) 0 (by simp; omega)
        have hc1 := cut1 (b :: u) 0
        have hcl := cutl (b :: u) 0 (by simp; omega)
        rw [List.cons_append] at hA2 hB2 hc1 hcl
        refine ⟨by rw [natsD_len]; simp; omega, b :: (u ++ [0]), rfl, by omega, l, trim (b :: (u ++ [0])), z, rfl, by omega, htl _ hbl, fun y hy => hbx y (trim_mem hy), trim_ok _, hzl, pl_int _ _, ?_⟩
        rw [vr_trim, eqz]
        refine ⟨l, m, _, du, b :: (u ++ [0]), rfl, .inr rfl, hDC, hbl, hbx, pl_bl _ _, ?_⟩
        rw [hA2, eqv_bl, decide_eq_true rfl, if_neg (by simp)]
        have ez2 : decide (vr z (b :: (u ++ [0])) = 0) = true := decide_eq_true ez
        rw [ez2, if_neg (by simp)]
        refine ⟨hcl, ?_⟩
        rw [hc1]
        refine ⟨l, m, _, du, 0 :: b :: u, rfl, .inr rfl, hDC, by simp; omega, fun y hy => hbx y (by simp at hy ⊢; rcases hy with q | q | q <;> simp [q]), pl_bl _ _, ?_⟩
        rw [hB2, ez2, eqv_bl, decide_eq_true rfl, if_neg (by simp)]
        exact ⟨_, _, _, _, rfl, rfl, rfl, rfl, rfl⟩
    · simp only [if_neg h]
      refine ⟨u ++ [x0], rfl, by omega, l, trim (u ++ [x0]), z, rfl, by omega, htl _ hw, fun y hy => hx y (trim_mem hy), trim_ok _, hzl, pl_int _ _, ?_⟩
      rw [vr_trim, eqz]
      refine ⟨l, m, _, du, u ++ [x0], rfl, .inr rfl, hDC, hw, hx, pl_bl _ _, ?_⟩
      rw [hA u x0 hu, eqv_bl, decide_eq_true rfl, if_neg (by simp)]
      refine ⟨cutl _ _ hu, ?_⟩
      rw [cut1]
      refine ⟨l, m, _, du, x0 :: u, rfl, .inr rfl, hDC, by simp; omega, fun y hy => hx y (by simp at hy ⊢; exact hy.symm), pl_bl _ _, ?_⟩
      rw [hB u x0 hu, eqv_bl, decide_eq_true rfl, if_neg (by simp)]
      exact ⟨_, _, _, _, rfl, rfl, rfl, a9, rfl⟩
  · rintro r ⟨s7, s8, s9, s10, rfl, a7, a8, a9, a10⟩
    walk_at "dl"
    have hrr := hF.rr
    have hri := hF.ri
    have hred := hF.red
    have er : cutD (natsD (pws z m)) (some 1) none ++ cutD (natsD (pws z m)) none (some 1) = natsD (rot1 (pws z m)) ∧ (cutD (natsD (pws z m)) (some 1) none).length + (cutD (natsD (pws z m)) none (some 1)).length ≤ 10000000 := by
      generalize pws z m = w at hwl
      cases w with
      | nil => simp at hwl; omega
      | cons a w =>
        rw [cut_rest, cut_first]
        refine ⟨?_, by rw [natsD_len, natsD_len]; simp at hwl ⊢; omega⟩
        unfold rot1 natsD
        rw [← List.map_append]; rfl
    rw [er.1]
    have hrl : (rot1 (pws z m)).length = m := rot_len.trans hwl
    have hrx : ∀ x ∈ rot1 (pws z m), x < NF.sz l := fun x hx => hwx x (rot_mem hx)
    have hCr : CodeOk l m [rot1 (pws z m)] := ⟨hl, by omega, by omega, by simp, by simp, ⟨fun r hr => by rw [List.mem_singleton.mp hr]; exact hrl, fun r hr => by rw [List.mem_singleton.mp hr]; exact hrx⟩⟩
    refine ⟨er.2, l, m, _, [rot1 (pws z m)], rfl, .inl rfl, hCr, l, m, _, [pws z m], rfl, .inl rfl, hC, pl_wst 58 _, pl_wst 58 _, ?_⟩
    rw [eqv_wst, hrr, hred, decide_eq_true rfl, if_pos rfl]
    refine ⟨l, m, _, [pws z m], rot1 (pws z m), rfl, .inl rfl, hC, hrl, hrx, _, rfl, ?_⟩
    rw [decide_eq_true hri, decide_eq_true rfl]
    exact kk
end
end M

namespace M
open PySem PySem.Spec L2 DL
section
variable {P : Program} {w : World} {K : PySem.W.Frag} {mg : Str → Option Value} {base : Heap} {A : Nat → Addr} {FD : Nat → FuncData} {TK : Nat → Tok}

local macro_rules | `(tactic| walk_at "dl") => `(tactic| simp (config := { decide := false }) only [dRet, dRetN, dAndV, dOrV, dNotV, dIsI, dBVar, dVar, dLVar, dC, dI, dI0, gI, gB, dCmp, dTest, dNot, dAnd, dOr, dChain, dIx, deSeq, deLst, deSc, dCons, dNil, dCall, dLen, dTup, dLst, dTupOf, dIf, dSeq, dNext, dSet, dvC, dvF, VV.put, dPar, dDrop, dMax2, dMin2, dIntOf, dIfE, dEq, dYes, dgName, dgTup, dgCons, dgNil, dStep, wipeS, dCallR, dFor, dRng1, dRng2, dAsgT, dPar3, dApp, dSortI, dMinI, dRep, dCat, dLLVar, deLL, dIsN, dReprB, dDrI, dDrC, dDrSet, isDr, dDisp3, dMinT, dRevT, dRevL, dStar, dPop, dSetIx, dSortP, dSortSet, dSetPop, dSortK, dRepT, dCatT, dSlT, dSlL, dONo, dOSo, dInI, dIsB, dAugIx, dIsI2, dZipT, dMinK, Bool.xor_false, Bool.xor_true, Sl.dr.injEq, bodyR, D.isN, D.reprB, Nat.reduceLeDiff,
  st0, frzAll, frzAt, frz_da, frz_no, frz_ol, frz_od, frz_dr, Sl.look, Sl.seq, D.seq, D.cls, D.sc, D.toI, bodyE, List.map_cons, List.map_nil, List.length_cons, List.length_nil, List.replicate, List.nil_append, List.cons_append, List.append_nil, List.getElem?_cons_zero, List.getElem?_cons_succ, List.set_cons_zero, List.set_cons_succ, Option.some.injEq, Sl.da.injEq, Sl.ol.injEq, D.int.injEq, D.bl.injEq, D.str.injEq, D.lst.injEq, D.tup.injEq, List.cons.injEq,
  exists_eq_left, exists_eq_left', exists_eq_right, exists_and_left, exists_and_right, and_assoc, and_true, true_and, and_self, ne_eq, not_false_eq_true, forall_const, reduceCtorEq, Nat.reduceSub, Nat.reduceAdd, Nat.sub_self, false_or, or_false, exists_const, exists_eq', exists_eq, exists_false, implies_true, and_false, false_and, if_true, if_false, decide_eq_true_eq, decide_true, decide_false, Bool.false_eq_true, reduceIte, Bool.not_true, Bool.not_false, pl_int, pl_bl, pl_non, pl_lst, pl_tup, pls_nil, pls_cons, pl_ints, pls_ints, pls_bls, eqv_int, eqv_bl, eqv_ints, eqv_tints, eqv_bls, Bool.false_xor, Bool.true_xor, Bool.and_true, Bool.true_and, Int.natCast_inj])

/-! the law itself -/
def spLaw (K : PySem.W.Frag) : Sp := fun vs H Q _ => ∃ (a : Addr) (ns : List Int), vs = [.ref a] ∧ SqL K H a (ns.map V.int) ∧ ns.length ≤ 63 ∧ (∀ z ∈ ns, Builtin.Int.intBits z ≤ 1048576) ∧ ∀ H', Q (.bl true) H'
def begE (ns : List Int) : DEnds := { nx := fun ρ => ∃ (w : Int) (cs : List Int), cs.length ≤ 63 ∧ ρ = [.da (.fz ns), .da (.dct [kW, kL, kN] [.int w, .lst (cs.map .int), .int 0]), .no], rt := fun _ _ => False }
def endE : DEnds := { nx := fun _ => False, rt := fun d _ => d = .bl true }
def LwI (ns : List Int) (p c : Addr) (i : Nat) (r : List Sl) : Prop := ∃ x, r = [.da (.fz ns), .dr p c, x] ∧ x.addr = none
theorem law_go {X : Cx} {st : Stmt} {sts : List Stmt} {ts tu : TS} {ds du : DS} (h1 : XS X st ts ds) (h2 : XSs X sts tu du) {σ : L2.St} {H : Hp} {ns : List Int} {W : Addr → Prop} {B : Hp} {ρ : List Sl} {Q : VK} (t : At X.K W B ρ σ H) (d : ds (begE ns) ρ)
    (m : ∀ p c, du endE [.da (.fz ns), .dr p c, .no]) (q : ∀ H', Q (.bl true) H') : ∃ t, PSs X (st :: sts) t ∧ t { nx := fun _ H' => Q .non H', rt := Q } σ H := by
  refine ⟨_, (ss_cons h1 h2).ps, h1.ok W B ρ σ H (begE ns) _ t d (fun ρ' σ' H' a' ⟨w, cs, hl, e⟩ => ?_) (fun _ _ _ _ _ _ _ z => z.elim) (fun _ _ _ _ z => z.elim) (fun _ _ _ _ z => z.elim)⟩
  subst e
  obtain ⟨B', p, c, a2⟩ := a'.begin (i := 1) (w := w) (n := 0) (cs := cs) (fun s hs => by
    simp only [List.mem_cons, List.not_mem_nil, or_false] at hs
    rcases hs with rfl | rfl | rfl <;> rfl) rfl hl fun j s hj hn => by
      have : j = 0 ∨ j = 1 ∨ j = 2 ∨ 3 ≤ j := by omega
      rcases this with rfl | rfl | rfl | h3
      · cases hj; exact .inr ⟨ns, rfl⟩
      · exact absurd rfl hn
      · cases hj; exact .inl rfl
      · rw [List.getElem?_eq_none (by simpa using h3)] at hj; cases hj
  exact h2.ok _ _ _ _ _ endE _ a2 (m p c) (fun _ _ _ _ z => z.elim) (fun ρ' σ' H' d v a' r e => by
    have e : d = .bl true := e
    subst e
    obtain rfl := rep_bl r
    exact q H') (fun _ _ _ _ z => z.elim) (fun _ _ _ _ z => z.elim)
theorem at_law {ns : List Int} {a : Addr} {H : Hp} (N : List Str) (hs : SqL K H a (ns.map V.int)) : At K (fun _ => False) H (st0 N [.fz ns]) (L2.start N [.ref a]) H :=
  at_start (fun _ z => z.elim) (reps_one (by simp only [rep]; exact ⟨a, rfl, sl_sub (fun b o e => cl_of e id) hs⟩))
end
end M

namespace M
open PySem PySem.Spec L2 DL
section
variable {P : Program} {w : World} {K : PySem.W.Frag} {mg : Str → Option Value} {base : Heap} {A : Nat → Addr} {FD : Nat → FuncData} {TK : Nat → Tok}

local macro_rules | `(tactic| walk_at "dl") => `(tactic| simp (config := { decide := false }) only [dRet, dRetN, dAndV, dOrV, dNotV, dIsI, dBVar, dVar, dLVar, dC, dI, dI0, gI, gB, dCmp, dTest, dNot, dAnd, dOr, dChain, dIx, deSeq, deLst, deSc, dCons, dNil, dCall, dLen, dTup, dLst, dTupOf, dIf, dSeq, dNext, dSet, dvC, dvF, VV.put, dPar, dDrop, dMax2, dMin2, dIntOf, dIfE, dEq, dYes, dgName, dgTup, dgCons, dgNil, dStep, wipeS, dCallR, dFor, dRng1, dRng2, dAsgT, dPar3, dApp, dSortI, dMinI, dRep, dCat, dLLVar, deLL, dIsN, dReprB, dDrI, dDrC, dDrSet, isDr, dDisp3, dMinT, dRevT, dRevL, dStar, dPop, dSetIx, dSortP, dSortSet, dSetPop, dSortK, dRepT, dCatT, dSlT, dSlL, dONo, dOSo, dInI, dIsB, dAugIx, dIsI2, dZipT, dMinK, Bool.xor_false, Bool.xor_true, Sl.dr.injEq, bodyR, D.isN, D.reprB, Nat.reduceLeDiff,
  st0, frzAll, frzAt, frz_da, frz_no, frz_ol, frz_od, frz_dr, Sl.look, Sl.seq, D.seq, D.cls, D.sc, D.toI, bodyE, List.map_cons, List.map_nil, List.length_cons, List.length_nil, List.replicate, List.nil_append, List.cons_append, List.append_nil, List.getElem?_cons_zero, List.getElem?_cons_succ, List.set_cons_zero, List.set_cons_succ, Option.some.injEq, Sl.da.injEq, Sl.ol.injEq, D.int.injEq, D.bl.injEq, D.str.injEq, D.lst.injEq, D.tup.injEq, List.cons.injEq,
  exists_eq_left, exists_eq_left', exists_eq_right, exists_and_left, exists_and_right, and_assoc, and_true, true_and, and_self, ne_eq, not_false_eq_true, forall_const, reduceCtorEq, Nat.reduceSub, Nat.reduceAdd, Nat.sub_self, false_or, or_false, exists_const, exists_eq', exists_eq, exists_false, implies_true, and_false, false_and, if_true, if_false, decide_eq_true_eq, decide_true, decide_false, Bool.false_eq_true, reduceIte, Bool.not_true, Bool.not_false, pl_int, pl_bl, pl_non, pl_lst, pl_tup, pls_nil, pls_cons, pl_ints, pls_ints, pls_bls, eqv_int, eqv_bl, eqv_ints, eqv_tints, eqv_bls, Bool.false_xor, Bool.true_xor, Bool.and_true, Bool.true_and, Int.natCast_inj])

def Lw4 (ns : List Int) (p c : Addr) (i : Nat) (r : List Sl) : Prop := ∃ x, r = [.da (.fz ns), .dr p c, x, .no] ∧ x.addr = none
/-- law_go for any number of names behind draw -/
theorem law_go4 {X : Cx} {st : Stmt} {sts : List Stmt} {ts tu : TS} {ds du : DS} (h1 : XS X st ts ds) (h2 : XSs X sts tu du) {σ : L2.St} {H : Hp} {ns : List Int} {W : Addr → Prop} {B : Hp} {ρ : List Sl} {Q : VK} {m : Nat} (t : At X.K W B ρ σ H)
    (d : ds { nx := fun ρ => ∃ (w : Int) (cs : List Int), cs.length ≤ 63 ∧ ρ = [.da (.fz ns), .da (.dct [kW, kL, kN] [.int w, .lst (cs.map .int), .int 0])] ++ List.replicate m .no, rt := fun _ _ => False } ρ)
    (mm : ∀ p c, du endE ([.da (.fz ns), .dr p c] ++ List.replicate m .no)) (q : ∀ H', Q (.bl true) H') : ∃ t, PSs X (st :: sts) t ∧ t { nx := fun _ H' => Q .non H', rt := Q } σ H := by
  refine ⟨_, (ss_cons h1 h2).ps, h1.ok W B ρ σ H _ _ t d (fun ρ' σ' H' a' ⟨w, cs, hl, e⟩ => ?_) (fun _ _ _ _ _ _ _ z => z.elim) (fun _ _ _ _ z => z.elim) (fun _ _ _ _ z => z.elim)⟩
  subst e
  obtain ⟨B', p, c, a2⟩ := a'.begin (i := 1) (w := w) (n := 0) (cs := cs) (fun s hs => by
    rcases List.mem_append.mp hs with hs | hs
    · simp only [List.mem_cons, List.not_mem_nil, or_false] at hs
      rcases hs with rfl | rfl <;> rfl
    · rw [List.eq_of_mem_replicate hs]; rfl) rfl hl fun j s hj hn => by
      have : j = 0 ∨ j = 1 ∨ 2 ≤ j := by omega
      rcases this with rfl | rfl | h3
      · cases hj; exact .inr ⟨ns, rfl⟩
      · exact absurd rfl hn
      · left
        have hj' : (List.replicate m Sl.no)[j - 2]? = some s := by
          rw [List.getElem?_append_right (by simpa using h3)] at hj
          simpa using hj
        exact List.eq_of_mem_replicate (List.mem_of_getElem? hj')
  exact h2.ok _ _ _ _ _ endE _ a2 (mm p c) (fun _ _ _ _ z => z.elim) (fun ρ' σ' H' d v a' r e => by
    have e : d = .bl true := e
    subst e
    obtain rfl := rep_bl r
    exact q H') (fun _ _ _ _ z => z.elim) (fun _ _ _ _ z => z.elim)
theorem ok_law (T : Txt K mg A FD TK) : FnOk P w K mg base CX0 15 (A 76) (FD 76) ["script"] (spLaw K) := by
  have S := sc_law
  refine T.d_law.F.ok S (fun vs H Q E ⟨a, ns, e, _⟩ => by subst e; rfl) fun cdv Ar outer s H vs Q E hr ⟨a, ns, e, hs, hl, hb, q⟩ => ?_
  subst e
  refine law_go4 (ns := ns) (m := 2) ((s_set (i := 1) S.nd rfl (XE.v (e_call (ok__law_begun T) (hr.mono (by decide)) T.d__law_begun.mg T.d__law_begun.F.kp T.d__law_begun.bd (a_cons (e_var (pv 0)) a_nil))))) ((ss_cons (s_for PassesOwn.never rfl (i_rng1 T.b_range (XE.b (x_add (XE.b (c_int pe_int)) (XE.b (x_min2 rfl T.b_min (XE.b (x_len T.b_len (l_var (pv 0)))) (XE.b (c_int pe_int))))))) (g_name (i := 2) S.nd rfl)
    (ss_one (s_if (t_not (t_val (XE.b (e_draw (ok__law_right T) (hr.mono (by decide)) T.d__law_right.mg T.d__law_right.F.kp T.d__law_right.bd (pv 1) a_nil))))
    (ss_one (s_ret (c_bl pe_bl)))
    ss_nil)))
    (ss_cons (s_set (i := 3) S.nd rfl (XE.v (e_call (ok_dual_rows T) (hr.mono (by decide)) T.d_dual_rows.mg T.d_dual_rows.F.kp T.d_dual_rows.bd (a_cons (c_int pe_int) (a_cons (XF.e (f_lst (a_cons (x_tup (a_cons (c_int pe_int) (a_cons (c_int pe_int) (a_cons (c_int pe_int) a_nil)))) a_nil))) a_nil)))))
    (ss_one (s_ret (e_call (ok__law_says T) (hr.mono (by decide)) T.d__law_says.mg T.d__law_says.F.kp T.d__law_says.bd (a_cons (XF.e (f_lst (a_cons (e_call (ok_is_in T) (hr.mono (by decide)) T.d_is_in.mg T.d_is_in.F.kp T.d_is_in.bd (a_cons (c_int pe_int) (a_cons (e_var (pv 3)) (a_cons (x_tup (a_cons (c_int pe_int) (a_cons (c_int pe_int) (a_cons (c_int pe_int) a_nil)))) a_nil)))) (a_cons (e_call (ok_is_in T) (hr.mono (by decide)) T.d_is_in.mg T.d_is_in.F.kp T.d_is_in.bd (a_cons (c_int pe_int) (a_cons (e_var (pv 3)) (a_cons (x_tup (a_cons (c_int pe_int) (a_cons (c_int pe_int) (a_cons (c_int pe_int) a_nil)))) a_nil)))) (a_cons (e_call (ok_value_at T) (hr.mono (by decide)) T.d_value_at.mg T.d_value_at.F.kp T.d_value_at.bd (a_cons (c_int pe_int) (a_cons (x_tup (a_cons (c_int pe_int) (a_cons (c_int pe_int) (a_cons (c_int pe_int) a_nil)))) (a_cons (c_int pe_int) a_nil)))) (a_cons (e_call (ok_order T) (hr.mono (by decide)) T.d_order.mg T.d_order.F.kp T.d_order.bd (a_cons (c_int pe_int) a_nil)) a_nil)))))) (a_cons (XF.e (f_lst (a_cons (c_bl pe_bl) (a_cons (c_bl pe_bl) (a_cons (c_int pe_int) (a_cons (c_int pe_int) a_nil)))))) a_nil)))))))) (at_law _ hs) ?_ (fun p c => ?_) q
  · walk_at "dl"
    exact ⟨ns, rfl, hl, hb, fun w cs h => ⟨w, cs, h, rfl⟩⟩
  · walk_at "dl"
    refine ⟨by split <;> omega, by split <;> omega, Lw4 ns p c, ⟨.no, rfl, rfl⟩, ?_, ?_⟩
    · rintro i d r hd ⟨x, rfl, _⟩
      walk_at "dl"
      exact ⟨rfl, _, rfl, _, rfl, rfl⟩
    · rintro r ⟨x, rfl, _⟩
      walk_at "dl"
      have hC : CodeOk 1 3 [[1, 2, 3]] := ⟨by decide, by decide, by decide, by decide, by decide, by decide, by decide⟩
      have hdu : NF.dualRows [[1, 2, 3]] 3 = [[1, 0, 2], [0, 1, 3]] := by decide +kernel
      have hC2 : CodeOk 1 3 [[1, 0, 2], [0, 1, 3]] := ⟨by decide, by decide, by decide, by decide, by decide, by decide, by decide⟩
      have e1 : decide ((NF.rowsW ([[1, 0, 2], [0, 1, 3]] ++ [[1, 1, 1]])).length = (NF.rowsW [[1, 0, 2], [0, 1, 3]]).length) = true := by decide +kernel
      have e2 : decide ((NF.rowsW ([[1, 0, 2], [0, 1, 3]] ++ [[1, 0, 0]])).length = (NF.rowsW [[1, 0, 2], [0, 1, 3]]).length) = false := by decide +kernel
      have e3 : vr 2 [1, 1, 1] = 0 := by decide +kernel
      have e4 : NF.ordBy 2 = 3 := by decide +kernel
      have ht : TailOk [1, 1, 1] := fun ys m h => by
        have : m = 1 := by
          have h2 := congrArg List.getLast? h
          simp at h2
          exact h2.symm
        rw [this]; decide
      refine ⟨1, 3, _, [[1, 2, 3]], rfl, .inl rfl, hC, ?_⟩
      rw [hdu]
      refine ⟨1, 3, _, [[1, 0, 2], [0, 1, 3]], [1, 1, 1], rfl, .inr rfl, hC2, rfl, by decide, ?_⟩
      refine ⟨1, 3, _, [[1, 0, 2], [0, 1, 3]], [1, 0, 0], rfl, .inr rfl, hC2, rfl, by decide, ?_⟩
      refine ⟨1, [1, 1, 1], 2, rfl, by decide, by decide, by decide, ht, by decide, 2, rfl, by decide, by decide, ?_⟩
      rw [e1, e2, e3, e4]
      exact ⟨_, rfl, rfl, by decide, rfl⟩
end
end M

namespace M
open PySem PySem.Spec L2 DL
def pk {α : Type} : List α → α → Nat → α
  | [], d, _ => d
  | x :: _, _, 0 => x
  | _ :: r, d, n + 1 => pk r d n
abbrev fdOf (x : Str) (st : Stmt) (kV dc pm : Value) (an : Option Addr) (cd ct : Value) : FuncData := PySem.W.fnOf x x (defArgs st) (defBody st) (defScope st) .none kV dc pm an cd ct
theorem def_mk {K : PySem.W.Frag} {h : Heap} {mg : Str → Option Value} {x g : Str} {st : Stmt} {ps : List Str} {f : Addr} {od an : Option Addr} {sl : Array (Option Value)} {oc kV dc pm cd ct : Value} (X : K.In h) (G : h.Ns mainGlobals mg)
    (hb : ∀ (kV doc pm : Value) (an : Option Addr) (cdv ct : Value) (us : List Value), us.length = ps.length → bindArgs (fdOf x st kV doc pm an cdv ct) ⟨us, []⟩ = pure (ps.zip us))
    (a : PySem.W.nsIn K mainGlobals g = some (some (.ref f))) (l : K.lookup f = some ⟨oc, od, .func (fdOf x st kV dc pm an cd ct), sl⟩) (c : PySem.W.codeIn K cd x = true) (k : PySem.W.keepIn K (.ref f) = true) : DefAt K mg x g st ps f (fdOf x st kV dc pm an cd ct) :=
  ⟨fun_mk l c k, PySem.W.mg_of X G a, (fun_mk l c k).binds hb⟩
set_option maxHeartbeats 0 in
theorem all_mk {P : Program} {w : World} {K : PySem.W.Frag} {h : Heap} {mg : Str → Option Value} {fa : Addr} (X : K.In h) (G : h.Ns mainGlobals mg) (hfa : mg "law" = some (.ref fa))
    {f15 : Addr} {od15 an15 : Option Addr} {sl15 : Array (Option Value)} {oc15 kV15 dc15 pm15 cd15 ct15 : Value}
    (a15 : PySem.W.nsIn K mainGlobals "is_whole" = some (some (.ref f15))) (l15 : K.lookup f15 = some ⟨oc15, od15, .func (fdOf "is_whole" s_is_whole kV15 dc15 pm15 an15 cd15 ct15), sl15⟩) (c15 : PySem.W.codeIn K cd15 "is_whole" = true) (k15 : PySem.W.keepIn K (.ref f15) = true)
    {f16 : Addr} {od16 an16 : Option Addr} {sl16 : Array (Option Value)} {oc16 kV16 dc16 pm16 cd16 ct16 : Value}
    (a16 : PySem.W.nsIn K mainGlobals "is_number_of" = some (some (.ref f16))) (l16 : K.lookup f16 = some ⟨oc16, od16, .func (fdOf "is_number_of" s_is_number_of kV16 dc16 pm16 an16 cd16 ct16), sl16⟩) (c16 : PySem.W.codeIn K cd16 "is_number_of" = true) (k16 : PySem.W.keepIn K (.ref f16) = true)
    {f17 : Addr} {od17 an17 : Option Addr} {sl17 : Array (Option Value)} {oc17 kV17 dc17 pm17 cd17 ct17 : Value}
    (a17 : PySem.W.nsIn K mainGlobals "refuse" = some (some (.ref f17))) (l17 : K.lookup f17 = some ⟨oc17, od17, .func (fdOf "refuse" s_refuse kV17 dc17 pm17 an17 cd17 ct17), sl17⟩) (c17 : PySem.W.codeIn K cd17 "refuse" = true) (k17 : PySem.W.keepIn K (.ref f17) = true)
    {f18 : Addr} {od18 an18 : Option Addr} {sl18 : Array (Option Value)} {oc18 kV18 dc18 pm18 cd18 ct18 : Value}
    (a18 : PySem.W.nsIn K mainGlobals "need_number" = some (some (.ref f18))) (l18 : K.lookup f18 = some ⟨oc18, od18, .func (fdOf "need_number" s_need_number kV18 dc18 pm18 an18 cd18 ct18), sl18⟩) (c18 : PySem.W.codeIn K cd18 "need_number" = true) (k18 : PySem.W.keepIn K (.ref f18) = true)
    {f19 : Addr} {od19 an19 : Option Addr} {sl19 : Array (Option Value)} {oc19 kV19 dc19 pm19 cd19 ct19 : Value}
    (a19 : PySem.W.nsIn K mainGlobals "need_level" = some (some (.ref f19))) (l19 : K.lookup f19 = some ⟨oc19, od19, .func (fdOf "need_level" s_need_level kV19 dc19 pm19 an19 cd19 ct19), sl19⟩) (c19 : PySem.W.codeIn K cd19 "need_level" = true) (k19 : PySem.W.keepIn K (.ref f19) = true)
    {f20 : Addr} {od20 an20 : Option Addr} {sl20 : Array (Option Value)} {oc20 kV20 dc20 pm20 cd20 ct20 : Value}
    (a20 : PySem.W.nsIn K mainGlobals "in_level" = some (some (.ref f20))) (l20 : K.lookup f20 = some ⟨oc20, od20, .func (fdOf "in_level" s_in_level kV20 dc20 pm20 an20 cd20 ct20), sl20⟩) (c20 : PySem.W.codeIn K cd20 "in_level" = true) (k20 : PySem.W.keepIn K (.ref f20) = true)
    {f21 : Addr} {od21 an21 : Option Addr} {sl21 : Array (Option Value)} {oc21 kV21 dc21 pm21 cd21 ct21 : Value}
    (a21 : PySem.W.nsIn K mainGlobals "need_in" = some (some (.ref f21))) (l21 : K.lookup f21 = some ⟨oc21, od21, .func (fdOf "need_in" s_need_in kV21 dc21 pm21 an21 cd21 ct21), sl21⟩) (c21 : PySem.W.codeIn K cd21 "need_in" = true) (k21 : PySem.W.keepIn K (.ref f21) = true)
    {f22 : Addr} {od22 an22 : Option Addr} {sl22 : Array (Option Value)} {oc22 kV22 dc22 pm22 cd22 ct22 : Value}
    (a22 : PySem.W.nsIn K mainGlobals "level_by" = some (some (.ref f22))) (l22 : K.lookup f22 = some ⟨oc22, od22, .func (fdOf "level_by" s_level_by kV22 dc22 pm22 an22 cd22 ct22), sl22⟩) (c22 : PySem.W.codeIn K cd22 "level_by" = true) (k22 : PySem.W.keepIn K (.ref f22) = true)
    {f24 : Addr} {od24 an24 : Option Addr} {sl24 : Array (Option Value)} {oc24 kV24 dc24 pm24 cd24 ct24 : Value}
    (a24 : PySem.W.nsIn K mainGlobals "times_by" = some (some (.ref f24))) (l24 : K.lookup f24 = some ⟨oc24, od24, .func (fdOf "times_by" s_times_by kV24 dc24 pm24 an24 cd24 ct24), sl24⟩) (c24 : PySem.W.codeIn K cd24 "times_by" = true) (k24 : PySem.W.keepIn K (.ref f24) = true)
    {f25 : Addr} {od25 an25 : Option Addr} {sl25 : Array (Option Value)} {oc25 kV25 dc25 pm25 cd25 ct25 : Value}
    (a25 : PySem.W.nsIn K mainGlobals "times_within" = some (some (.ref f25))) (l25 : K.lookup f25 = some ⟨oc25, od25, .func (fdOf "times_within" s_times_within kV25 dc25 pm25 an25 cd25 ct25), sl25⟩) (c25 : PySem.W.codeIn K cd25 "times_within" = true) (k25 : PySem.W.keepIn K (.ref f25) = true)
    {f26 : Addr} {od26 an26 : Option Addr} {sl26 : Array (Option Value)} {oc26 kV26 dc26 pm26 cd26 ct26 : Value}
    (a26 : PySem.W.nsIn K mainGlobals "power_by" = some (some (.ref f26))) (l26 : K.lookup f26 = some ⟨oc26, od26, .func (fdOf "power_by" s_power_by kV26 dc26 pm26 an26 cd26 ct26), sl26⟩) (c26 : PySem.W.codeIn K cd26 "power_by" = true) (k26 : PySem.W.keepIn K (.ref f26) = true)
    {f27 : Addr} {od27 an27 : Option Addr} {sl27 : Array (Option Value)} {oc27 kV27 dc27 pm27 cd27 ct27 : Value}
    (a27 : PySem.W.nsIn K mainGlobals "inverse_by" = some (some (.ref f27))) (l27 : K.lookup f27 = some ⟨oc27, od27, .func (fdOf "inverse_by" s_inverse_by kV27 dc27 pm27 an27 cd27 ct27), sl27⟩) (c27 : PySem.W.codeIn K cd27 "inverse_by" = true) (k27 : PySem.W.keepIn K (.ref f27) = true)
    {f28 : Addr} {od28 an28 : Option Addr} {sl28 : Array (Option Value)} {oc28 kV28 dc28 pm28 cd28 ct28 : Value}
    (a28 : PySem.W.nsIn K mainGlobals "power" = some (some (.ref f28))) (l28 : K.lookup f28 = some ⟨oc28, od28, .func (fdOf "power" s_power kV28 dc28 pm28 an28 cd28 ct28), sl28⟩) (c28 : PySem.W.codeIn K cd28 "power" = true) (k28 : PySem.W.keepIn K (.ref f28) = true)
    {f33 : Addr} {od33 an33 : Option Addr} {sl33 : Array (Option Value)} {oc33 kV33 dc33 pm33 cd33 ct33 : Value}
    (a33 : PySem.W.nsIn K mainGlobals "need_small" = some (some (.ref f33))) (l33 : K.lookup f33 = some ⟨oc33, od33, .func (fdOf "need_small" s_need_small kV33 dc33 pm33 an33 cd33 ct33), sl33⟩) (c33 : PySem.W.codeIn K cd33 "need_small" = true) (k33 : PySem.W.keepIn K (.ref f33) = true)
    {f34 : Addr} {od34 an34 : Option Addr} {sl34 : Array (Option Value)} {oc34 kV34 dc34 pm34 cd34 ct34 : Value}
    (a34 : PySem.W.nsIn K mainGlobals "is_word_of" = some (some (.ref f34))) (l34 : K.lookup f34 = some ⟨oc34, od34, .func (fdOf "is_word_of" s_is_word_of kV34 dc34 pm34 an34 cd34 ct34), sl34⟩) (c34 : PySem.W.codeIn K cd34 "is_word_of" = true) (k34 : PySem.W.keepIn K (.ref f34) = true)
    {f35 : Addr} {od35 an35 : Option Addr} {sl35 : Array (Option Value)} {oc35 kV35 dc35 pm35 cd35 ct35 : Value}
    (a35 : PySem.W.nsIn K mainGlobals "are_rows_of" = some (some (.ref f35))) (l35 : K.lookup f35 = some ⟨oc35, od35, .func (fdOf "are_rows_of" s_are_rows_of kV35 dc35 pm35 an35 cd35 ct35), sl35⟩) (c35 : PySem.W.codeIn K cd35 "are_rows_of" = true) (k35 : PySem.W.keepIn K (.ref f35) = true)
    {f36 : Addr} {od36 an36 : Option Addr} {sl36 : Array (Option Value)} {oc36 kV36 dc36 pm36 cd36 ct36 : Value}
    (a36 : PySem.W.nsIn K mainGlobals "need_rows" = some (some (.ref f36))) (l36 : K.lookup f36 = some ⟨oc36, od36, .func (fdOf "need_rows" s_need_rows kV36 dc36 pm36 an36 cd36 ct36), sl36⟩) (c36 : PySem.W.codeIn K cd36 "need_rows" = true) (k36 : PySem.W.keepIn K (.ref f36) = true)
    {f37 : Addr} {od37 an37 : Option Addr} {sl37 : Array (Option Value)} {oc37 kV37 dc37 pm37 cd37 ct37 : Value}
    (a37 : PySem.W.nsIn K mainGlobals "need_word" = some (some (.ref f37))) (l37 : K.lookup f37 = some ⟨oc37, od37, .func (fdOf "need_word" s_need_word kV37 dc37 pm37 an37 cd37 ct37), sl37⟩) (c37 : PySem.W.codeIn K cd37 "need_word" = true) (k37 : PySem.W.keepIn K (.ref f37) = true)
    {f38 : Addr} {od38 an38 : Option Addr} {sl38 : Array (Option Value)} {oc38 kV38 dc38 pm38 cd38 ct38 : Value}
    (a38 : PySem.W.nsIn K mainGlobals "less" = some (some (.ref f38))) (l38 : K.lookup f38 = some ⟨oc38, od38, .func (fdOf "less" s_less kV38 dc38 pm38 an38 cd38 ct38), sl38⟩) (c38 : PySem.W.codeIn K cd38 "less" = true) (k38 : PySem.W.keepIn K (.ref f38) = true)
    {f39 : Addr} {od39 an39 : Option Addr} {sl39 : Array (Option Value)} {oc39 kV39 dc39 pm39 cd39 ct39 : Value}
    (a39 : PySem.W.nsIn K mainGlobals "lead_of" = some (some (.ref f39))) (l39 : K.lookup f39 = some ⟨oc39, od39, .func (fdOf "lead_of" s_lead_of kV39 dc39 pm39 an39 cd39 ct39), sl39⟩) (c39 : PySem.W.codeIn K cd39 "lead_of" = true) (k39 : PySem.W.keepIn K (.ref f39) = true)
    {f40 : Addr} {od40 an40 : Option Addr} {sl40 : Array (Option Value)} {oc40 kV40 dc40 pm40 cd40 ct40 : Value}
    (a40 : PySem.W.nsIn K mainGlobals "rows_by" = some (some (.ref f40))) (l40 : K.lookup f40 = some ⟨oc40, od40, .func (fdOf "rows_by" s_rows_by kV40 dc40 pm40 an40 cd40 ct40), sl40⟩) (c40 : PySem.W.codeIn K cd40 "rows_by" = true) (k40 : PySem.W.keepIn K (.ref f40) = true)
    {f41 : Addr} {od41 an41 : Option Addr} {sl41 : Array (Option Value)} {oc41 kV41 dc41 pm41 cd41 ct41 : Value}
    (a41 : PySem.W.nsIn K mainGlobals "words_by" = some (some (.ref f41))) (l41 : K.lookup f41 = some ⟨oc41, od41, .func (fdOf "words_by" s_words_by kV41 dc41 pm41 an41 cd41 ct41), sl41⟩) (c41 : PySem.W.codeIn K cd41 "words_by" = true) (k41 : PySem.W.keepIn K (.ref f41) = true)
    {f42 : Addr} {od42 an42 : Option Addr} {sl42 : Array (Option Value)} {oc42 kV42 dc42 pm42 cd42 ct42 : Value}
    (a42 : PySem.W.nsIn K mainGlobals "dual_by" = some (some (.ref f42))) (l42 : K.lookup f42 = some ⟨oc42, od42, .func (fdOf "dual_by" s_dual_by kV42 dc42 pm42 an42 cd42 ct42), sl42⟩) (c42 : PySem.W.codeIn K cd42 "dual_by" = true) (k42 : PySem.W.keepIn K (.ref f42) = true)
    {f43 : Addr} {od43 an43 : Option Addr} {sl43 : Array (Option Value)} {oc43 kV43 dc43 pm43 cd43 ct43 : Value}
    (a43 : PySem.W.nsIn K mainGlobals "reduced_rows" = some (some (.ref f43))) (l43 : K.lookup f43 = some ⟨oc43, od43, .func (fdOf "reduced_rows" s_reduced_rows kV43 dc43 pm43 an43 cd43 ct43), sl43⟩) (c43 : PySem.W.codeIn K cd43 "reduced_rows" = true) (k43 : PySem.W.keepIn K (.ref f43) = true)
    {f44 : Addr} {od44 an44 : Option Addr} {sl44 : Array (Option Value)} {oc44 kV44 dc44 pm44 cd44 ct44 : Value}
    (a44 : PySem.W.nsIn K mainGlobals "is_in" = some (some (.ref f44))) (l44 : K.lookup f44 = some ⟨oc44, od44, .func (fdOf "is_in" s_is_in kV44 dc44 pm44 an44 cd44 ct44), sl44⟩) (c44 : PySem.W.codeIn K cd44 "is_in" = true) (k44 : PySem.W.keepIn K (.ref f44) = true)
    {f45 : Addr} {od45 an45 : Option Addr} {sl45 : Array (Option Value)} {oc45 kV45 dc45 pm45 cd45 ct45 : Value}
    (a45 : PySem.W.nsIn K mainGlobals "dual_rows" = some (some (.ref f45))) (l45 : K.lookup f45 = some ⟨oc45, od45, .func (fdOf "dual_rows" s_dual_rows kV45 dc45 pm45 an45 cd45 ct45), sl45⟩) (c45 : PySem.W.codeIn K cd45 "dual_rows" = true) (k45 : PySem.W.keepIn K (.ref f45) = true)
    {f48 : Addr} {od48 an48 : Option Addr} {sl48 : Array (Option Value)} {oc48 kV48 dc48 pm48 cd48 ct48 : Value}
    (a48 : PySem.W.nsIn K mainGlobals "order_by" = some (some (.ref f48))) (l48 : K.lookup f48 = some ⟨oc48, od48, .func (fdOf "order_by" s_order_by kV48 dc48 pm48 an48 cd48 ct48), sl48⟩) (c48 : PySem.W.codeIn K cd48 "order_by" = true) (k48 : PySem.W.keepIn K (.ref f48) = true)
    {f49 : Addr} {od49 an49 : Option Addr} {sl49 : Array (Option Value)} {oc49 kV49 dc49 pm49 cd49 ct49 : Value}
    (a49 : PySem.W.nsIn K mainGlobals "order" = some (some (.ref f49))) (l49 : K.lookup f49 = some ⟨oc49, od49, .func (fdOf "order" s_order kV49 dc49 pm49 an49 cd49 ct49), sl49⟩) (c49 : PySem.W.codeIn K cd49 "order" = true) (k49 : PySem.W.keepIn K (.ref f49) = true)
    {f52 : Addr} {od52 an52 : Option Addr} {sl52 : Array (Option Value)} {oc52 kV52 dc52 pm52 cd52 ct52 : Value}
    (a52 : PySem.W.nsIn K mainGlobals "is_row_of" = some (some (.ref f52))) (l52 : K.lookup f52 = some ⟨oc52, od52, .func (fdOf "is_row_of" s_is_row_of kV52 dc52 pm52 an52 cd52 ct52), sl52⟩) (c52 : PySem.W.codeIn K cd52 "is_row_of" = true) (k52 : PySem.W.keepIn K (.ref f52) = true)
    {f53 : Addr} {od53 an53 : Option Addr} {sl53 : Array (Option Value)} {oc53 kV53 dc53 pm53 cd53 ct53 : Value}
    (a53 : PySem.W.nsIn K mainGlobals "need_row" = some (some (.ref f53))) (l53 : K.lookup f53 = some ⟨oc53, od53, .func (fdOf "need_row" s_need_row kV53 dc53 pm53 an53 cd53 ct53), sl53⟩) (c53 : PySem.W.codeIn K cd53 "need_row" = true) (k53 : PySem.W.keepIn K (.ref f53) = true)
    {f54 : Addr} {od54 an54 : Option Addr} {sl54 : Array (Option Value)} {oc54 kV54 dc54 pm54 cd54 ct54 : Value}
    (a54 : PySem.W.nsIn K mainGlobals "value_by" = some (some (.ref f54))) (l54 : K.lookup f54 = some ⟨oc54, od54, .func (fdOf "value_by" s_value_by kV54 dc54 pm54 an54 cd54 ct54), sl54⟩) (c54 : PySem.W.codeIn K cd54 "value_by" = true) (k54 : PySem.W.keepIn K (.ref f54) = true)
    {f55 : Addr} {od55 an55 : Option Addr} {sl55 : Array (Option Value)} {oc55 kV55 dc55 pm55 cd55 ct55 : Value}
    (a55 : PySem.W.nsIn K mainGlobals "value_at" = some (some (.ref f55))) (l55 : K.lookup f55 = some ⟨oc55, od55, .func (fdOf "value_at" s_value_at kV55 dc55 pm55 an55 cd55 ct55), sl55⟩) (c55 : PySem.W.codeIn K cd55 "value_at" = true) (k55 : PySem.W.keepIn K (.ref f55) = true)
    {f57 : Addr} {od57 an57 : Option Addr} {sl57 : Array (Option Value)} {oc57 kV57 dc57 pm57 cd57 ct57 : Value}
    (a57 : PySem.W.nsIn K mainGlobals "weight" = some (some (.ref f57))) (l57 : K.lookup f57 = some ⟨oc57, od57, .func (fdOf "weight" s_weight kV57 dc57 pm57 an57 cd57 ct57), sl57⟩) (c57 : PySem.W.codeIn K cd57 "weight" = true) (k57 : PySem.W.keepIn K (.ref f57) = true)
    {f58 : Addr} {od58 an58 : Option Addr} {sl58 : Array (Option Value)} {oc58 kV58 dc58 pm58 cd58 ct58 : Value}
    (a58 : PySem.W.nsIn K mainGlobals "weights_by" = some (some (.ref f58))) (l58 : K.lookup f58 = some ⟨oc58, od58, .func (fdOf "weights_by" s_weights_by kV58 dc58 pm58 an58 cd58 ct58), sl58⟩) (c58 : PySem.W.codeIn K cd58 "weights_by" = true) (k58 : PySem.W.keepIn K (.ref f58) = true)
    {f59 : Addr} {od59 an59 : Option Addr} {sl59 : Array (Option Value)} {oc59 kV59 dc59 pm59 cd59 ct59 : Value}
    (a59 : PySem.W.nsIn K mainGlobals "code_of" = some (some (.ref f59))) (l59 : K.lookup f59 = some ⟨oc59, od59, .func (fdOf "code_of" s_code_of kV59 dc59 pm59 an59 cd59 ct59), sl59⟩) (c59 : PySem.W.codeIn K cd59 "code_of" = true) (k59 : PySem.W.keepIn K (.ref f59) = true)
    {f60 : Addr} {od60 an60 : Option Addr} {sl60 : Array (Option Value)} {oc60 kV60 dc60 pm60 cd60 ct60 : Value}
    (a60 : PySem.W.nsIn K mainGlobals "repeated" = some (some (.ref f60))) (l60 : K.lookup f60 = some ⟨oc60, od60, .func (fdOf "repeated" s_repeated kV60 dc60 pm60 an60 cd60 ct60), sl60⟩) (c60 : PySem.W.codeIn K cd60 "repeated" = true) (k60 : PySem.W.keepIn K (.ref f60) = true)
    {f61 : Addr} {od61 an61 : Option Addr} {sl61 : Array (Option Value)} {oc61 kV61 dc61 pm61 cd61 ct61 : Value}
    (a61 : PySem.W.nsIn K mainGlobals "share" = some (some (.ref f61))) (l61 : K.lookup f61 = some ⟨oc61, od61, .func (fdOf "share" s_share kV61 dc61 pm61 an61 cd61 ct61), sl61⟩) (c61 : PySem.W.codeIn K cd61 "share" = true) (k61 : PySem.W.keepIn K (.ref f61) = true)
    {f62 : Addr} {od62 an62 : Option Addr} {sl62 : Array (Option Value)} {oc62 kV62 dc62 pm62 cd62 ct62 : Value}
    (a62 : PySem.W.nsIn K mainGlobals "least_distance" = some (some (.ref f62))) (l62 : K.lookup f62 = some ⟨oc62, od62, .func (fdOf "least_distance" s_least_distance kV62 dc62 pm62 an62 cd62 ct62), sl62⟩) (c62 : PySem.W.codeIn K cd62 "least_distance" = true) (k62 : PySem.W.keepIn K (.ref f62) = true)
    {f63 : Addr} {od63 an63 : Option Addr} {sl63 : Array (Option Value)} {oc63 kV63 dc63 pm63 cd63 ct63 : Value}
    (a63 : PySem.W.nsIn K mainGlobals "dual_weights" = some (some (.ref f63))) (l63 : K.lookup f63 = some ⟨oc63, od63, .func (fdOf "dual_weights" s_dual_weights kV63 dc63 pm63 an63 cd63 ct63), sl63⟩) (c63 : PySem.W.codeIn K cd63 "dual_weights" = true) (k63 : PySem.W.keepIn K (.ref f63) = true)
    {f65 : Addr} {od65 an65 : Option Addr} {sl65 : Array (Option Value)} {oc65 kV65 dc65 pm65 cd65 ct65 : Value}
    (a65 : PySem.W.nsIn K mainGlobals "_law_begun" = some (some (.ref f65))) (l65 : K.lookup f65 = some ⟨oc65, od65, .func (fdOf "_law_begun" s__law_begun kV65 dc65 pm65 an65 cd65 ct65), sl65⟩) (c65 : PySem.W.codeIn K cd65 "_law_begun" = true) (k65 : PySem.W.keepIn K (.ref f65) = true)
    {f66 : Addr} {od66 an66 : Option Addr} {sl66 : Array (Option Value)} {oc66 kV66 dc66 pm66 cd66 ct66 : Value}
    (a66 : PySem.W.nsIn K mainGlobals "_law_mixed" = some (some (.ref f66))) (l66 : K.lookup f66 = some ⟨oc66, od66, .func (fdOf "_law_mixed" s__law_mixed kV66 dc66 pm66 an66 cd66 ct66), sl66⟩) (c66 : PySem.W.codeIn K cd66 "_law_mixed" = true) (k66 : PySem.W.keepIn K (.ref f66) = true)
    {f67 : Addr} {od67 an67 : Option Addr} {sl67 : Array (Option Value)} {oc67 kV67 dc67 pm67 cd67 ct67 : Value}
    (a67 : PySem.W.nsIn K mainGlobals "_law_take" = some (some (.ref f67))) (l67 : K.lookup f67 = some ⟨oc67, od67, .func (fdOf "_law_take" s__law_take kV67 dc67 pm67 an67 cd67 ct67), sl67⟩) (c67 : PySem.W.codeIn K cd67 "_law_take" = true) (k67 : PySem.W.keepIn K (.ref f67) = true)
    {f68 : Addr} {od68 an68 : Option Addr} {sl68 : Array (Option Value)} {oc68 kV68 dc68 pm68 cd68 ct68 : Value}
    (a68 : PySem.W.nsIn K mainGlobals "_law_pick" = some (some (.ref f68))) (l68 : K.lookup f68 = some ⟨oc68, od68, .func (fdOf "_law_pick" s__law_pick kV68 dc68 pm68 an68 cd68 ct68), sl68⟩) (c68 : PySem.W.codeIn K cd68 "_law_pick" = true) (k68 : PySem.W.keepIn K (.ref f68) = true)
    {f69 : Addr} {od69 an69 : Option Addr} {sl69 : Array (Option Value)} {oc69 kV69 dc69 pm69 cd69 ct69 : Value}
    (a69 : PySem.W.nsIn K mainGlobals "_law_kinds" = some (some (.ref f69))) (l69 : K.lookup f69 = some ⟨oc69, od69, .func (fdOf "_law_kinds" s__law_kinds kV69 dc69 pm69 an69 cd69 ct69), sl69⟩) (c69 : PySem.W.codeIn K cd69 "_law_kinds" = true) (k69 : PySem.W.keepIn K (.ref f69) = true)
    {f70 : Addr} {od70 an70 : Option Addr} {sl70 : Array (Option Value)} {oc70 kV70 dc70 pm70 cd70 ct70 : Value}
    (a70 : PySem.W.nsIn K mainGlobals "_law_says" = some (some (.ref f70))) (l70 : K.lookup f70 = some ⟨oc70, od70, .func (fdOf "_law_says" s__law_says kV70 dc70 pm70 an70 cd70 ct70), sl70⟩) (c70 : PySem.W.codeIn K cd70 "_law_says" = true) (k70 : PySem.W.keepIn K (.ref f70) = true)
    {f71 : Addr} {od71 an71 : Option Addr} {sl71 : Array (Option Value)} {oc71 kV71 dc71 pm71 cd71 ct71 : Value}
    (a71 : PySem.W.nsIn K mainGlobals "_law_doubled" = some (some (.ref f71))) (l71 : K.lookup f71 = some ⟨oc71, od71, .func (fdOf "_law_doubled" s__law_doubled kV71 dc71 pm71 an71 cd71 ct71), sl71⟩) (c71 : PySem.W.codeIn K cd71 "_law_doubled" = true) (k71 : PySem.W.keepIn K (.ref f71) = true)
    {f72 : Addr} {od72 an72 : Option Addr} {sl72 : Array (Option Value)} {oc72 kV72 dc72 pm72 cd72 ct72 : Value}
    (a72 : PySem.W.nsIn K mainGlobals "_law_sum" = some (some (.ref f72))) (l72 : K.lookup f72 = some ⟨oc72, od72, .func (fdOf "_law_sum" s__law_sum kV72 dc72 pm72 an72 cd72 ct72), sl72⟩) (c72 : PySem.W.codeIn K cd72 "_law_sum" = true) (k72 : PySem.W.keepIn K (.ref f72) = true)
    {f73 : Addr} {od73 an73 : Option Addr} {sl73 : Array (Option Value)} {oc73 kV73 dc73 pm73 cd73 ct73 : Value}
    (a73 : PySem.W.nsIn K mainGlobals "_law_size" = some (some (.ref f73))) (l73 : K.lookup f73 = some ⟨oc73, od73, .func (fdOf "_law_size" s__law_size kV73 dc73 pm73 an73 cd73 ct73), sl73⟩) (c73 : PySem.W.codeIn K cd73 "_law_size" = true) (k73 : PySem.W.keepIn K (.ref f73) = true)
    {f74 : Addr} {od74 an74 : Option Addr} {sl74 : Array (Option Value)} {oc74 kV74 dc74 pm74 cd74 ct74 : Value}
    (a74 : PySem.W.nsIn K mainGlobals "_law_trim" = some (some (.ref f74))) (l74 : K.lookup f74 = some ⟨oc74, od74, .func (fdOf "_law_trim" s__law_trim kV74 dc74 pm74 an74 cd74 ct74), sl74⟩) (c74 : PySem.W.codeIn K cd74 "_law_trim" = true) (k74 : PySem.W.keepIn K (.ref f74) = true)
    {f75 : Addr} {od75 an75 : Option Addr} {sl75 : Array (Option Value)} {oc75 kV75 dc75 pm75 cd75 ct75 : Value}
    (a75 : PySem.W.nsIn K mainGlobals "_law_right" = some (some (.ref f75))) (l75 : K.lookup f75 = some ⟨oc75, od75, .func (fdOf "_law_right" s__law_right kV75 dc75 pm75 an75 cd75 ct75), sl75⟩) (c75 : PySem.W.codeIn K cd75 "_law_right" = true) (k75 : PySem.W.keepIn K (.ref f75) = true)
    {f76 : Addr} {od76 an76 : Option Addr} {sl76 : Array (Option Value)} {oc76 kV76 dc76 pm76 cd76 ct76 : Value}
    (a76 : PySem.W.nsIn K mainGlobals "law" = some (some (.ref f76))) (l76 : K.lookup f76 = some ⟨oc76, od76, .func (fdOf "law" s_law kV76 dc76 pm76 an76 cd76 ct76), sl76⟩) (c76 : PySem.W.codeIn K cd76 "law" = true) (k76 : PySem.W.keepIn K (.ref f76) = true)
    (z_all : PySem.W.nsIn K mainGlobals "all" = some none)
    (z_bool : PySem.W.nsIn K mainGlobals "bool" = some none)
    (z_dict : PySem.W.nsIn K mainGlobals "dict" = some none)
    (z_enumerate : PySem.W.nsIn K mainGlobals "enumerate" = some none)
    (z_int : PySem.W.nsIn K mainGlobals "int" = some none)
    (z_isinstance : PySem.W.nsIn K mainGlobals "isinstance" = some none)
    (z_len : PySem.W.nsIn K mainGlobals "len" = some none)
    (z_list : PySem.W.nsIn K mainGlobals "list" = some none)
    (z_max : PySem.W.nsIn K mainGlobals "max" = some none)
    (z_min : PySem.W.nsIn K mainGlobals "min" = some none)
    (z_range : PySem.W.nsIn K mainGlobals "range" = some none)
    (z_repr : PySem.W.nsIn K mainGlobals "repr" = some none)
    (z_sorted : PySem.W.nsIn K mainGlobals "sorted" = some none)
    (z_str : PySem.W.nsIn K mainGlobals "str" = some none)
    (z_sum : PySem.W.nsIn K mainGlobals "sum" = some none)
    (z_tuple : PySem.W.nsIn K mainGlobals "tuple" = some none)
    (z_zip : PySem.W.nsIn K mainGlobals "zip" = some none)
    (a_comb : PySem.W.nsIn K mainGlobals "comb" = some (some (.builtin "math.comb")))
    {f14 : Addr} {od14 : Option Addr} {sl14 : Array (Option Value)} {n14 : Nat} {u14_0 u14_1 u14_2 u14_3 u14_4 u14_5 u14_6 : Tok} (a14 : PySem.W.nsIn K mainGlobals "SIZES" = some (some (.ref f14))) (l14 : K.lookup f14 = some ⟨.type "tuple", od14, .seq #[.int 2 u14_0, .int 4 u14_1, .int 16 u14_2, .int 256 u14_3, .int 65536 u14_4, .int 4294967296 u14_5, .int 18446744073709551616 u14_6] n14, sl14⟩)
    {t30 : Tok} (a30 : PySem.W.nsIn K mainGlobals "MOST_LEVEL" = some (some (.int 2 t30)))
    {t31 : Tok} (a31 : PySem.W.nsIn K mainGlobals "MOST_LENGTH" = some (some (.int 12 t31)))
    {t32 : Tok} (a32 : PySem.W.nsIn K mainGlobals "MOST_WORDS" = some (some (.int 4096 t32)))
    {f47 : Addr} {od47 : Option Addr} {sl47 : Array (Option Value)} {n47 : Nat} {u47_0 u47_1 u47_2 u47_3 u47_4 u47_5 u47_6 : Tok} (a47 : PySem.W.nsIn K mainGlobals "PRIMES" = some (some (.ref f47))) (l47 : K.lookup f47 = some ⟨.type "tuple", od47, .seq #[.int 3 u47_0, .int 5 u47_1, .int 17 u47_2, .int 257 u47_3, .int 641 u47_4, .int 65537 u47_5, .int 6700417 u47_6] n47, sl47⟩)
    {t51 : Tok} (a51 : PySem.W.nsIn K mainGlobals "MOST_DEGREE" = some (some (.int 16 t51)))
    : ∃ fd : FuncData, (∀ (s : Shared) (v : Value), BindsTo s fd ⟨[v], []⟩ [("script", v)]) ∧ ∀ base : Heap, K.In base → base.Ns mainGlobals mg → FnOk P w K mg base CX0 15 fa fd ["script"] (spLaw K) := by
  have e : fa = f76 := by have e := hfa.symm.trans (PySem.W.mg_of X G a76); cases e; rfl
  rw [e]
  have T : Txt K mg (pk [0, 0, 0, 0, 0, 0, 0, 0, 0, 0, 0, 0, 0, 0, f14, f15, f16, f17, f18, f19, f20, f21, f22, 0, f24, f25, f26, f27, f28, 0, 0, 0, 0, f33, f34, f35, f36, f37, f38, f39, f40, f41, f42, f43, f44, f45, 0, f47, f48, f49, 0, 0, f52, f53, f54, f55, 0, f57, f58, f59, f60, f61, f62, f63, 0, f65, f66, f67, f68, f69, f70, f71, f72, f73, f74, f75, f76] 0) (pk [fdOf "law" s_law kV76 dc76 pm76 an76 cd76 ct76, fdOf "law" s_law kV76 dc76 pm76 an76 cd76 ct76, fdOf "law" s_law kV76 dc76 pm76 an76 cd76 ct76, fdOf "law" s_law kV76 dc76 pm76 an76 cd76 ct76, fdOf "law" s_law kV76 dc76 pm76 an76 cd76 ct76, fdOf "law" s_law kV76 dc76 pm76 an76 cd76 ct76, fdOf "law" s_law kV76 dc76 pm76 an76 cd76 ct76, fdOf "law" s_law kV76 dc76 pm76 an76 cd76 ct76, fdOf "law" s_law kV76 dc76 pm76 an76 cd76 ct76, fdOf "law" s_law kV76 dc76 pm76 an76 cd76 ct76, fdOf "law" s_law kV76 dc76 pm76 an76 cd76 ct76, fdOf "law" s_law kV76 dc76 pm76 an76 cd76 ct76, fdOf "law" s_law kV76 dc76 pm76 an76 cd76 ct76, fdOf "law" s_law kV76 dc76 pm76 an76 cd76 ct76, fdOf "law" s_law kV76 dc76 pm76 an76 cd76 ct76, fdOf "is_whole" s_is_whole kV15 dc15 pm15 an15 cd15 ct15, fdOf "is_number_of" s_is_number_of kV16 dc16 pm16 an16 cd16 ct16, fdOf "refuse" s_refuse kV17 dc17 pm17 an17 cd17 ct17, fdOf "need_number" s_need_number kV18 dc18 pm18 an18 cd18 ct18, fdOf "need_level" s_need_level kV19 dc19 pm19 an19 cd19 ct19, fdOf "in_level" s_in_level kV20 dc20 pm20 an20 cd20 ct20, fdOf "need_in" s_need_in kV21 dc21 pm21 an21 cd21 ct21, fdOf "level_by" s_level_by kV22 dc22 pm22 an22 cd22 ct22, fdOf "law" s_law kV76 dc76 pm76 an76 cd76 ct76, fdOf "times_by" s_times_by kV24 dc24 pm24 an24 cd24 ct24, fdOf "times_within" s_times_within kV25 dc25 pm25 an25 cd25 ct25, fdOf "power_by" s_power_by kV26 dc26 pm26 an26 cd26 ct26, fdOf "inverse_by" s_inverse_by kV27 dc27 pm27 an27 cd27 ct27, fdOf "power" s_power kV28 dc28 pm28 an28 cd28 ct28, fdOf "law" s_law kV76 dc76 pm76 an76 cd76 ct76, fdOf "law" s_law kV76 dc76 pm76 an76 cd76 ct76, fdOf "law" s_law kV76 dc76 pm76 an76 cd76 ct76, fdOf "law" s_law kV76 dc76 pm76 an76 cd76 ct76, fdOf "need_small" s_need_small kV33 dc33 pm33 an33 cd33 ct33, fdOf "is_word_of" s_is_word_of kV34 dc34 pm34 an34 cd34 ct34, fdOf "are_rows_of" s_are_rows_of kV35 dc35 pm35 an35 cd35 ct35, fdOf "need_rows" s_need_rows kV36 dc36 pm36 an36 cd36 ct36, fdOf "need_word" s_need_word kV37 dc37 pm37 an37 cd37 ct37, fdOf "less" s_less kV38 dc38 pm38 an38 cd38 ct38, fdOf "lead_of" s_lead_of kV39 dc39 pm39 an39 cd39 ct39, fdOf "rows_by" s_rows_by kV40 dc40 pm40 an40 cd40 ct40, fdOf "words_by" s_words_by kV41 dc41 pm41 an41 cd41 ct41, fdOf "dual_by" s_dual_by kV42 dc42 pm42 an42 cd42 ct42, fdOf "reduced_rows" s_reduced_rows kV43 dc43 pm43 an43 cd43 ct43, fdOf "is_in" s_is_in kV44 dc44 pm44 an44 cd44 ct44, fdOf "dual_rows" s_dual_rows kV45 dc45 pm45 an45 cd45 ct45, fdOf "law" s_law kV76 dc76 pm76 an76 cd76 ct76, fdOf "law" s_law kV76 dc76 pm76 an76 cd76 ct76, fdOf "order_by" s_order_by kV48 dc48 pm48 an48 cd48 ct48, fdOf "order" s_order kV49 dc49 pm49 an49 cd49 ct49, fdOf "law" s_law kV76 dc76 pm76 an76 cd76 ct76, fdOf "law" s_law kV76 dc76 pm76 an76 cd76 ct76, fdOf "is_row_of" s_is_row_of kV52 dc52 pm52 an52 cd52 ct52, fdOf "need_row" s_need_row kV53 dc53 pm53 an53 cd53 ct53, fdOf "value_by" s_value_by kV54 dc54 pm54 an54 cd54 ct54, fdOf "value_at" s_value_at kV55 dc55 pm55 an55 cd55 ct55, fdOf "law" s_law kV76 dc76 pm76 an76 cd76 ct76, fdOf "weight" s_weight kV57 dc57 pm57 an57 cd57 ct57, fdOf "weights_by" s_weights_by kV58 dc58 pm58 an58 cd58 ct58, fdOf "code_of" s_code_of kV59 dc59 pm59 an59 cd59 ct59, fdOf "repeated" s_repeated kV60 dc60 pm60 an60 cd60 ct60, fdOf "share" s_share kV61 dc61 pm61 an61 cd61 ct61, fdOf "least_distance" s_least_distance kV62 dc62 pm62 an62 cd62 ct62, fdOf "dual_weights" s_dual_weights kV63 dc63 pm63 an63 cd63 ct63, fdOf "law" s_law kV76 dc76 pm76 an76 cd76 ct76, fdOf "_law_begun" s__law_begun kV65 dc65 pm65 an65 cd65 ct65, fdOf "_law_mixed" s__law_mixed kV66 dc66 pm66 an66 cd66 ct66, fdOf "_law_take" s__law_take kV67 dc67 pm67 an67 cd67 ct67, fdOf "_law_pick" s__law_pick kV68 dc68 pm68 an68 cd68 ct68, fdOf "_law_kinds" s__law_kinds kV69 dc69 pm69 an69 cd69 ct69, fdOf "_law_says" s__law_says kV70 dc70 pm70 an70 cd70 ct70, fdOf "_law_doubled" s__law_doubled kV71 dc71 pm71 an71 cd71 ct71, fdOf "_law_sum" s__law_sum kV72 dc72 pm72 an72 cd72 ct72, fdOf "_law_size" s__law_size kV73 dc73 pm73 an73 cd73 ct73, fdOf "_law_trim" s__law_trim kV74 dc74 pm74 an74 cd74 ct74, fdOf "_law_right" s__law_right kV75 dc75 pm75 an75 cd75 ct75, fdOf "law" s_law kV76 dc76 pm76 an76 cd76 ct76] (fdOf "law" s_law kV76 dc76 pm76 an76 cd76 ct76)) (pk [0, 0, 0, 0, 0, 0, 0, 0, 0, 0, 0, 0, 0, 0, 0, 0, 0, 0, 0, 0, 0, 0, 0, 0, 0, 0, 0, 0, 0, 0, t30, t31, t32, 0, 0, 0, 0, 0, 0, 0, 0, 0, 0, 0, 0, 0, 0, 0, 0, 0, 0, t51, 0, 0, 0, 0, 0, 0, 0, 0, 0, 0, 0, 0, 0, 0, 0, 0, 0, 0, 0, 0, 0, 0, 0, 0, 0] 0) := { 
    d_is_whole := def_mk X G (ps := ["thing"]) (fun _ _ _ _ _ _ us hl => match us, hl with | [_], _ => rfl) a15 l15 c15 k15
    d_is_number_of := def_mk X G (ps := ["thing"]) (fun _ _ _ _ _ _ us hl => match us, hl with | [_], _ => rfl) a16 l16 c16 k16
    d_refuse := def_mk X G (ps := ["word"]) (fun _ _ _ _ _ _ us hl => match us, hl with | [_], _ => rfl) a17 l17 c17 k17
    d_need_number := def_mk X G (ps := ["number", "word"]) (fun _ _ _ _ _ _ us hl => match us, hl with | [_, _], _ => rfl) a18 l18 c18 k18
    d_need_level := def_mk X G (ps := ["level"]) (fun _ _ _ _ _ _ us hl => match us, hl with | [_], _ => rfl) a19 l19 c19 k19
    d_in_level := def_mk X G (ps := ["level", "number"]) (fun _ _ _ _ _ _ us hl => match us, hl with | [_, _], _ => rfl) a20 l20 c20 k20
    d_need_in := def_mk X G (ps := ["level", "number", "word"]) (fun _ _ _ _ _ _ us hl => match us, hl with | [_, _, _], _ => rfl) a21 l21 c21 k21
    d_level_by := def_mk X G (ps := ["number"]) (fun _ _ _ _ _ _ us hl => match us, hl with | [_], _ => rfl) a22 l22 c22 k22
    d_times_by := def_mk X G (ps := ["one", "other"]) (fun _ _ _ _ _ _ us hl => match us, hl with | [_, _], _ => rfl) a24 l24 c24 k24
    d_times_within := def_mk X G (ps := ["level", "one", "other"]) (fun _ _ _ _ _ _ us hl => match us, hl with | [_, _, _], _ => rfl) a25 l25 c25 k25
    d_power_by := def_mk X G (ps := ["number", "exponent"]) (fun _ _ _ _ _ _ us hl => match us, hl with | [_, _], _ => rfl) a26 l26 c26 k26
    d_inverse_by := def_mk X G (ps := ["number"]) (fun _ _ _ _ _ _ us hl => match us, hl with | [_], _ => rfl) a27 l27 c27 k27
    d_power := def_mk X G (ps := ["number", "exponent"]) (fun _ _ _ _ _ _ us hl => match us, hl with | [_, _], _ => rfl) a28 l28 c28 k28
    d_need_small := def_mk X G (ps := ["level"]) (fun _ _ _ _ _ _ us hl => match us, hl with | [_], _ => rfl) a33 l33 c33 k33
    d_is_word_of := def_mk X G (ps := ["level", "thing"]) (fun _ _ _ _ _ _ us hl => match us, hl with | [_, _], _ => rfl) a34 l34 c34 k34
    d_are_rows_of := def_mk X G (ps := ["level", "thing"]) (fun _ _ _ _ _ _ us hl => match us, hl with | [_, _], _ => rfl) a35 l35 c35 k35
    d_need_rows := def_mk X G (ps := ["level", "rows"]) (fun _ _ _ _ _ _ us hl => match us, hl with | [_, _], _ => rfl) a36 l36 c36 k36
    d_need_word := def_mk X G (ps := ["level", "rows", "word"]) (fun _ _ _ _ _ _ us hl => match us, hl with | [_, _, _], _ => rfl) a37 l37 c37 k37
    d_less := def_mk X G (ps := ["word", "row", "number"]) (fun _ _ _ _ _ _ us hl => match us, hl with | [_, _, _], _ => rfl) a38 l38 c38 k38
    d_lead_of := def_mk X G (ps := ["word"]) (fun _ _ _ _ _ _ us hl => match us, hl with | [_], _ => rfl) a39 l39 c39 k39
    d_rows_by := def_mk X G (ps := ["rows"]) (fun _ _ _ _ _ _ us hl => match us, hl with | [_], _ => rfl) a40 l40 c40 k40
    d_words_by := def_mk X G (ps := ["level", "reduced", "length"]) (fun _ _ _ _ _ _ us hl => match us, hl with | [_, _, _], _ => rfl) a41 l41 c41 k41
    d_dual_by := def_mk X G (ps := ["reduced", "length"]) (fun _ _ _ _ _ _ us hl => match us, hl with | [_, _], _ => rfl) a42 l42 c42 k42
    d_reduced_rows := def_mk X G (ps := ["level", "rows"]) (fun _ _ _ _ _ _ us hl => match us, hl with | [_, _], _ => rfl) a43 l43 c43 k43
    d_is_in := def_mk X G (ps := ["level", "rows", "word"]) (fun _ _ _ _ _ _ us hl => match us, hl with | [_, _, _], _ => rfl) a44 l44 c44 k44
    d_dual_rows := def_mk X G (ps := ["level", "rows"]) (fun _ _ _ _ _ _ us hl => match us, hl with | [_, _], _ => rfl) a45 l45 c45 k45
    d_order_by := def_mk X G (ps := ["number"]) (fun _ _ _ _ _ _ us hl => match us, hl with | [_], _ => rfl) a48 l48 c48 k48
    d_order := def_mk X G (ps := ["number"]) (fun _ _ _ _ _ _ us hl => match us, hl with | [_], _ => rfl) a49 l49 c49 k49
    d_is_row_of := def_mk X G (ps := ["level", "thing"]) (fun _ _ _ _ _ _ us hl => match us, hl with | [_, _], _ => rfl) a52 l52 c52 k52
    d_need_row := def_mk X G (ps := ["level", "row", "word"]) (fun _ _ _ _ _ _ us hl => match us, hl with | [_, _, _], _ => rfl) a53 l53 c53 k53
    d_value_by := def_mk X G (ps := ["row", "number"]) (fun _ _ _ _ _ _ us hl => match us, hl with | [_, _], _ => rfl) a54 l54 c54 k54
    d_value_at := def_mk X G (ps := ["level", "row", "number"]) (fun _ _ _ _ _ _ us hl => match us, hl with | [_, _, _], _ => rfl) a55 l55 c55 k55
    d_weight := def_mk X G (ps := ["word"]) (fun _ _ _ _ _ _ us hl => match us, hl with | [_], _ => rfl) a57 l57 c57 k57
    d_weights_by := def_mk X G (ps := ["some", "length"]) (fun _ _ _ _ _ _ us hl => match us, hl with | [_, _], _ => rfl) a58 l58 c58 k58
    d_code_of := def_mk X G (ps := ["level", "rows"]) (fun _ _ _ _ _ _ us hl => match us, hl with | [_, _], _ => rfl) a59 l59 c59 k59
    d_repeated := def_mk X G (ps := ["number", "many"]) (fun _ _ _ _ _ _ us hl => match us, hl with | [_, _], _ => rfl) a60 l60 c60 k60
    d_share := def_mk X G (ps := ["size", "length", "at", "many"]) (fun _ _ _ _ _ _ us hl => match us, hl with | [_, _, _, _], _ => rfl) a61 l61 c61 k61
    d_least_distance := def_mk X G (ps := ["level", "rows"]) (fun _ _ _ _ _ _ us hl => match us, hl with | [_, _], _ => rfl) a62 l62 c62 k62
    d_dual_weights := def_mk X G (ps := ["level", "rows"]) (fun _ _ _ _ _ _ us hl => match us, hl with | [_, _], _ => rfl) a63 l63 c63 k63
    d__law_begun := def_mk X G (ps := ["script"]) (fun _ _ _ _ _ _ us hl => match us, hl with | [_], _ => rfl) a65 l65 c65 k65
    d__law_mixed := def_mk X G (ps := ["draw"]) (fun _ _ _ _ _ _ us hl => match us, hl with | [_], _ => rfl) a66 l66 c66 k66
    d__law_take := def_mk X G (ps := ["draw", "amount"]) (fun _ _ _ _ _ _ us hl => match us, hl with | [_, _], _ => rfl) a67 l67 c67 k67
    d__law_pick := def_mk X G (ps := ["draw", "items"]) (fun _ _ _ _ _ _ us hl => match us, hl with | [_, _], _ => rfl) a68 l68 c68 k68
    d__law_kinds := def_mk X G (ps := ["thing"]) (fun _ _ _ _ _ _ us hl => match us, hl with | [_], _ => rfl) a69 l69 c69 k69
    d__law_says := def_mk X G (ps := ["told", "due"]) (fun _ _ _ _ _ _ us hl => match us, hl with | [_, _], _ => rfl) a70 l70 c70 k70
    d__law_doubled := def_mk X G (ps := ["many"]) (fun _ _ _ _ _ _ us hl => match us, hl with | [_], _ => rfl) a71 l71 c71 k71
    d__law_sum := def_mk X G (ps := ["numbers"]) (fun _ _ _ _ _ _ us hl => match us, hl with | [_], _ => rfl) a72 l72 c72 k72
    d__law_size := def_mk X G (ps := ["level"]) (fun _ _ _ _ _ _ us hl => match us, hl with | [_], _ => rfl) a73 l73 c73 k73
    d__law_trim := def_mk X G (ps := ["numbers"]) (fun _ _ _ _ _ _ us hl => match us, hl with | [_], _ => rfl) a74 l74 c74 k74
    d__law_right := def_mk X G (ps := ["draw"]) (fun _ _ _ _ _ _ us hl => match us, hl with | [_], _ => rfl) a75 l75 c75 k75
    d_law := def_mk X G (ps := ["script"]) (fun _ _ _ _ _ _ us hl => match us, hl with | [_], _ => rfl) a76 l76 c76 k76
    b_all := PySem.W.mg_none_of X G z_all
    b_bool := PySem.W.mg_none_of X G z_bool
    b_dict := PySem.W.mg_none_of X G z_dict
    b_enumerate := PySem.W.mg_none_of X G z_enumerate
    b_int := PySem.W.mg_none_of X G z_int
    b_isinstance := PySem.W.mg_none_of X G z_isinstance
    b_len := PySem.W.mg_none_of X G z_len
    b_list := PySem.W.mg_none_of X G z_list
    b_max := PySem.W.mg_none_of X G z_max
    b_min := PySem.W.mg_none_of X G z_min
    b_range := PySem.W.mg_none_of X G z_range
    b_repr := PySem.W.mg_none_of X G z_repr
    b_sorted := PySem.W.mg_none_of X G z_sorted
    b_str := PySem.W.mg_none_of X G z_str
    b_sum := PySem.W.mg_none_of X G z_sum
    b_tuple := PySem.W.mg_none_of X G z_tuple
    b_zip := PySem.W.mg_none_of X G z_zip
    i_comb := PySem.W.mg_of X G a_comb
    g_SIZES := PySem.W.mg_of X G a14
    t_SIZES := .inr ⟨_, _, _, l14, rfl, rfl, by rw [sizeLine_eq]; simp, .cons ⟨_, rfl⟩ (.cons ⟨_, rfl⟩ (.cons ⟨_, rfl⟩ (.cons ⟨_, rfl⟩ (.cons ⟨_, rfl⟩ (.cons ⟨_, rfl⟩ (.cons ⟨_, rfl⟩ (.nil)))))))⟩
    g_MOST_LEVEL := PySem.W.mg_of X G a30
    g_MOST_LENGTH := PySem.W.mg_of X G a31
    g_MOST_WORDS := PySem.W.mg_of X G a32
    g_PRIMES := PySem.W.mg_of X G a47
    t_PRIMES := .inr ⟨_, _, _, l47, rfl, rfl, by rw [sizeLine_eq]; simp, .cons ⟨_, rfl⟩ (.cons ⟨_, rfl⟩ (.cons ⟨_, rfl⟩ (.cons ⟨_, rfl⟩ (.cons ⟨_, rfl⟩ (.cons ⟨_, rfl⟩ (.cons ⟨_, rfl⟩ (.nil)))))))⟩
    g_MOST_DEGREE := PySem.W.mg_of X G a51 }
  exact ⟨fdOf "law" s_law kV76 dc76 pm76 an76 cd76 ct76, fun s v => .of_eq rfl, fun base _ _ => ok_law T⟩
theorem walk {l : PySem.W.OpenLaw} {q : Program} {loose : List Str} {XP : (Str → Option Value) → Heap → Prop} {YP : World → Heap → Prop} {d : DefRec} {K : Params → PySem.W.Frag} (hn : l.most = some 63) (hdf : d.params.defaults = [])
    (hY : ∀ (w : World) (h : Heap), YP w h → (K w.params).In h)
    (F : ∀ (w : World) (mg : Str → Option Value) (fa : Addr) (h : Heap), (K w.params).In h → h.Ns mainGlobals mg → mg d.name = some (.ref fa) →
      ∃ fd : FuncData, (∀ (s : Shared) (u : Value), BindsTo s fd ⟨[u], []⟩ [("script", u)]) ∧ ∀ base : Heap, (K w.params).In base → base.Ns mainGlobals mg → FnOk l.prog w (K w.params) mg base CX0 15 fa fd ["script"] (spLaw (K w.params))) :
    PySem.W.WalkO q loose XP YP l.row.toRowW d [] (fun f vs => PySem.call f vs) :=
  L2.walk_ofB (n := 63) (k := 15) (x := "script") (CX := fun _ => CX0) (sp := fun w => spLaw (K w.params)) hn (by decide) hdf ⟨rfl, by decide, by decide⟩ hY F (fun _ _ a ns hl hb _ hS => ⟨a, ns, rfl, hS, hl, hb, fun _ => rfl⟩) fun _ _ _ _ _ z => z
end M
open PySem PySem.W PyProof.Rows
set_option maxRecDepth 100000 in
set_option maxHeartbeats 0 in
theorem PySem.Challenge.cw_nimfield_k85_across_powers_and_duals_holds : PySem.Challenge.rw_nimfield_k85_across_powers_and_duals.Holds := by
  w_on; o_law; k_head; (case hw => w_witness2)
  k_fill
  refine M.walk (l := PySem.Challenge.rw_nimfield_k85_across_powers_and_duals) rfl rfl (fun w h Y => by first | exact PySem.W.kIn_of Y | exact PySem.W.km_in_of Y) ?F
  case F =>
    intro w mg fa h KX G hmg
    refine' M.all_mk KX G hmg ?a15 ?l15 ?c15 ?k15 ?a16 ?l16 ?c16 ?k16 ?a17 ?l17 ?c17 ?k17 ?a18 ?l18 ?c18 ?k18 ?a19 ?l19 ?c19 ?k19 ?a20 ?l20 ?c20 ?k20 ?a21 ?l21 ?c21 ?k21 ?a22 ?l22 ?c22 ?k22 ?a24 ?l24 ?c24 ?k24 ?a25 ?l25 ?c25 ?k25 ?a26 ?l26 ?c26 ?k26 ?a27 ?l27 ?c27 ?k27 ?a28 ?l28 ?c28 ?k28 ?a33 ?l33 ?c33 ?k33 ?a34 ?l34 ?c34 ?k34 ?a35 ?l35 ?c35 ?k35 ?a36 ?l36 ?c36 ?k36 ?a37 ?l37 ?c37 ?k37 ?a38 ?l38 ?c38 ?k38 ?a39 ?l39 ?c39 ?k39 ?a40 ?l40 ?c40 ?k40 ?a41 ?l41 ?c41 ?k41 ?a42 ?l42 ?c42 ?k42 ?a43 ?l43 ?c43 ?k43 ?a44 ?l44 ?c44 ?k44 ?a45 ?l45 ?c45 ?k45 ?a48 ?l48 ?c48 ?k48 ?a49 ?l49 ?c49 ?k49 ?a52 ?l52 ?c52 ?k52 ?a53 ?l53 ?c53 ?k53 ?a54 ?l54 ?c54 ?k54 ?a55 ?l55 ?c55 ?k55 ?a57 ?l57 ?c57 ?k57 ?a58 ?l58 ?c58 ?k58 ?a59 ?l59 ?c59 ?k59 ?a60 ?l60 ?c60 ?k60 ?a61 ?l61 ?c61 ?k61 ?a62 ?l62 ?c62 ?k62 ?a63 ?l63 ?c63 ?k63 ?a65 ?l65 ?c65 ?k65 ?a66 ?l66 ?c66 ?k66 ?a67 ?l67 ?c67 ?k67 ?a68 ?l68 ?c68 ?k68 ?a69 ?l69 ?c69 ?k69 ?a70 ?l70 ?c70 ?k70 ?a71 ?l71 ?c71 ?k71 ?a72 ?l72 ?c72 ?k72 ?a73 ?l73 ?c73 ?k73 ?a74 ?l74 ?c74 ?k74 ?a75 ?l75 ?c75 ?k75 ?a76 ?l76 ?c76 ?k76 ?z_all ?z_bool ?z_dict ?z_enumerate ?z_int ?z_isinstance ?z_len ?z_list ?z_max ?z_min ?z_range ?z_repr ?z_sorted ?z_str ?z_sum ?z_tuple ?z_zip ?a_comb ?a14 ?l14 ?a30 ?a31 ?a32 ?a47 ?l47 ?a51
    (case a15 => k_is); (case l15 => k_is); (case c15 => k_is); (case k15 => k_is)
    (case a16 => k_is); (case l16 => k_is); (case c16 => k_is); (case k16 => k_is)
    (case a17 => k_is); (case l17 => k_is); (case c17 => k_is); (case k17 => k_is)
    (case a18 => k_is); (case l18 => k_is); (case c18 => k_is); (case k18 => k_is)
    (case a19 => k_is); (case l19 => k_is); (case c19 => k_is); (case k19 => k_is)
    (case a20 => k_is); (case l20 => k_is); (case c20 => k_is); (case k20 => k_is)
    (case a21 => k_is); (case l21 => k_is); (case c21 => k_is); (case k21 => k_is)
    (case a22 => k_is); (case l22 => k_is); (case c22 => k_is); (case k22 => k_is)
    (case a24 => k_is); (case l24 => k_is); (case c24 => k_is); (case k24 => k_is)
    (case a25 => k_is); (case l25 => k_is); (case c25 => k_is); (case k25 => k_is)
    (case a26 => k_is); (case l26 => k_is); (case c26 => k_is); (case k26 => k_is)
    (case a27 => k_is); (case l27 => k_is); (case c27 => k_is); (case k27 => k_is)
    (case a28 => k_is); (case l28 => k_is); (case c28 => k_is); (case k28 => k_is)
    (case a33 => k_is); (case l33 => k_is); (case c33 => k_is); (case k33 => k_is)
    (case a34 => k_is); (case l34 => k_is); (case c34 => k_is); (case k34 => k_is)
    (case a35 => k_is); (case l35 => k_is); (case c35 => k_is); (case k35 => k_is)
    (case a36 => k_is); (case l36 => k_is); (case c36 => k_is); (case k36 => k_is)
    (case a37 => k_is); (case l37 => k_is); (case c37 => k_is); (case k37 => k_is)
    (case a38 => k_is); (case l38 => k_is); (case c38 => k_is); (case k38 => k_is)
    (case a39 => k_is); (case l39 => k_is); (case c39 => k_is); (case k39 => k_is)
    (case a40 => k_is); (case l40 => k_is); (case c40 => k_is); (case k40 => k_is)
    (case a41 => k_is); (case l41 => k_is); (case c41 => k_is); (case k41 => k_is)
    (case a42 => k_is); (case l42 => k_is); (case c42 => k_is); (case k42 => k_is)
    (case a43 => k_is); (case l43 => k_is); (case c43 => k_is); (case k43 => k_is)
    (case a44 => k_is); (case l44 => k_is); (case c44 => k_is); (case k44 => k_is)
    (case a45 => k_is); (case l45 => k_is); (case c45 => k_is); (case k45 => k_is)
    (case a48 => k_is); (case l48 => k_is); (case c48 => k_is); (case k48 => k_is)
    (case a49 => k_is); (case l49 => k_is); (case c49 => k_is); (case k49 => k_is)
    (case a52 => k_is); (case l52 => k_is); (case c52 => k_is); (case k52 => k_is)
    (case a53 => k_is); (case l53 => k_is); (case c53 => k_is); (case k53 => k_is)
    (case a54 => k_is); (case l54 => k_is); (case c54 => k_is); (case k54 => k_is)
    (case a55 => k_is); (case l55 => k_is); (case c55 => k_is); (case k55 => k_is)
    (case a57 => k_is); (case l57 => k_is); (case c57 => k_is); (case k57 => k_is)
    (case a58 => k_is); (case l58 => k_is); (case c58 => k_is); (case k58 => k_is)
    (case a59 => k_is); (case l59 => k_is); (case c59 => k_is); (case k59 => k_is)
    (case a60 => k_is); (case l60 => k_is); (case c60 => k_is); (case k60 => k_is)
    (case a61 => k_is); (case l61 => k_is); (case c61 => k_is); (case k61 => k_is)
    (case a62 => k_is); (case l62 => k_is); (case c62 => k_is); (case k62 => k_is)
    (case a63 => k_is); (case l63 => k_is); (case c63 => k_is); (case k63 => k_is)
    (case a65 => k_is); (case l65 => k_is); (case c65 => k_is); (case k65 => k_is)
    (case a66 => k_is); (case l66 => k_is); (case c66 => k_is); (case k66 => k_is)
    (case a67 => k_is); (case l67 => k_is); (case c67 => k_is); (case k67 => k_is)
    (case a68 => k_is); (case l68 => k_is); (case c68 => k_is); (case k68 => k_is)
    (case a69 => k_is); (case l69 => k_is); (case c69 => k_is); (case k69 => k_is)
    (case a70 => k_is); (case l70 => k_is); (case c70 => k_is); (case k70 => k_is)
    (case a71 => k_is); (case l71 => k_is); (case c71 => k_is); (case k71 => k_is)
    (case a72 => k_is); (case l72 => k_is); (case c72 => k_is); (case k72 => k_is)
    (case a73 => k_is); (case l73 => k_is); (case c73 => k_is); (case k73 => k_is)
    (case a74 => k_is); (case l74 => k_is); (case c74 => k_is); (case k74 => k_is)
    (case a75 => k_is); (case l75 => k_is); (case c75 => k_is); (case k75 => k_is)
    (case a76 => k_is); (case l76 => k_is); (case c76 => k_is); (case k76 => k_is)
    (case z_all => k_is)
    (case z_bool => k_is)
    (case z_dict => k_is)
    (case z_enumerate => k_is)
    (case z_int => k_is)
    (case z_isinstance => k_is)
    (case z_len => k_is)
    (case z_list => k_is)
    (case z_max => k_is)
    (case z_min => k_is)
    (case z_range => k_is)
    (case z_repr => k_is)
    (case z_sorted => k_is)
    (case z_str => k_is)
    (case z_sum => k_is)
    (case z_tuple => k_is)
    (case z_zip => k_is)
    (case a_comb => k_is)
    (case a14 => k_is); (case l14 => k_is)
    (case a30 => k_is)
    (case a31 => k_is)
    (case a32 => k_is)
    (case a47 => k_is); (case l47 => k_is)
    (case a51 => k_is)
