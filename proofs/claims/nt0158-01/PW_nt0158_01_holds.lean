import PyProof.Rows.All
import Wide.All
import OpenK.AllK
import Wide.FinOn
import PySem.Challenge.RW_nt0158_01
open PySem PySem.W PyProof.Rows
set_option Elab.async false
set_option maxRecDepth 100000
set_option maxHeartbeats 8000000
/-! THE LAW nt0158-01 (short_power): the head once (hd), the plain functions and the plain law, one contract for each def, the law's walk. -/
namespace Mine
open_top hd for PySem.Challenge.rw_nt0158_01
end Mine
/-! text S0 -/
namespace Mine
open PySem.Builtin (bitAnd)
open PySem.Builtin.Int (intBits)

/-! what each def of the text reckons, as plain functions -/
def absF (x : Int) : Int := if x < 0 then -x else x
def sgnF (x : Int) : Int := PyProof.Rows.b2i (decide (0 < x)) - PyProof.Rows.b2i (decide (x < 0))
def zF (M : Int) : Int := (intBits (bitAnd M (0 - M)) : Int) - 1
def leanF (M X : Int) : Int × Int := if M = 0 then (0, 0) else (M.fdiv (2 ^ (zF M).toNat), X + zF M)
def nearF (n g : Int) : Int :=
  if 1 * 2 ^ (g - 1).toNat < bitAnd n (1 * 2 ^ g.toNat - 1) ∨ (bitAnd n (1 * 2 ^ g.toNat - 1) = 1 * 2 ^ (g - 1).toNat ∧ bitAnd (n.fdiv (2 ^ g.toNat)) 1 = 1)
  then n.fdiv (2 ^ g.toNat) + 1 else n.fdiv (2 ^ g.toNat)
def srF (p P Y : Int) : Int × Int :=
  if (intBits (absF P) : Int) - p ≤ 0 then leanF P Y
  else leanF (sgnF P * nearF (absF P) ((intBits (absF P) : Int) - p)) (Y + ((intBits (absF P) : Int) - p))
def shF (p τ N : Int) : Int := p + 2 + (intBits (absF N) : Int) - (intBits (absF τ) : Int)
def stF (k r : Int) : Int := 2 * k + (if r ≠ 0 then 1 else 0)
def rdF (p τ N : Int) : Int × Int :=
  srF p (sgnF τ * stF ((absF τ * 2 ^ (shF p τ N).toNat).fdiv N) ((absF τ * 2 ^ (shF p τ N).toNat).fmod N)) (0 - shF p τ N - 1)
def powF (M t : Int) : Int := M ^ (absF t).toNat
def spF (p M X t : Int) : Int × Int :=
  if 0 ≤ t then srF p (powF M t) (X * t)
  else leanF (rdF p (if 0 < powF M t then 1 else -1) (absF (powF M t))).1 ((rdF p (if 0 < powF M t then 1 else -1) (absF (powF M t))).2 + X * t)

def lrE (p top bottom : Int) : Int := (intBits top : Int) - (intBits bottom : Int) - p
def lrT (p top bottom : Int) : Int := if 0 < lrE p top bottom then top else top * 2 ^ (0 - lrE p top bottom).toNat
def lrB (p top bottom : Int) : Int := if 0 < lrE p top bottom then bottom * 2 ^ (lrE p top bottom).toNat else bottom
def lrU (p top bottom : Int) : Int × Int :=
  if lrB p top bottom * 2 ^ p.toNat ≤ lrT p top bottom then (2 * lrB p top bottom, lrE p top bottom + 1) else (lrB p top bottom, lrE p top bottom)
def lrM (p top bottom : Int) : Int :=
  let b := (lrU p top bottom).1
  let r := (lrT p top bottom).fmod b
  let m := (lrT p top bottom).fdiv b
  if b < 2 * r ∨ (2 * r = b ∧ m.fmod 2 = 1) then m + 1 else m
def lrF (p top bottom : Int) : Int × Int := leanF (lrM p top bottom) (lrU p top bottom).2
def dueF (p M X t : Int) : Int × Int :=
  ((lrF p (if 0 ≤ t then powF M t else 1) (if 0 ≤ t then 1 else powF M t)).1, (lrF p (if 0 ≤ t then powF M t else 1) (if 0 ≤ t then 1 else powF M t)).2 + X * t)

def allI (lo : Int) (n : Nat) (q : Int → Bool) : Bool := (List.range n).all fun i => q (lo + i)
def lawAt (p M t : Int) : Bool :=
  spF p M 0 t == dueF p M 0 t && spF p (0 - M) 0 t == (if t.fmod 2 = 0 then (dueF p M 0 t).1 else 0 - (dueF p M 0 t).1, (dueF p M 0 t).2)
def lawP (p : Int) : Bool := allI 1 (2 ^ p.toNat - 1) fun M => allI (-7) 15 fun t => lawAt p M t
theorem law2 : lawP 2 = true := by decide +kernel
theorem law3 : lawP 3 = true := by decide +kernel
theorem law4 : lawP 4 = true := by decide +kernel
end Mine
/-! text L0 -/
namespace Mine
open PySem.Builtin (bitAnd)
open PySem.Builtin.Int (intBits)

theorem low_facts : ∀ (n : Nat) (M : Int), M.natAbs = n → M ≠ 0 → 1 ≤ bitAnd M (0 - M) ∧ bitAnd M (0 - M) ≤ M.natAbs := by
  intro n
  induction n using Nat.strongRecOn with
  | ind n ih =>
    intro M hM h0
    have hh := kbt_halves M (0 - M)
    rcases Int.emod_two_eq M with h | h
    · have e : (0 - M) / 2 = 0 - M / 2 := by omega
      rw [e, if_neg (by omega)] at hh
      have := ih (M / 2).natAbs (by omega) (M / 2) rfl (by omega)
      omega
    · have e : (0 - M) / 2 = Builtin.bitNot (M / 2) := by show _ = -(M / 2) - 1; omega
      rw [e, bitAnd_not, bitAnd_self, if_pos (by omega)] at hh
      omega
theorem low_pos {M : Int} (h : M ≠ 0) : 1 ≤ bitAnd M (0 - M) := (low_facts _ M rfl h).1
theorem low_le {M : Int} (h : M ≠ 0) : bitAnd M (0 - M) ≤ M.natAbs := (low_facts _ M rfl h).2
theorem bits_pos {x : Int} (h : x ≠ 0) : 1 ≤ intBits x := by
  unfold intBits
  have : (x == 0) = false := by simpa using h
  rw [this]; simp
theorem bits_nonneg (x : Int) : (0 : Int) ≤ (intBits x : Int) := Int.natCast_nonneg _
theorem bits_le {x : Int} {m : Nat} (h : x.natAbs < 2 ^ m) : (intBits x : Int) ≤ (m : Int) := by
  have := (PySem.intBits_le_iff (m := m) (x := x)).mpr h
  omega
theorem and_self_neg_pos {M : Int} (h : M ≠ 0) : 1 ≤ intBits (bitAnd M (0 - M)) := bits_pos (by have := low_pos h; omega)
theorem zF_facts {M : Int} {m : Nat} (h : M ≠ 0) (hM : M.natAbs < 2 ^ m) : 0 ≤ zF M ∧ zF M < m := by
  unfold zF
  have h1 := and_self_neg_pos h
  have h2 := low_le h
  have h3 := low_pos h
  have := bits_le (x := bitAnd M (0 - M)) (m := m) (by omega)
  omega
theorem pow2_pos (k : Nat) : (0 : Int) < 2 ^ k := kbt_pos k
theorem fdiv_natAbs (M : Int) (k : Nat) : (M.fdiv (2 ^ k)).natAbs ≤ M.natAbs := by
  have hp := pow2_pos k
  have f := fdiv_fmod_facts M (2 ^ k)
  have f2 := f.2.2.1 hp
  have g := quot_bounds hp f.1 f2.1 f2.2
  omega
theorem fdiv_nonneg2 {M : Int} (h : 0 ≤ M) (k : Nat) : 0 ≤ M.fdiv (2 ^ k) := by
  rw [Int.fdiv_eq_ediv_of_nonneg _ (Int.le_of_lt (pow2_pos k))]
  exact Int.ediv_nonneg h (Int.le_of_lt (pow2_pos k))
theorem near_facts {n g : Int} (h : 0 ≤ n) : 0 ≤ nearF n g ∧ nearF n g ≤ n + 1 := by
  unfold nearF
  have h1 := fdiv_natAbs n g.toNat
  have h2 := fdiv_nonneg2 h g.toNat
  split <;> omega
theorem sgn_facts (x : Int) : sgnF x = 1 ∨ sgnF x = 0 ∨ sgnF x = -1 := by
  unfold sgnF
  by_cases h : 0 < x <;> by_cases h' : x < 0 <;> simp [h, h', b2i]
theorem lean_fst (M X : Int) : (leanF M X).1.natAbs ≤ M.natAbs := by
  unfold leanF
  split
  · simp
  · exact fdiv_natAbs M _
theorem lean_snd {M X lo hi : Int} {m : Nat} (hM : M.natAbs < 2 ^ m) (h1 : lo ≤ X) (h2 : X ≤ hi) (h3 : lo ≤ 0) (h4 : 0 ≤ hi) : lo ≤ (leanF M X).2 ∧ (leanF M X).2 ≤ hi + m := by
  unfold leanF
  split
  · show lo ≤ (0 : Int) ∧ (0 : Int) ≤ hi + m; omega
  · rename_i h
    have := zF_facts h hM
    show lo ≤ X + zF M ∧ X + zF M ≤ hi + m
    omega
theorem absF_natAbs (x : Int) : (absF x).natAbs = x.natAbs := by unfold absF; split <;> omega
theorem absF_nonneg (x : Int) : 0 ≤ absF x := by unfold absF; split <;> omega
theorem sgn_mul_natAbs (P n : Int) (h : 0 ≤ n) (m : Int) (hm : n ≤ m) : (sgnF P * n).natAbs ≤ m.natAbs := by
  rcases sgn_facts P with e | e | e <;> rw [e]
  · rw [Int.one_mul]; omega
  · rw [Int.zero_mul]; simp
  · rw [Int.neg_mul, Int.one_mul]; omega
theorem sgn_near {P p : Int} : (sgnF P * nearF (absF P) ((intBits (absF P) : Int) - p)).natAbs ≤ P.natAbs + 1 := by
  have h0 := absF_nonneg P
  have h1 := near_facts (g := (intBits (absF P) : Int) - p) h0
  have h2 := sgn_mul_natAbs P _ h1.1 _ h1.2
  have h3 := absF_natAbs P
  omega
theorem sr_fst (p P Y : Int) : (srF p P Y).1.natAbs ≤ P.natAbs + 1 := by
  unfold srF
  split
  · exact Nat.le_trans (lean_fst _ _) (Nat.le_succ _)
  · exact Nat.le_trans (lean_fst _ _) sgn_near
theorem sr_snd {p P Y lo hi : Int} (hp : 0 ≤ p) (hP : P.natAbs < 2 ^ 62) (h1 : lo ≤ Y) (h2 : Y ≤ hi) (h3 : lo ≤ 0) (h4 : 0 ≤ hi) : lo ≤ (srF p P Y).2 ∧ (srF p P Y).2 ≤ hi + 130 := by
  unfold srF
  have hb := bits_le (x := absF P) (m := 62) (by rw [absF_natAbs]; exact hP)
  split
  · have := lean_snd (M := P) (X := Y) (lo := lo) (hi := hi) (m := 64) (by omega) h1 h2 h3 h4
    omega
  · have h5 := sgn_near (P := P) (p := p)
    have := lean_snd (M := sgnF P * nearF (absF P) ((intBits (absF P) : Int) - p)) (X := Y + ((intBits (absF P) : Int) - p)) (lo := lo) (hi := hi + 62) (m := 64) (by omega) (by omega) (by omega) h3 (by omega)
    omega
theorem srF_le {p P Y : Int} (h : (intBits (absF P) : Int) - p ≤ 0) : leanF P Y = srF p P Y := by unfold srF; rw [if_pos h]
theorem srF_gt {p P Y : Int} (h : ¬ (intBits (absF P) : Int) - p ≤ 0) : leanF (sgnF P * nearF (absF P) ((intBits (absF P) : Int) - p)) (Y + ((intBits (absF P) : Int) - p)) = srF p P Y := by unfold srF; rw [if_neg h]
end Mine
namespace Mine
open PySem.Builtin (bitAnd)
open PySem.Builtin.Int (intBits)
theorem noPy {x y : Int} (h : y.natAbs < 2 ^ 100) : Builtin.divisionGoesByPylong x y = false := by
  refine PyProof.noPylong_of_log2 ?_
  by_cases h0 : y.natAbs = 0
  · rw [h0]; decide +kernel
  · have := (Nat.log2_lt h0).mpr h
    omega
theorem rd_num {p τ N : Int} (hp2 : p ≤ 10) (hτ : τ = 1 ∨ τ = -1) (hN : 1 ≤ N) (hN2 : N < 2 ^ 43) :
    0 ≤ absF τ * 2 ^ (shF p τ N).toNat ∧ absF τ * 2 ^ (shF p τ N).toNat ≤ 2 ^ 55 := by
  have hb := bits_le (m := 43) (x := absF N) (by rw [absF_natAbs]; omega)
  have hb0 := bits_nonneg (absF τ)
  have e : absF τ = 1 := by unfold absF; split <;> omega
  have h : (shF p τ N).toNat ≤ 55 := by unfold shF; omega
  have h2 : 2 ^ (shF p τ N).toNat ≤ 2 ^ 55 := Nat.pow_le_pow_right (by decide) h
  have hc := kbt_cast (shF p τ N).toNat
  have hp := pow2_pos (shF p τ N).toNat
  rw [e, Int.one_mul]
  generalize (2 : Int) ^ (shF p τ N).toNat = z at *
  generalize 2 ^ (shF p τ N).toNat = y at *
  omega
theorem fdiv_bounds {a b : Int} (ha : 0 ≤ a) (hb : 1 ≤ b) : 0 ≤ a.fdiv b ∧ a.fdiv b ≤ a := by
  rw [Int.fdiv_eq_ediv_of_nonneg _ (by omega)]
  exact ⟨Int.ediv_nonneg ha (by omega), Int.ediv_le_self _ ha⟩
theorem rd_arg {p τ N : Int} (hp2 : p ≤ 10) (hτ : τ = 1 ∨ τ = -1) (hN : 1 ≤ N) (hN2 : N < 2 ^ 43) (c : Int) (h0 : 0 ≤ c) (h1 : c ≤ 1) :
    (sgnF τ * (2 * (absF τ * 2 ^ (shF p τ N).toNat).fdiv N + c)).natAbs < 2 ^ 62 := by
  have h := rd_num (p := p) hp2 hτ hN hN2
  have h2 := fdiv_bounds h.1 hN
  have h3 := sgn_mul_natAbs τ (2 * (absF τ * 2 ^ (shF p τ N).toNat).fdiv N + c) (by omega) (2 ^ 56 + 1) (by omega)
  omega
theorem rdF_1 {p τ N : Int} (h : ((absF τ * 2 ^ (shF p τ N).toNat).fmod N ≠ 0)) : srF p (sgnF τ * (2 * (absF τ * 2 ^ (shF p τ N).toNat).fdiv N + 1)) (0 - shF p τ N - 1) = rdF p τ N := by
  unfold rdF stF; rw [if_pos h]
theorem rdF_0 {p τ N : Int} (h : (absF τ * 2 ^ (shF p τ N).toNat).fmod N = 0) : srF p (sgnF τ * (2 * (absF τ * 2 ^ (shF p τ N).toNat).fdiv N + 0)) (0 - shF p τ N - 1) = rdF p τ N := by
  unfold rdF stF; rw [if_neg (by simpa using h)]
end Mine
namespace Mine
theorem mul_sgn (x y : Int) : IntMulOk (b2i (decide (0 < x)) - b2i (decide (x < 0))) y :=
  IntMulOk.of_left (PySem.intBits_le_iff.mpr (by rcases sgn_facts x with e | e | e <;> (unfold sgnF at e; rw [e]; decide)))
end Mine
/-! text L1 -/
namespace Mine
open PySem.Builtin (bitAnd)
open PySem.Builtin.Int (intBits)
theorem powF_facts {M t : Int} (h0 : M ≠ 0) (h1 : -64 < M) (h2 : M < 64) (h3 : -7 ≤ t) (h4 : t ≤ 7) : powF M t ≠ 0 ∧ (powF M t).natAbs < 2 ^ 43 := by
  unfold powF
  have hk : (absF t).toNat ≤ 7 := by unfold absF; split <;> omega
  generalize (absF t).toNat = k at hk
  have e : (M ^ k).natAbs = M.natAbs ^ k := Int.natAbs_pow M k
  have hm : M.natAbs ≤ 63 := by omega
  have hm1 : 1 ≤ M.natAbs := by omega
  have a1 : M.natAbs ^ k ≤ 63 ^ k := Nat.pow_le_pow_left hm k
  have a2 : 63 ^ k ≤ 63 ^ 7 := Nat.pow_le_pow_right (by decide) hk
  have a3 : 63 ^ 7 < 2 ^ 43 := by decide
  have a4 : 0 < M.natAbs ^ k := Nat.pow_pos hm1
  refine ⟨fun h => ?_, by omega⟩
  rw [h] at e
  have e0 : (0 : Int).natAbs = 0 := rfl
  omega
theorem mul_t {X t : Int} (h1 : -100 ≤ X) (h2 : X ≤ 100) (h3 : -7 ≤ t) (h4 : t ≤ 7) : -700 ≤ X * t ∧ X * t ≤ 700 := by
  have hc : t = -7 ∨ t = -6 ∨ t = -5 ∨ t = -4 ∨ t = -3 ∨ t = -2 ∨ t = -1 ∨ t = 0 ∨ t = 1 ∨ t = 2 ∨ t = 3 ∨ t = 4 ∨ t = 5 ∨ t = 6 ∨ t = 7 := by omega
  rcases hc with rfl | rfl | rfl | rfl | rfl | rfl | rfl | rfl | rfl | rfl | rfl | rfl | rfl | rfl | rfl <;> omega
theorem rd_out {p τ N : Int} (hp : 0 ≤ p) (hp2 : p ≤ 10) (hτ : τ = 1 ∨ τ = -1) (hN : 1 ≤ N) (hN2 : N < 2 ^ 43) :
    (rdF p τ N).1.natAbs < 2 ^ 63 ∧ -100 ≤ (rdF p τ N).2 ∧ (rdF p τ N).2 ≤ 200 := by
  have hb := bits_le (m := 43) (x := absF N) (by rw [absF_natAbs]; omega)
  have hb0 := bits_nonneg (absF N)
  have hb1 := bits_le (m := 1) (x := absF τ) (by rw [absF_natAbs]; omega)
  have hb10 := bits_nonneg (absF τ)
  have hs : -2 ≤ shF p τ N ∧ shF p τ N ≤ 60 := by unfold shF; omega
  have key : ∀ c : Int, 0 ≤ c → c ≤ 1 → ∀ P, P = sgnF τ * (2 * (absF τ * 2 ^ (shF p τ N).toNat).fdiv N + c) → (srF p P (0 - shF p τ N - 1)).1.natAbs < 2 ^ 63 ∧ -100 ≤ (srF p P (0 - shF p τ N - 1)).2 ∧ (srF p P (0 - shF p τ N - 1)).2 ≤ 200 := by
    intro c h0 h1 P hP
    have hA := rd_arg (p := p) hp2 hτ hN hN2 c h0 h1
    rw [← hP] at hA
    have h3 := sr_fst p P (0 - shF p τ N - 1)
    have h4 := sr_snd (p := p) (P := P) (Y := 0 - shF p τ N - 1) (lo := -100) (hi := 10) hp hA (by omega) (by omega) (by omega) (by omega)
    omega
  by_cases h : (absF τ * 2 ^ (shF p τ N).toNat).fmod N = 0
  · rw [← rdF_0 h]
    exact key 0 (by omega) (by omega) _ rfl
  · rw [← rdF_1 h]
    exact key 1 (by omega) (by omega) _ rfl
theorem spF_pos {p M X t : Int} (h : 0 ≤ t) : srF p (powF M t) (X * t) = spF p M X t := by unfold spF; rw [if_pos h]
theorem spF_neg1 {p M X t : Int} (h : ¬ 0 ≤ t) (h1 : 0 < powF M t) : leanF (rdF p 1 (absF (powF M t))).1 ((rdF p 1 (absF (powF M t))).2 + X * t) = spF p M X t := by
  unfold spF; rw [if_neg h, if_pos h1]
theorem spF_neg0 {p M X t : Int} (h : ¬ 0 ≤ t) (h1 : ¬ 0 < powF M t) : leanF (rdF p (-1) (absF (powF M t))).1 ((rdF p (-1) (absF (powF M t))).2 + X * t) = spF p M X t := by
  unfold spF; rw [if_neg h, if_neg h1]
end Mine
/-! text L2 -/
namespace Mine
open PySem.Builtin (bitAnd)
open PySem.Builtin.Int (intBits)
theorem sh_facts {x k : Int} (h1 : 1 ≤ x) (h2 : x < 2 ^ 43) (hk : k ≤ 55) : 1 ≤ x * 2 ^ k.toNat ∧ x * 2 ^ k.toNat < 2 ^ 98 := by
  have hp := pow2_pos k.toNat
  have h3 : 2 ^ k.toNat ≤ 2 ^ 55 := Nat.pow_le_pow_right (by decide) (by omega)
  have hc := kbt_cast k.toNat
  have h4 : (2 : Int) ^ k.toNat ≤ 2 ^ 55 := by
    generalize (2 : Int) ^ k.toNat = z at *
    generalize 2 ^ k.toNat = y at *
    omega
  have h5 : x * 1 ≤ x * 2 ^ k.toNat := Int.mul_le_mul_of_nonneg_left (by omega) (by omega)
  have h6 : x * 2 ^ k.toNat ≤ x * 2 ^ 55 := Int.mul_le_mul_of_nonneg_left h4 (by omega)
  omega
theorem lrF_of {p top bottom t b b2 e2 m : Int}
    (h3 : ((b2 < 2 * t.fmod b2 ∨ (2 * t.fmod b2 = b2 ∧ (t.fdiv b2).fmod 2 = 1)) ∧ m = t.fdiv b2 + 1) ∨ (¬ (b2 < 2 * t.fmod b2 ∨ (2 * t.fmod b2 = b2 ∧ (t.fdiv b2).fmod 2 = 1)) ∧ m = t.fdiv b2))
    (h2 : (b * 2 ^ p.toNat ≤ t ∧ b2 = 2 * b ∧ e2 = ((intBits top : Int) - (intBits bottom : Int) - p) + 1) ∨ (¬ b * 2 ^ p.toNat ≤ t ∧ b2 = b ∧ e2 = ((intBits top : Int) - (intBits bottom : Int) - p)))
    (h1 : (0 < ((intBits top : Int) - (intBits bottom : Int) - p) ∧ t = top ∧ b = bottom * 2 ^ (((intBits top : Int) - (intBits bottom : Int) - p)).toNat) ∨ (¬ 0 < ((intBits top : Int) - (intBits bottom : Int) - p) ∧ t = top * 2 ^ (0 - ((intBits top : Int) - (intBits bottom : Int) - p)).toNat ∧ b = bottom)) :
    lrM p top bottom = m ∧ (lrU p top bottom).2 = e2 := by
  have hT : lrT p top bottom = t := by
    unfold lrT lrE
    rcases h1 with h | h
    · rw [if_pos h.1, h.2.1]
    · rw [if_neg h.1, h.2.1]
  have hB : lrB p top bottom = b := by
    unfold lrB lrE
    rcases h1 with h | h
    · rw [if_pos h.1, h.2.2]
    · rw [if_neg h.1, h.2.2]
  have hU : lrU p top bottom = (b2, e2) := by
    unfold lrU
    rw [hT, hB]
    rcases h2 with h | h
    · rw [if_pos h.1, h.2.1, h.2.2]; rfl
    · rw [if_neg h.1, h.2.1, h.2.2]; rfl
  refine ⟨?_, by rw [hU]⟩
  unfold lrM
  rw [hU, hT]
  dsimp only
  rcases h3 with h | h
  · rw [if_pos h.1, h.2]
  · rw [if_neg h.1, h.2]
theorem start_ok {p top bottom m e e2 : Int} (h : lrM p top bottom = m ∧ (lrU p top bottom).2 = e2) (hm : 1 ≤ lrM p top bottom) : 1 ≤ m ∧ leanF m e = leanF m e := by
  rw [h.1] at hm
  exact ⟨hm, rfl⟩
theorem end_ok {p top bottom m0 e0 m e : Int} (h : lrM p top bottom = m0 ∧ (lrU p top bottom).2 = e0) (h2 : (m, e) = leanF m0 e0) : (m, e) = lrF p top bottom := by
  unfold lrF
  rw [h.1, h.2, h2]
theorem low_two {m : Int} : bitAnd (2 * m) (0 - 2 * m) = 2 * bitAnd m (0 - m) := by
  have hh := kbt_halves (2 * m) (0 - 2 * m)
  have e1 : 2 * m / 2 = m := by omega
  have e2 : (0 - 2 * m) / 2 = 0 - m := by omega
  rw [e1, e2, if_neg (by omega)] at hh
  omega
theorem bits_two {x : Int} (h : 1 ≤ x) : intBits (2 * x) = intBits x + 1 := by
  unfold intBits
  have h1 : (x == 0) = false := by simpa using (show x ≠ 0 by omega)
  have h2 : (2 * x == 0) = false := by simpa using (show 2 * x ≠ 0 by omega)
  rw [h1, h2]
  simp only [Bool.false_eq_true, if_false]
  have e : (2 * x).natAbs = 2 * x.natAbs := by omega
  rw [e, Nat.log2_two_mul (by omega)]
theorem zF_two {m : Int} (h : m ≠ 0) : zF (2 * m) = zF m + 1 := by
  unfold zF
  rw [low_two, bits_two (low_pos h)]
  omega
theorem lean_two {m e : Int} (h : m ≠ 0) : leanF m (e + 1) = leanF (2 * m) e := by
  have hz := zF_facts (m := m.natAbs + 1) h (by
    have : m.natAbs < 2 ^ m.natAbs := Nat.lt_two_pow_self
    rw [Nat.pow_succ]; omega)
  unfold leanF
  rw [if_neg h, if_neg (show 2 * m ≠ 0 by omega), zF_two h]
  have e1 : (zF m + 1).toNat = (zF m).toNat + 1 := by omega
  rw [e1, Int.pow_succ]
  have e2 : (2 * m).fdiv (2 ^ (zF m).toNat * 2) = m.fdiv (2 ^ (zF m).toNat) := by
    rw [Int.mul_comm (2 ^ (zF m).toNat) 2]
    rw [Int.fdiv_eq_ediv_of_nonneg _ (by have := pow2_pos (zF m).toNat; omega), Int.fdiv_eq_ediv_of_nonneg _ (Int.le_of_lt (pow2_pos _))]
    exact Int.mul_ediv_mul_of_pos _ _ (by decide)
  rw [e2]
  show (_, _) = (_, _)
  congr 1
  omega
theorem odd_low {m : Int} (h : m % 2 = 1) : bitAnd m (0 - m) = 1 := by
  have hh := kbt_halves m (0 - m)
  have e : (0 - m) / 2 = Builtin.bitNot (m / 2) := by show _ = -(m / 2) - 1; omega
  rw [e, bitAnd_not, bitAnd_self, if_pos (by omega)] at hh
  omega
theorem lean_odd {m e : Int} (h : m % 2 = 1) : leanF m e = (m, e) := by
  unfold leanF
  have hz : zF m = 0 := by unfold zF; rw [odd_low h]; rfl
  rw [if_neg (by omega), hz]
  simp
theorem fmod2 (m : Int) : m.fmod 2 = m % 2 := Int.fmod_eq_emod_of_nonneg _ (by decide)
theorem fdiv2 (m : Int) : m.fdiv 2 = m / 2 := Int.fdiv_eq_ediv_of_nonneg _ (by decide)
theorem turn_ok {m e m0 e0 : Int} (h : m.fmod 2 = 0) (h1 : 1 ≤ m) (h2 : leanF m e = leanF m0 e0) : 1 ≤ m.fdiv 2 ∧ leanF (m.fdiv 2) (e + 1) = leanF m0 e0 := by
  rw [fmod2] at h
  rw [fdiv2]
  refine ⟨by omega, ?_⟩
  rw [lean_two (by omega), ← h2]
  congr 1
  omega
theorem turn_less {m : Int} (h1 : 1 ≤ m) : (m.fdiv 2).toNat < m.toNat := by rw [fdiv2]; omega
theorem turn_end {m e m0 e0 : Int} (h : ¬ m.fmod 2 = 0) (h2 : leanF m e = leanF m0 e0) : (m, e) = leanF m0 e0 := by
  rw [fmod2] at h
  rw [← h2, lean_odd (by omega)]
end Mine
/-! text L3 -/
namespace Mine
open PySem.Builtin (bitAnd)
open PySem.Builtin.Int (intBits)
theorem powF_pos {M t : Int} (h0 : 1 ≤ M) : 1 ≤ powF M t := by
  unfold powF
  generalize (absF t).toNat = k
  induction k with
  | zero => simp
  | succ n ih =>
    rw [Int.pow_succ]
    have := Int.mul_le_mul_of_nonneg_left (a := 1) (b := M) (c := M ^ n) h0 (by omega)
    omega
theorem dueF_pos {p M X t : Int} (h : 0 ≤ t) : ((lrF p (powF M t) 1).1, (lrF p (powF M t) 1).2 + X * t) = dueF p M X t := by unfold dueF; rw [if_pos h, if_pos h]
theorem dueF_neg {p M X t : Int} (h : ¬ 0 ≤ t) : ((lrF p 1 (powF M t)).1, (lrF p 1 (powF M t)).2 + X * t) = dueF p M X t := by unfold dueF; rw [if_neg h, if_neg h]
end Mine
/-! text P0 -/
namespace Mine
open PySem.Builtin (bitAnd)
open PySem.Builtin.Int (intBits)

/-! the same functions with powers of two by Nat.pow, for the kernel's arithmetic -/
def p2 (k : Int) : Int := ((2 ^ k.toNat : Nat) : Int)
theorem p2_eq (k : Int) : (2 : Int) ^ k.toNat = p2 k := (kbt_cast k.toNat).symm
def leanG (M X : Int) : Int × Int := if M = 0 then (0, 0) else (M.fdiv (p2 (zF M)), X + zF M)
def nearG (n g : Int) : Int :=
  if 1 * p2 (g - 1) < bitAnd n (1 * p2 g - 1) ∨ (bitAnd n (1 * p2 g - 1) = 1 * p2 (g - 1) ∧ bitAnd (n.fdiv (p2 g)) 1 = 1)
  then n.fdiv (p2 g) + 1 else n.fdiv (p2 g)
def srG (p P Y : Int) : Int × Int :=
  if (intBits (absF P) : Int) - p ≤ 0 then leanG P Y
  else leanG (sgnF P * nearG (absF P) ((intBits (absF P) : Int) - p)) (Y + ((intBits (absF P) : Int) - p))
def rdG (p τ N : Int) : Int × Int :=
  srG p (sgnF τ * stF ((absF τ * p2 (shF p τ N)).fdiv N) ((absF τ * p2 (shF p τ N)).fmod N)) (0 - shF p τ N - 1)
def spG (p P t : Int) : Int × Int :=
  if 0 ≤ t then srG p P 0
  else match rdG p (if 0 < P then 1 else -1) (absF P) with
    | (a, b) => leanG a b
def lrTG (p top bottom : Int) : Int := if 0 < lrE p top bottom then top else top * p2 (0 - lrE p top bottom)
def lrBG (p top bottom : Int) : Int := if 0 < lrE p top bottom then bottom * p2 (lrE p top bottom) else bottom
def lrUG (p top bottom : Int) : Int × Int :=
  if lrBG p top bottom * p2 p ≤ lrTG p top bottom then (2 * lrBG p top bottom, lrE p top bottom + 1) else (lrBG p top bottom, lrE p top bottom)
def lrMG (t b : Int) : Int := if b < 2 * t.fmod b ∨ (2 * t.fmod b = b ∧ (t.fdiv b).fmod 2 = 1) then t.fdiv b + 1 else t.fdiv b

theorem leanG_eq (M X : Int) : leanF M X = leanG M X := by unfold leanF leanG; rw [p2_eq]
theorem nearG_eq (n g : Int) : nearF n g = nearG n g := by unfold nearF nearG; simp only [p2_eq]
theorem srG_eq (p P Y : Int) : srF p P Y = srG p P Y := by unfold srF srG; simp only [leanG_eq, nearG_eq]
theorem rdG_eq (p τ N : Int) : rdF p τ N = rdG p τ N := by unfold rdF rdG; simp only [srG_eq, p2_eq]
theorem spG_eq (p M t : Int) : spF p M 0 t = spG p (powF M t) t := by
  unfold spF spG
  simp only [Int.zero_mul, Int.add_zero, leanG_eq, srG_eq, rdG_eq]
theorem lrTG_eq (p t b : Int) : lrT p t b = lrTG p t b := by unfold lrT lrTG; simp only [p2_eq]
theorem lrBG_eq (p t b : Int) : lrB p t b = lrBG p t b := by unfold lrB lrBG; simp only [p2_eq]
theorem lrUG_eq (p t b : Int) : lrU p t b = lrUG p t b := by unfold lrU lrUG; simp only [p2_eq, lrTG_eq, lrBG_eq]
theorem lrMG_eq (p t b : Int) : lrM p t b = lrMG (lrTG p t b) (lrUG p t b).1 := by unfold lrM lrMG; simp only [lrTG_eq, lrUG_eq]

/-- the check at one point: p, M, t -/
def chk1 (p t P top bottom : Int) : Bool :=
  match lrUG p top bottom with
  | (b, e) => match decide (1 ≤ lrMG (lrTG p top bottom) b), leanG (lrMG (lrTG p top bottom) b) e with
    | true, (a, c) => a != 0 && spG p P t == (a, c) && spG p (0 - P) t == (0 - a, c)
    | false, _ => false
end Mine
/-! text P1 -/
namespace Mine
open PySem.Builtin (bitAnd)
open PySem.Builtin.Int (intBits)
def chkT (p M t : Int) : Bool := chk1 p t (powF M t) (if 0 ≤ t then powF M t else 1) (if 0 ≤ t then 1 else powF M t)
def chkM (p M : Int) : Bool := (List.range 15).all fun i => chkT p M ((i : Int) - 7)
def chkP (p : Int) (n : Nat) : Bool := (List.range n).all fun i => chkM p (2 * (i : Int) + 1)
theorem chk2 : chkP 2 2 = true := by decide +kernel
theorem chk3 : chkP 3 4 = true := by decide +kernel
theorem chk4 : chkP 4 8 = true := by decide +kernel
theorem chk5 : chkP 5 16 = true := by decide +kernel
theorem chk6 : chkP 6 32 = true := by decide +kernel
theorem chk_all {n : Nat} {q : Nat → Bool} (h : (List.range n).all q = true) {i : Nat} (hi : i < n) : q i = true := List.all_eq_true.mp h i (List.mem_range.mpr hi)
theorem chkP_at {p : Int} {n : Nat} (h : chkP p n = true) {M t : Int} (h1 : 1 ≤ M) (h2 : M < 2 * n) (ho : M % 2 = 1) (ht1 : -7 ≤ t) (ht2 : t ≤ 7) : chkT p M t = true := by
  have a := chk_all h (i := (M / 2).toNat) (by omega)
  have b := chk_all a (i := (t + 7).toNat) (by omega)
  have e1 : 2 * (((M / 2).toNat : Nat) : Int) + 1 = M := by omega
  have e2 : (((t + 7).toNat : Nat) : Int) - 7 = t := by omega
  rw [e1, e2] at b
  exact b
theorem chk {p M t : Int} (hp : 2 ≤ p) (hp2 : p ≤ 6) (h1 : 1 ≤ M) (h2 : M < 2 ^ p.toNat) (ho : M % 2 = 1) (ht1 : -7 ≤ t) (ht2 : t ≤ 7) : chkT p M t = true := by
  have hc : p = 2 ∨ p = 3 ∨ p = 4 ∨ p = 5 ∨ p = 6 := by omega
  rcases hc with rfl | rfl | rfl | rfl | rfl
  · exact chkP_at chk2 h1 (by simpa using h2) ho ht1 ht2
  · exact chkP_at chk3 h1 (by simpa using h2) ho ht1 ht2
  · exact chkP_at chk4 h1 (by simpa using h2) ho ht1 ht2
  · exact chkP_at chk5 h1 (by simpa using h2) ho ht1 ht2
  · exact chkP_at chk6 h1 (by simpa using h2) ho ht1 ht2

/-! exponents may be moved -/
theorem lean_shift {M X Y : Int} (h : (leanF M X).1 ≠ 0) : leanF M Y = ((leanF M X).1, (leanF M X).2 + (Y - X)) := by
  unfold leanF at h ⊢
  by_cases h0 : M = 0
  · rw [if_pos h0] at h; exact absurd rfl h
  · rw [if_neg h0, if_neg h0]
    show (_, _) = (_, _)
    congr 1
    omega
theorem sr_shift {p P Y : Int} (h : (srF p P 0).1 ≠ 0) : srF p P Y = ((srF p P 0).1, (srF p P 0).2 + Y) := by
  unfold srF at h ⊢
  by_cases h0 : (intBits (absF P) : Int) - p ≤ 0
  · rw [if_pos h0] at h
    rw [if_pos h0, if_pos h0, lean_shift h, Int.sub_zero]
  · rw [if_neg h0] at h
    rw [if_neg h0, if_neg h0, lean_shift (Y := Y + ((intBits (absF P) : Int) - p)) h]
    congr 1
    omega
theorem sp_shift {p M X t : Int} (h : (spF p M 0 t).1 ≠ 0) : spF p M X t = ((spF p M 0 t).1, (spF p M 0 t).2 + X * t) := by
  unfold spF at h ⊢
  by_cases h0 : 0 ≤ t
  · rw [if_pos h0] at h
    rw [if_pos h0, if_pos h0]
    rw [Int.zero_mul] at h ⊢
    exact sr_shift h
  · rw [if_neg h0] at h
    rw [if_neg h0, if_neg h0, lean_shift (Y := (rdF p (if 0 < powF M t then 1 else -1) (absF (powF M t))).2 + X * t) h]
    congr 1
    rw [Int.zero_mul]
    omega
theorem due_shift (p M X t : Int) : dueF p M X t = ((dueF p M 0 t).1, (dueF p M 0 t).2 + X * t) := by
  unfold dueF
  simp only [Int.zero_mul, Int.add_zero]

theorem chkT_tells {p M t : Int} (h : chkT p M t = true) : 1 ≤ lrM p (if 0 ≤ t then powF M t else 1) (if 0 ≤ t then 1 else powF M t) ∧ (dueF p M 0 t).1 ≠ 0 ∧
    spG p (powF M t) t = dueF p M 0 t ∧ spG p (0 - powF M t) t = (0 - (dueF p M 0 t).1, (dueF p M 0 t).2) := by
  unfold chkT chk1 at h
  generalize hT : (if 0 ≤ t then powF M t else 1) = T at h
  generalize hB : (if 0 ≤ t then 1 else powF M t) = B at h
  have hd : dueF p M 0 t = lrF p T B := by
    unfold dueF
    rw [hT, hB, Int.zero_mul, Int.add_zero]
  rw [hd]
  have hl : lrF p T B = leanG (lrMG (lrTG p T B) (lrUG p T B).1) (lrUG p T B).2 := by unfold lrF; rw [leanG_eq, lrMG_eq, lrUG_eq]
  rw [hl, lrMG_eq]
  generalize hU : lrUG p T B = U at h
  obtain ⟨b, e⟩ := U
  dsimp only at h ⊢
  by_cases h1 : 1 ≤ lrMG (lrTG p T B) b
  · rw [decide_eq_true h1] at h
    generalize hL : leanG (lrMG (lrTG p T B) b) e = V at h
    obtain ⟨a, c⟩ := V
    dsimp only at h
    simp only [Bool.and_eq_true, bne_iff_ne, ne_eq, beq_iff_eq] at h
    exact ⟨h1, h.1.1, h.1.2, h.2⟩
  · rw [decide_eq_false h1] at h
    cases h
theorem powF_neg_even {M t : Int} (h : t % 2 = 0) : powF (0 - M) t = powF M t := by
  unfold powF
  have hk : ∃ k, (absF t).toNat = 2 * k := ⟨(absF t).toNat / 2, by unfold absF; split <;> omega⟩
  obtain ⟨k, hk⟩ := hk
  rw [hk, Int.pow_mul, Int.pow_mul]
  congr 1
  rw [Int.pow_succ, Int.pow_succ, Int.pow_succ, Int.pow_succ]
  simp [Int.neg_mul_neg]
theorem powF_neg_odd {M t : Int} (h : t % 2 = 1) : powF (0 - M) t = 0 - powF M t := by
  unfold powF
  have hk : ∃ k, (absF t).toNat = 2 * k + 1 := ⟨(absF t).toNat / 2, by unfold absF; split <;> omega⟩
  obtain ⟨k, hk⟩ := hk
  have e : ((0 - M) ^ 2) = M ^ 2 := by
    rw [Int.pow_succ, Int.pow_succ, Int.pow_succ, Int.pow_succ]
    simp [Int.neg_mul_neg]
  rw [hk, Int.pow_succ, Int.pow_succ, Int.pow_mul, Int.pow_mul, e, Int.mul_sub, Int.mul_zero]

/-- THE PLAIN LAW -/
theorem plain {p M X t : Int} (hp : 2 ≤ p) (hp2 : p ≤ 6) (h1 : 1 ≤ M) (h2 : M < 2 ^ p.toNat) (ho : M % 2 = 1) (ht1 : -7 ≤ t) (ht2 : t ≤ 7) :
    1 ≤ lrM p (if 0 ≤ t then powF M t else 1) (if 0 ≤ t then 1 else powF M t) ∧ spF p M X t = dueF p M X t ∧
    ∃ A, spF p (0 - M) X t = (A, (dueF p M X t).2) ∧ (t % 2 = 0 → A = (dueF p M X t).1) ∧ (¬ t % 2 = 0 → A = 0 - (dueF p M X t).1) := by
  obtain ⟨c1, c2, c3, c4⟩ := chkT_tells (chk hp hp2 h1 h2 ho ht1 ht2)
  have e1 : spF p M 0 t = dueF p M 0 t := by rw [spG_eq, c3]
  refine ⟨c1, ?_, ?_⟩
  · rw [sp_shift (by rw [e1]; exact c2), e1, ← due_shift]
  · rcases Int.emod_two_eq t with h | h
    · have e2 : spF p (0 - M) 0 t = dueF p M 0 t := by rw [spG_eq, powF_neg_even h, c3]
      refine ⟨(dueF p M X t).1, ?_, fun _ => rfl, fun h' => absurd h h'⟩
      rw [sp_shift (by rw [e2]; exact c2), e2, ← due_shift]
    · have e2 : spF p (0 - M) 0 t = (0 - (dueF p M 0 t).1, (dueF p M 0 t).2) := by rw [spG_eq, powF_neg_odd h, c4]
      refine ⟨0 - (dueF p M X t).1, ?_, fun h' => by omega, fun _ => rfl⟩
      rw [sp_shift (by rw [e2]; show 0 - (dueF p M 0 t).1 ≠ 0; omega), e2, due_shift p M X t]
theorem powF_zero (M : Int) : powF M 0 = 1 := by unfold powF absF; simp
theorem powF_one (M : Int) : powF M 1 = M := by unfold powF absF; simp [Int.pow_succ]
theorem sp_zero {p M X : Int} (hp : 2 ≤ p) : spF p M X 0 = (1, 0) := by
  rw [← spF_pos (Int.le_refl 0), powF_zero, Int.mul_zero, ← srF_le (by
    have : (intBits (absF 1) : Int) = 1 := by decide
    omega)]
  exact lean_odd (by decide)
theorem sp_one {p M X : Int} (h2 : M.natAbs < 2 ^ p.toNat) (hp : 0 ≤ p) (ho : M % 2 = 1) : spF p M X 1 = (M, X) := by
  rw [← spF_pos (by decide), powF_one, Int.mul_one, ← srF_le (by
    have := bits_le (x := absF M) (m := p.toNat) (by rw [absF_natAbs]; exact h2)
    omega)]
  exact lean_odd ho
end Mine
/-! text C0 -/
namespace Mine
open PySem.Builtin (bitAnd)
open PySem.Builtin.Int (intBits)
noncomputable abbrev PR : PySem.Program := PySem.Challenge.rw_nt0158_01.row.prog
noncomputable abbrev LO : List PySem.Str := looseW hd.view_39 [PySem.Str.ofString "REACH"]
abbrev Led := List (Addr × Obj)
abbrev Env0 := PySem.Str → Option Value

/-- what a contract says of a call: the frames, the ledger, the room; `Ret` says what comes back -/
def Says (r : Nat) (w : World) (mean : ExcName → Option Value) (mg mb : Env0) (f : Addr) (news : Led) (vs : List Value)
    (Ret : Heap → Addr → Env0 → Shared → (Value → Shared → Prop) → Prop) : Prop :=
  ∀ (dp un : Nat) (gd : Option (List Code)) (cn : PySem.Str) (cs : Scope) (a : Addr) (ccd : Value) (cl : List (PySem.Str × Addr)) (outer : List Env) (A₀ : Around) (base h₀ : Heap) (L : Addr) (m : Env0) (s : Shared) (Q E : Value → Shared → Prop),
    Below A₀ base outer h₀ → Fr h₀ L s.heap m → (hd.heap_39 w.params).In h₀ → News h₀ L s.heap news → Top hd.view_39 LO mean mg mb h₀ → cs.kind = .function →
    dp + r < recursionLimit → un + 8 * r < cLine → Ret h₀ L m s Q →
    wpAny (model PR w) (ktrTop dp un gd cn cs L a ccd cl outer) (call (.ref f) vs) Q E s

section
variable {r : Nat} {w : World} {mean : ExcName → Option Value} {mg mb : Env0} {f : Addr} {news : Led} {vs : List Value} {Ret : Heap → Addr → Env0 → Shared → (Value → Shared → Prop) → Prop}
theorem Says.use (C : Says r w mean mg mb f news vs Ret) {dp un : Nat} {gd : Option (List Code)} {cn : PySem.Str} {cs : Scope} {a : Addr} {ccd : Value} {cl : List (PySem.Str × Addr)} {outer : List Env} {A₀ : Around} {base h₀ : Heap} {L : Addr} {m : Env0} {s : Shared} {Q E : Value → Shared → Prop}
    (B : Below A₀ base outer h₀) (F : Fr h₀ L s.heap m) (X : (hd.heap_39 w.params).In h₀) (N : News h₀ L s.heap news) (T : Top hd.view_39 LO mean mg mb h₀) (hk : cs.kind = .function)
    (hd : dp + r < recursionLimit) (hu : un + 8 * r < cLine) (ret : Ret h₀ L m s Q) :
    wpAny (model PR w) (ktrTop dp un gd cn cs L a ccd cl outer) (call (.ref f) vs) Q E s := C _ _ _ _ _ _ _ _ _ _ _ _ _ _ _ _ _ B F X N T hk hd hu ret
end

theorem unrEnd_tail {h₀ : Heap} {L I : Addr} {it : Obj} {rest : Env0 → Led → Prop} {s₁ : Shared} {h' : Heap} {tk : Nat} {m' : Env0} {news' : Led} (F : Fr h₀ L h' m') (N : News h₀ L h' ((I, it) :: news')) (l : ∀ p ∈ news', p.1 < I) (r : rest m' news') :
    UnrEnd h₀ L s₁ I it rest { s₁ with heap := h', toks := tk } := UnrEnd.intro F N news' (fun _ h => h) (fun p hp => Nat.ne_of_lt (l p hp)) r

theorem sub01 {g0 : Addr × Obj} {r : Led} : ∀ p ∈ r, p ∈ g0 :: r := fun _ hq => .tail _ (hq)
theorem sub02 {g0 g1 : Addr × Obj} {r : Led} : ∀ p ∈ r, p ∈ g0 :: g1 :: r := fun _ hq => .tail _ (.tail _ (hq))
theorem sub03 {g0 g1 g2 : Addr × Obj} {r : Led} : ∀ p ∈ r, p ∈ g0 :: g1 :: g2 :: r := fun _ hq => .tail _ (.tail _ (.tail _ (hq)))
theorem sub04 {g0 g1 g2 g3 : Addr × Obj} {r : Led} : ∀ p ∈ r, p ∈ g0 :: g1 :: g2 :: g3 :: r := fun _ hq => .tail _ (.tail _ (.tail _ (.tail _ (hq))))
theorem sub11 {x0 g0 : Addr × Obj} {r : Led} : ∀ p ∈ x0 :: r, p ∈ x0 :: g0 :: r := fun _ hq => (List.mem_cons.mp hq).elim (fun e => List.mem_cons.mpr (.inl e)) fun h0 => .tail _ (.tail _ (h0))
theorem sub12 {x0 g0 g1 : Addr × Obj} {r : Led} : ∀ p ∈ x0 :: r, p ∈ x0 :: g0 :: g1 :: r := fun _ hq => (List.mem_cons.mp hq).elim (fun e => List.mem_cons.mpr (.inl e)) fun h0 => .tail _ (.tail _ (.tail _ (h0)))
theorem sub13 {x0 g0 g1 g2 : Addr × Obj} {r : Led} : ∀ p ∈ x0 :: r, p ∈ x0 :: g0 :: g1 :: g2 :: r := fun _ hq => (List.mem_cons.mp hq).elim (fun e => List.mem_cons.mpr (.inl e)) fun h0 => .tail _ (.tail _ (.tail _ (.tail _ (h0))))
theorem sub14 {x0 g0 g1 g2 g3 : Addr × Obj} {r : Led} : ∀ p ∈ x0 :: r, p ∈ x0 :: g0 :: g1 :: g2 :: g3 :: r := fun _ hq => (List.mem_cons.mp hq).elim (fun e => List.mem_cons.mpr (.inl e)) fun h0 => .tail _ (.tail _ (.tail _ (.tail _ (.tail _ (h0)))))
theorem sub21 {x0 x1 g0 : Addr × Obj} {r : Led} : ∀ p ∈ x0 :: x1 :: r, p ∈ x0 :: x1 :: g0 :: r := fun _ hq => (List.mem_cons.mp hq).elim (fun e => List.mem_cons.mpr (.inl e)) fun h0 => (List.mem_cons.mp h0).elim (fun e => .tail _ (List.mem_cons.mpr (.inl e))) fun h1 => .tail _ (.tail _ (.tail _ (h1)))
theorem sub22 {x0 x1 g0 g1 : Addr × Obj} {r : Led} : ∀ p ∈ x0 :: x1 :: r, p ∈ x0 :: x1 :: g0 :: g1 :: r := fun _ hq => (List.mem_cons.mp hq).elim (fun e => List.mem_cons.mpr (.inl e)) fun h0 => (List.mem_cons.mp h0).elim (fun e => .tail _ (List.mem_cons.mpr (.inl e))) fun h1 => .tail _ (.tail _ (.tail _ (.tail _ (h1))))
theorem sub23 {x0 x1 g0 g1 g2 : Addr × Obj} {r : Led} : ∀ p ∈ x0 :: x1 :: r, p ∈ x0 :: x1 :: g0 :: g1 :: g2 :: r := fun _ hq => (List.mem_cons.mp hq).elim (fun e => List.mem_cons.mpr (.inl e)) fun h0 => (List.mem_cons.mp h0).elim (fun e => .tail _ (List.mem_cons.mpr (.inl e))) fun h1 => .tail _ (.tail _ (.tail _ (.tail _ (.tail _ (h1)))))
theorem sub24 {x0 x1 g0 g1 g2 g3 : Addr × Obj} {r : Led} : ∀ p ∈ x0 :: x1 :: r, p ∈ x0 :: x1 :: g0 :: g1 :: g2 :: g3 :: r := fun _ hq => (List.mem_cons.mp hq).elim (fun e => List.mem_cons.mpr (.inl e)) fun h0 => (List.mem_cons.mp h0).elim (fun e => .tail _ (List.mem_cons.mpr (.inl e))) fun h1 => .tail _ (.tail _ (.tail _ (.tail _ (.tail _ (.tail _ (h1))))))

/-- an int comes back -/
def IntRet (news : Led) (r : Int) (h₀ : Heap) (L : Addr) (m : Env0) (s : Shared) (Q : Value → Shared → Prop) : Prop :=
  ∀ (t : Tok) (h' : Heap) (tk' : Nat), Fr h₀ L h' m → News h₀ L h' news → Q (.int r t) { s with heap := h', toks := tk' }
theorem IntRet.done {news : Led} {r r' : Int} {h₀ : Heap} {L : Addr} {m : Env0} {s : Shared} {Q : Value → Shared → Prop} (H : IntRet news r h₀ L m s Q) {t : Tok} {h' : Heap} {tk' : Nat} (e : r' = r) (F : Fr h₀ L h' m) (N : News h₀ L h' news) :
    Q (.int r' t) { s with heap := h', toks := tk' } := by subst e; exact H t h' tk' F N

/-- the dict of a Real -/
abbrev realD (w : World) (k1 : Tok) (M : Int) (t1 : Tok) (k2 : Tok) (X : Int) (t2 : Tok) : Obj :=
  dictOf [⟨PyData.keyHash w.params (PySem.Str.ofString "mantissa"), .str (PySem.Str.ofString "mantissa") k1, .int M t1⟩, ⟨PyData.keyHash w.params (PySem.Str.ofString "exponent"), .str (PySem.Str.ofString "exponent") k2, .int X t2⟩] 2
/-- a new Real comes back -/
def RealRet (w : World) (news : Led) (r : Int × Int) (h₀ : Heap) (L : Addr) (m : Env0) (s : Shared) (Q : Value → Shared → Prop) : Prop :=
  ∀ (x dx : Addr) (k1 k2 t1 t2 : Tok) (h' : Heap) (tk' : Nat), Fr h₀ L h' m → News h₀ L h' ((x, instObj 70 dx) :: (dx, realD w k1 r.1 t1 k2 r.2 t2) :: news) → AllLt dx news → dx < x →
    Q (.ref x) { s with heap := h', toks := tk' }
theorem RealRet.done {w : World} {news news' : Led} {r : Int × Int} {M X : Int} {h₀ : Heap} {L : Addr} {m : Env0} {s : Shared} {Q : Value → Shared → Prop} (H : RealRet w news r h₀ L m s Q) {x dx : Addr} {k1 k2 t1 t2 : Tok} {h' : Heap} {tk' : Nat}
    (e : (M, X) = r) (F : Fr h₀ L h' m) (N : News h₀ L h' news') (hN : ∀ p ∈ (x, instObj 70 dx) :: (dx, realD w k1 M t1 k2 X t2) :: news, p ∈ news') (l1 : AllLt dx news) (l2 : dx < x) :
    Q (.ref x) { s with heap := h', toks := tk' } := by
  subst e
  exact H x dx k1 k2 t1 t2 h' tk' F (fun p hp => N p (hN p hp)) l1 l2
/-- a new pair of ints comes back -/
def TupRet (news : Led) (r : Int × Int) (h₀ : Heap) (L : Addr) (m : Env0) (s : Shared) (Q : Value → Shared → Prop) : Prop :=
  ∀ (D : Addr) (t1 t2 : Tok) (c : Nat) (h' : Heap) (tk' : Nat), Fr h₀ L h' m → News h₀ L h' ((D, ({ cls := .type "tuple", data := .seq #[.int r.1 t1, .int r.2 t2] c } : Obj)) :: news) → AllLt D news →
    Q (.ref D) { s with heap := h', toks := tk' }
theorem TupRet.done {news news' : Led} {r : Int × Int} {a b : Int} {h₀ : Heap} {L : Addr} {m : Env0} {s : Shared} {Q : Value → Shared → Prop} (H : TupRet news r h₀ L m s Q) {D : Addr} {t1 t2 : Tok} {c : Nat} {h' : Heap} {tk' : Nat}
    (e : (a, b) = r) (F : Fr h₀ L h' m) (N : News h₀ L h' news') (hN : ∀ p ∈ (D, ({ cls := .type "tuple", data := .seq #[.int a t1, .int b t2] c } : Obj)) :: news, p ∈ news') (l1 : AllLt D news) :
    Q (.ref D) { s with heap := h', toks := tk' } := by
  subst e
  exact H D t1 t2 c h' tk' F (fun p hp => N p (hN p hp)) l1

end Mine
/-! the contracts -/
namespace Mine
open PySem.Builtin (bitAnd)
open PySem.Builtin.Int (intBits)
local macro_rules | `(tactic| k_room) => `(tactic| ktr_room)
local macro_rules | `(tactic| cell_end $h:term $q:term RealRet) => `(tactic| (refine' RealRet.done $h ?e ?F ?N ?hN ?l1 ?l2; (case F => k_asm); (case N => assumption); (case l2 => assumption); (case hN => kcj_all); (case l1 => first | exact allLt_of (by assumption) | with_reducible assumption | ((rename AllLt _ _ => l9); first | exact l9 | exact l9.2 | exact l9.2.2 | exact l9.2.2.2 | exact l9.2.2.2.2) | exact (by assumption : _ ∧ AllLt _ _).2 | exact (by assumption : _ ∧ _ ∧ AllLt _ _).2.2 | exact (by assumption : _ ∧ _ ∧ _ ∧ AllLt _ _).2.2.2 | exact (by assumption : _ ∧ _ ∧ _ ∧ _ ∧ AllLt _ _).2.2.2.2); (case e => exact $q)))
local macro_rules | `(tactic| cell_end $h:term $q:term TupRet) => `(tactic| (refine' TupRet.done $h ?e ?F ?N ?hN ?l1; (case F => k_asm); (case N => assumption); (case hN => kcj_all); (case l1 => first | exact allLt_of (by assumption) | with_reducible assumption | ((rename AllLt _ _ => l9); first | exact l9 | exact l9.2 | exact l9.2.2 | exact l9.2.2.2 | exact l9.2.2.2.2) | exact (by assumption : _ ∧ AllLt _ _).2 | exact (by assumption : _ ∧ _ ∧ AllLt _ _).2.2 | exact (by assumption : _ ∧ _ ∧ _ ∧ AllLt _ _).2.2.2 | exact (by assumption : _ ∧ _ ∧ _ ∧ _ ∧ AllLt _ _).2.2.2.2); (case e => exact $q)))
local macro_rules | `(tactic| cell_end $h:term $q:term IntRet) => `(tactic| (refine' IntRet.done $h ?e ?F ?N; (case F => k_asm); (case N => first | k_asm | (refine' cb_drop ?cbN ?cbS; (case cbN => assumption); (case cbS => kcj_all))); (case e => exact $q)))
local macro_rules | `(tactic| mul_fits) => `(tactic| exact mul_sgn _ _)
local macro_rules | `(tactic| walk_at "exec If") => `(tactic| refine wpAny_If ?_)
local macro_rules | `(tactic| walk_at "UnrEnd") => `(tactic| (refine' unrEnd_tail ?uF ?uN ?uL ?_; (case uF => assumption); (case uN => assumption); (case uL => assumption)))
local macro_rules | `(tactic| k_mem) => `(tactic| (first | (with_reducible assumption) | (refine List.mem_cons_of_mem _ ?_; (first | (with_reducible assumption) | (refine List.mem_cons_of_mem _ ?_; (first | (with_reducible assumption) | (refine List.mem_cons_of_mem _ ?_; (first | (with_reducible assumption) | (refine List.mem_cons_of_mem _ ?_; (first | (with_reducible assumption) | (refine List.mem_cons_of_mem _ ?_; (first | (with_reducible assumption) | (refine List.mem_cons_of_mem _ ?_; (first | (with_reducible assumption) | (refine List.mem_cons_of_mem _ ?_; (first | (with_reducible assumption) | (refine List.mem_cons_of_mem _ ?_; (with_reducible assumption))))))))))))))))))
local macro_rules | `(tactic| kcj_all) => `(tactic| first | with_reducible exact fun _ h => h | with_reducible exact sub01 | with_reducible exact sub11 | with_reducible exact sub21 | with_reducible exact sub02 | with_reducible exact sub12 | with_reducible exact sub22 | with_reducible exact sub03 | with_reducible exact sub13 | with_reducible exact sub23 | with_reducible exact sub04 | with_reducible exact sub14 | with_reducible exact sub24)
theorem lean_c {w : World} {mean : ExcName → Option Value} {mg mb : Env0} {news : Led} {M Y : Int} {tM tY : Tok} (hM : M.natAbs < 2 ^ 64) (hE : -10000 ≤ Y) (hE2 : Y ≤ 10000) :
    Says 3 w mean mg mb 102 news [.int M tM, .int Y tY] (RealRet w news (leanF M Y)) := by
  unfold Says
  intro dp un gd cn cs a ccd cl outer A₀ base h₀ L m s Q E B F X N T hk hdp hun hret
  have hz : M = 0 ∨ (1 : Int) ≤ (intBits (bitAnd M (0 - M)) : Int) := by
    rcases Int.lt_trichotomy M 0 with h | h | h
    · have := and_self_neg_pos (M := M) (by omega); omega
    · exact .inl h
    · have := and_self_neg_pos (M := M) (by omega); omega
  have hb := bits_le (m := 64) (x := if M < 0 then -M else M) (by split <;> omega)
  have hb0 := bits_nonneg (if M < 0 then -M else M)
  refine wpAny_call ?_
  k_dflt cell_enter
  k_steps
  all_goals cell_end hret (by unfold leanF; first | rw [if_pos (by assumption)] | (rw [if_neg (by assumption)]; rfl)) RealRet
local macro_rules | `(tactic| walk_at "call ref") => `(tactic| (k_here; (with_reducible show wpAny _ _ (call (Value.ref 102) _) _ _ _); k_dflt (refine' (lean_c ?h0 ?h1 ?h2).use ?k1 ?k2 ?k3 ?k4 ?k5 ?kK ?kd ?ku ?_; (case k1 => k_asm); (case k2 => k_asm); (case k3 => k_asm); (case k4 => k_asm); (case k5 => k_asm); (case kK => first | exact rfl | assumption); (case kd => ktr_room); (case ku => ktr_units); (case h0 => first | with_reducible assumption | omega | k_extra "need"); (case h1 => first | with_reducible assumption | omega | k_extra "need"); (case h2 => first | with_reducible assumption | omega | k_extra "need")); (unfold RealRet; intro x' d' k1' k2' t1' t2' h' tk' F' N' l1 l2; (try dsimp only); (try k_fold))))
theorem near_c {w : World} {mean : ExcName → Option Value} {mg mb : Env0} {news : Led} {n g : Int} {tn tg : Tok} (h1 : 1 ≤ g) (h2 : g ≤ 100) :
    Says 3 w mean mg mb 109 news [.int n tn, .int g tg] (IntRet news (nearF n g)) := by
  unfold Says
  intro dp un gd cn cs a ccd cl outer A₀ base h₀ L m s Q E B F X N T hk hdp hun hret
  refine wpAny_call ?_
  k_dflt cell_enter
  k_steps
  all_goals cell_end hret (by unfold nearF; first | rw [if_pos (by first | assumption | omega)] | rw [if_neg (by first | assumption | omega)]) IntRet
local macro_rules | `(tactic| walk_at "call ref") => `(tactic| (k_here; (with_reducible show wpAny _ _ (call (Value.ref 109) _) _ _ _); k_dflt (refine' (near_c ?h0 ?h1).use ?k1 ?k2 ?k3 ?k4 ?k5 ?kK ?kd ?ku ?_; (case k1 => k_asm); (case k2 => k_asm); (case k3 => k_asm); (case k4 => k_asm); (case k5 => k_asm); (case kK => first | exact rfl | assumption); (case kd => ktr_room); (case ku => ktr_units); (case h0 => first | with_reducible assumption | omega | k_extra "need"); (case h1 => first | with_reducible assumption | omega | k_extra "need")); (unfold IntRet; intro t' h' tk' F' N'; (try dsimp only); (try k_fold))))
theorem sr_c {w : World} {mean : ExcName → Option Value} {mg mb : Env0} {news : Led} {p P Y : Int} {tp tP tY : Tok} (hp : 0 ≤ p) (hp2 : p ≤ 100) (hP : P.natAbs < 2 ^ 62) (hE : -9000 ≤ Y) (hE2 : Y ≤ 9000) :
    Says 5 w mean mg mb 116 news [.int p tp, .int P tP, .int Y tY] (RealRet w news (srF p P Y)) := by
  unfold Says
  intro dp un gd cn cs a ccd cl outer A₀ base h₀ L m s Q E B F X N T hk hdp hun hret
  have hb := bits_le (m := 62) (x := if P < 0 then -P else P) (by split <;> omega)
  have hb0 := bits_nonneg (if P < 0 then -P else P)
  have hn : ((b2i (decide (0 < P)) - b2i (decide (P < 0))) * nearF (if P < 0 then -P else P) ((intBits (if P < 0 then -P else P) : Int) - p)).natAbs < 2 ^ 64 := by
    have h5 : ((b2i (decide (0 < P)) - b2i (decide (P < 0))) * nearF (if P < 0 then -P else P) ((intBits (if P < 0 then -P else P) : Int) - p)).natAbs ≤ P.natAbs + 1 := sgn_near (P := P) (p := p)
    omega
  refine wpAny_call ?_
  k_dflt cell_enter
  k_steps
  all_goals cell_end hret (by first | exact srF_le (by assumption) | exact srF_gt (by assumption)) RealRet
local macro_rules | `(tactic| walk_at "call ref") => `(tactic| (k_here; (with_reducible show wpAny _ _ (call (Value.ref 116) _) _ _ _); k_dflt (refine' (sr_c ?h0 ?h1 ?h2 ?h3 ?h4).use ?k1 ?k2 ?k3 ?k4 ?k5 ?kK ?kd ?ku ?_; (case k1 => k_asm); (case k2 => k_asm); (case k3 => k_asm); (case k4 => k_asm); (case k5 => k_asm); (case kK => first | exact rfl | assumption); (case kd => ktr_room); (case ku => ktr_units); (case h0 => first | with_reducible assumption | omega | k_extra "need"); (case h1 => first | with_reducible assumption | omega | k_extra "need"); (case h2 => first | with_reducible assumption | omega | k_extra "need"); (case h3 => first | with_reducible assumption | omega | k_extra "need"); (case h4 => first | with_reducible assumption | omega | k_extra "need")); (unfold RealRet; intro x' d' k1' k2' t1' t2' h' tk' F' N' l1 l2; (try dsimp only); (try k_fold))))
local macro_rules | `(tactic| walk_at "call builtin:divmod") => `(tactic| ((with_reducible show wpAny _ _ (call (Value.builtin _) [Value.int _ _, Value.int _ _]) _ _ _); refine divmod_N (by assumption) (by assumption) (by omega) ?_ (Or.inl (noPy (by omega))); intro _ _ _))
theorem rd_c {w : World} {mean : ExcName → Option Value} {mg mb : Env0} {news : Led} {p τ N : Int} {tp tτ tN : Tok} (hp : 0 ≤ p) (hp2 : p ≤ 10) (hτ : τ = 1 ∨ τ = -1) (hN : 1 ≤ N) (hN2 : N < 2 ^ 43) :
    Says 7 w mean mg mb 130 news [.int p tp, .int τ tτ, .int N tN] (RealRet w news (rdF p τ N)) := by
  unfold Says
  intro dp un gd cn cs a ccd cl outer A₀ base h₀ L m s Q E B F X N' T hk hdp hun hret
  have hb := bits_le (m := 43) (x := if N < 0 then -N else N) (by split <;> omega)
  have hb0 := bits_nonneg (if N < 0 then -N else N)
  have hb1 := bits_le (m := 1) (x := if τ < 0 then -τ else τ) (by split <;> omega)
  have hb10 := bits_nonneg (if τ < 0 then -τ else τ)
  have hA1 := rd_arg (p := p) hp2 hτ hN hN2 1 (by omega) (by omega)
  have hA0 := rd_arg (p := p) hp2 hτ hN hN2 0 (by omega) (by omega)
  simp only [sgnF, absF, shF] at hA1 hA0
  refine wpAny_call ?_
  k_dflt cell_enter
  k_steps
  all_goals first
    | (exfalso; omega)
    | (have h9 := rdF_1 (p := p) (τ := τ) (N := N) (by assumption); cell_end hret (by exact h9) RealRet)
    | (have h9 := rdF_0 (p := p) (τ := τ) (N := N) (by assumption); cell_end hret (by exact h9) RealRet)
local macro_rules | `(tactic| walk_at "call ref") => `(tactic| (k_here; (with_reducible show wpAny _ _ (call (Value.ref 130) _) _ _ _); k_dflt (refine' (rd_c ?h0 ?h1 ?h2 ?h3 ?h4).use ?k1 ?k2 ?k3 ?k4 ?k5 ?kK ?kd ?ku ?_; (case k1 => k_asm); (case k2 => k_asm); (case k3 => k_asm); (case k4 => k_asm); (case k5 => k_asm); (case kK => first | exact rfl | assumption); (case kd => ktr_room); (case ku => ktr_units); (case h0 => first | with_reducible assumption | omega | k_extra "need"); (case h1 => first | with_reducible assumption | omega | k_extra "need"); (case h2 => first | with_reducible assumption | omega | k_extra "need"); (case h3 => first | with_reducible assumption | omega | k_extra "need"); (case h4 => first | with_reducible assumption | omega | k_extra "need")); (unfold RealRet; intro x' d' k1' k2' t1' t2' h' tk' F' N' l1 l2; (try dsimp only); (try k_fold))))
/-- the bounds between the turns of power_whole -/
def pwB (b n : Int) : Prop := (n ≤ 7 ∧ -64 < b ∧ b < 64) ∨ (n ≤ 3 ∧ -4096 < b ∧ b < 4096) ∨ (n ≤ 1 ∧ -16777216 < b ∧ b < 16777216)
def pwI (b0 n0 f b n : Int) : Prop := 0 ≤ n ∧ f * b ^ n.toNat = b0 ^ n0.toNat ∧ pwB b n ∧ -18446744073709551616 < b ∧ b < 18446744073709551616
theorem pwB_b {b n : Int} (h : pwB b n) : -18446744073709551616 < b ∧ b < 18446744073709551616 := by unfold pwB at h; omega
theorem sq_lt {b c : Int} (h1 : -c < b) (h2 : b < c) (hc : 0 < c) : -(c * c) < b * b ∧ b * b < c * c := by
  have h3 : 0 ≤ b * b := by
    rcases Int.le_total 0 b with h | h
    · exact Int.mul_nonneg h h
    · have := Int.mul_nonneg (a := -b) (b := -b) (by omega) (by omega); rw [Int.neg_mul_neg] at this; exact this
  have h4 : b.natAbs * b.natAbs < c.natAbs * c.natAbs := Nat.mul_self_lt_mul_self (by omega)
  have e1 : ((b.natAbs * b.natAbs : Nat) : Int) = b * b := by rw [Int.natCast_mul]; exact Int.natAbs_mul_self' b
  have e2 : ((c.natAbs * c.natAbs : Nat) : Int) = c * c := by rw [Int.natCast_mul]; exact Int.natAbs_mul_self' c
  omega
theorem pwB_sq {b n : Int} (h : pwB b n) (h0 : 0 < n.fdiv 2) : pwB (b * b) (n.fdiv 2) := by
  rw [fdiv2] at h0 ⊢
  unfold pwB at h ⊢
  rcases h with ⟨a, h1, h2⟩ | ⟨a, h1, h2⟩ | ⟨a, _, _⟩
  · have := sq_lt h1 h2 (by decide); omega
  · have := sq_lt h1 h2 (by decide); omega
  · omega
theorem pwB_same {b n : Int} (h : pwB b n) (h0 : 0 ≤ n) : pwB b (n.fdiv 2) := by
  rw [fdiv2]
  unfold pwB at h ⊢
  omega
theorem pw_half (b : Int) (k : Nat) : (b * b) ^ k = b ^ (2 * k) := by
  rw [Int.pow_mul, Int.pow_succ, Int.pow_succ, Int.pow_zero, Int.one_mul]
theorem pw_start {b n : Int} (h1 : -64 < b) (h2 : b < 64) (h0 : 0 ≤ n) (h7 : n ≤ 7) : pwI b n 1 b n := by
  have hB : pwB b n := .inl ⟨h7, h1, h2⟩
  exact ⟨h0, by rw [Int.one_mul], hB, pwB_b hB⟩
theorem pw_odd {b0 n0 f b n : Int} (h : pwI b0 n0 f b n) (ho : n.fmod 2 = 1) (hp : 0 < n.fdiv 2) : pwI b0 n0 (f * b) (b * b) (n.fdiv 2) := by
  obtain ⟨h0, he, hB, _⟩ := h
  refine ⟨by omega, ?_, pwB_sq hB hp, pwB_b (pwB_sq hB hp)⟩
  rw [fmod2] at ho
  rw [fdiv2] at hp ⊢
  rw [← he, pw_half]
  have e : n.toNat = 2 * (n / 2).toNat + 1 := by omega
  rw [e, Int.pow_succ, Int.mul_assoc, Int.mul_comm b]
theorem pw_odd0 {b0 n0 f b n : Int} (h : pwI b0 n0 f b n) (ho : n.fmod 2 = 1) (hp : ¬ 0 < n.fdiv 2) : pwI b0 n0 (f * b) b (n.fdiv 2) := by
  obtain ⟨h0, he, hB, hb⟩ := h
  refine ⟨by rw [fdiv2]; omega, ?_, pwB_same hB h0, hb⟩
  rw [fmod2] at ho
  rw [fdiv2] at hp ⊢
  rw [← he]
  have e1 : n.toNat = 1 := by omega
  have e2 : (n / 2).toNat = 0 := by omega
  rw [e1, e2, Int.pow_zero, Int.mul_one, Int.pow_succ, Int.pow_zero, Int.one_mul]
theorem pw_even {b0 n0 f b n : Int} (h : pwI b0 n0 f b n) (ho : ¬ n.fmod 2 = 1) (hn : 0 < n) : pwI b0 n0 f (b * b) (n.fdiv 2) := by
  obtain ⟨h0, he, hB, _⟩ := h
  rw [fmod2] at ho
  have hp : 0 < n.fdiv 2 := by rw [fdiv2]; omega
  refine ⟨by omega, ?_, pwB_sq hB hp, pwB_b (pwB_sq hB hp)⟩
  rw [fdiv2] at hp ⊢
  rw [← he, pw_half]
  have e : n.toNat = 2 * (n / 2).toNat := by omega
  rw [e]
theorem pw_less {n : Int} (h : 0 < n) : (n.fdiv 2).toNat < n.toNat := by rw [fdiv2]; omega
theorem pw_end {b0 n0 f b n : Int} (h : pwI b0 n0 f b n) (hn : ¬ 0 < n) : f = b0 ^ n0.toNat := by
  obtain ⟨h0, he, _⟩ := h
  rw [← he]
  have e : n.toNat = 0 := by omega
  rw [e, Int.pow_zero, Int.mul_one]
theorem pwI_mulr {b0 n0 f b n x : Int} (h : pwI b0 n0 f b n) : IntMulOk x b := IntMulOk.of_right (intBits_le_64 (by obtain ⟨_, _, _, q⟩ := h; omega) (by obtain ⟨_, _, _, q⟩ := h; omega))
section
local macro_rules | `(tactic| mul_fits) => `(tactic| (refine' pwI_mulr ?hmI; (case hmI => with_reducible assumption)))
local macro_rules | `(tactic| ksw_less) => `(tactic| ((try dsimp only); (refine pw_less ?hmL); (case hmL => with_reducible assumption)))
local macro_rules | `(tactic| kst_p) => `(tactic| ((try dsimp only); first
  | (refine pw_odd ?ha ?hb ?hc; (case ha => with_reducible assumption); (case hb => with_reducible assumption); (case hc => with_reducible assumption))
  | (refine pw_odd0 ?ha ?hb ?hc; (case ha => with_reducible assumption); (case hb => with_reducible assumption); (case hc => with_reducible assumption))
  | (refine pw_even ?ha ?hb ?hc; (case ha => with_reducible assumption); (case hb => with_reducible assumption); (case hc => with_reducible assumption))
  | (refine pw_start ?ha ?hb ?hc ?hd; (case ha => with_reducible assumption); (case hb => with_reducible assumption); (case hc => with_reducible assumption); (case hd => with_reducible assumption))))
local macro_rules | `(tactic| walk_at "exec While Compare cons nil") => `(tactic| (k_while_given ["base!", "exponent!"] (fun (b0 n0 : Int) (_ : List Int) (f b n : Int) => pwI b0 n0 f b n) (fun _ _ (_ : List Int) _ _ n => n.toNat) "found" "base" "exponent"))
theorem pw_c {w : World} {mean : ExcName → Option Value} {mg mb : Env0} {news : Led} {b n : Int} {tb tn : Tok} (hb1 : -64 < b) (hb2 : b < 64) (hn0 : 0 ≤ n) (hn7 : n ≤ 7) :
    Says 3 w mean mg mb 137 news [.int b tb, .int n tn] (IntRet news (b ^ n.toNat)) := by
  unfold Says
  intro dp un gd cn cs a ccd cl outer A₀ base h₀ L m s Q E B F X N T hk hdp hun hret
  refine wpAny_call ?_
  k_dflt cell_enter
  k_steps
  all_goals first | cell_end hret (by refine' pw_end ?hx ?hy; (case hx => with_reducible assumption); (case hy => with_reducible assumption)) IntRet
end
local macro_rules | `(tactic| walk_at "call ref") => `(tactic| (k_here; (with_reducible show wpAny _ _ (call (Value.ref 137) _) _ _ _); k_dflt (refine' (pw_c ?h0 ?h1 ?h2 ?h3).use ?k1 ?k2 ?k3 ?k4 ?k5 ?kK ?kd ?ku ?_; (case k1 => k_asm); (case k2 => k_asm); (case k3 => k_asm); (case k4 => k_asm); (case k5 => k_asm); (case kK => first | exact rfl | assumption); (case kd => ktr_room); (case ku => ktr_units); (case h0 => first | with_reducible assumption | omega | k_extra "need"); (case h1 => first | with_reducible assumption | omega | k_extra "need"); (case h2 => first | with_reducible assumption | omega | k_extra "need"); (case h3 => first | with_reducible assumption | omega | k_extra "need")); (unfold IntRet; intro t' h' tk' F' N'; (try dsimp only); (try k_fold))))
theorem lp_start (b : Int) : (1 : Int) = b ^ ([] : List Int).length := by simp
theorem lp_turn {f b : Int} {pre : List Int} {k : Int} (h : f = b ^ pre.length) : f * b = b ^ (pre ++ [k]).length := by
  rw [h, List.length_append, List.length_singleton, Int.pow_succ]
theorem lp_end {f b n : Int} (h : f = b ^ (rangeKs 0 (n - 0).toNat).length) : f = b ^ n.toNat := by
  rw [h, rangeKs_length, Int.sub_zero]
section
local macro_rules | `(tactic| mul_fits) => `(tactic| exact IntMulOk.of_right (intBits_le_64 (by omega) (by omega)))
local macro_rules | `(tactic| kst_p) => `(tactic| ((try dsimp only); first | exact lp_start _ | (refine lp_turn ?lpH; (case lpH => with_reducible assumption))))
local macro_rules | `(tactic| walk_at "pyIter ref") => `(tactic| (k_state_given ["number"] (fun (b : Int) (pre : List Int) (f : Int) => f = b ^ pre.length) "found"))
theorem lp_c {w : World} {mean : ExcName → Option Value} {mg mb : Env0} {news : Led} {b n : Int} {tb tn : Tok} (hb1 : -64 < b) (hb2 : b < 64) (hn0 : 0 ≤ n) (hn7 : n ≤ 7) :
    Says 3 w mean mg mb 170 news [.int b tb, .int n tn] (IntRet news (b ^ n.toNat)) := by
  unfold Says
  intro dp un gd cn cs a ccd cl outer A₀ base h₀ L m s Q E B F X N T hk hdp hun hret
  refine wpAny_call ?_
  k_dflt cell_enter
  k_steps
  all_goals first | cell_end hret (by refine lp_end ?_; with_reducible assumption) IntRet
end
local macro_rules | `(tactic| walk_at "call ref") => `(tactic| (k_here; (with_reducible show wpAny _ _ (call (Value.ref 170) _) _ _ _); k_dflt (refine' (lp_c ?h0 ?h1 ?h2 ?h3).use ?k1 ?k2 ?k3 ?k4 ?k5 ?kK ?kd ?ku ?_; (case k1 => k_asm); (case k2 => k_asm); (case k3 => k_asm); (case k4 => k_asm); (case k5 => k_asm); (case kK => first | exact rfl | assumption); (case kd => ktr_room); (case ku => ktr_units); (case h0 => first | with_reducible assumption | omega | k_extra "need"); (case h1 => first | with_reducible assumption | omega | k_extra "need"); (case h2 => first | with_reducible assumption | omega | k_extra "need"); (case h3 => first | with_reducible assumption | omega | k_extra "need")); (unfold IntRet; intro t' h' tk' F' N'; (try dsimp only); (try k_fold))))
theorem sp_c {w : World} {mean : ExcName → Option Value} {mg mb : Env0} {news : Led} {p M X t : Int} {tp tt k1 k2 t1 t2 : Tok} {x dx : Addr} (hx : (x, instObj 70 dx) ∈ news) (hdx : (dx, realD w k1 M t1 k2 X t2) ∈ news)
    (hp : 0 ≤ p) (hp2 : p ≤ 10) (hM0 : M ≠ 0) (hM1 : -64 < M) (hM2 : M < 64) (hX1 : -100 ≤ X) (hX2 : X ≤ 100) (ht1 : -7 ≤ t) (ht2 : t ≤ 7) :
    Says 9 w mean mg mb 144 news [.int p tp, .ref x, .int t tt] (RealRet w news (spF p M X t)) := by
  unfold Says
  intro dp un gd cn cs a ccd cl outer A₀ base h₀ L m s Q E B F XX N' T hk hdp hun hret
  have hq := powF_facts hM0 hM1 hM2 ht1 ht2
  have hXt := mul_t hX1 hX2 ht1 ht2
  have hr1 := fun h0 => rd_out (p := p) (τ := 1) (N := absF (powF M t)) hp hp2 (by omega) h0 (by rw [← Int.natAbs_of_nonneg (absF_nonneg _), absF_natAbs]; omega)
  have hr0 := fun h0 => rd_out (p := p) (τ := -1) (N := absF (powF M t)) hp hp2 (by omega) h0 (by rw [← Int.natAbs_of_nonneg (absF_nonneg _), absF_natAbs]; omega)
  have hr1 := hr1 (by unfold absF; split <;> omega)
  have hr0 := hr0 (by unfold absF; split <;> omega)
  unfold powF absF at hq
  unfold powF absF at hr1 hr0
  refine wpAny_call ?_
  k_dflt cell_enter
  k_steps
  all_goals first
    | (have h9 := spF_pos (p := p) (M := M) (X := X) (t := t) (by assumption); cell_end hret (by exact h9) RealRet)
    | (have h9 := spF_neg1 (p := p) (M := M) (X := X) (t := t) (by assumption) (by assumption); cell_end hret (by exact h9) RealRet)
    | (have h9 := spF_neg0 (p := p) (M := M) (X := X) (t := t) (by assumption) (by assumption); cell_end hret (by exact h9) RealRet)
section
def CondR (b r k : Int) : Prop := b < 2 * r ∨ (2 * r = b ∧ k.fmod 2 = 1)
def IfMet (h₀ : Heap) (L : Addr) (m : Env0) (news : Led) (s : Shared) (b r k : Int) (f : Flow) (s₂ : Shared) : Prop :=
  f = .next ∧ ∃ (v : Int) (t : Tok) (h : Heap) (tk : Nat), s₂ = { s with heap := h, toks := tk } ∧ Fr h₀ L h (fun y => if y = PySem.Str.ofString "mantissa" then some (.int v t) else m y) ∧ News h₀ L h news ∧ ((CondR b r k ∧ v = k + 1) ∨ (¬ CondR b r k ∧ v = k))
theorem if_meet {M : Model} {A : Around} {E : Value → Shared → Prop} {Q : Flow → Shared → Prop} {s : Shared} {env : Env} {h₀ : Heap} {L : Addr} {m : Env0} {news : Led} {test : PySem.Expr} {body orelse : List Stmt} {pos : Pos} {b r k : Int} {t1 t2 t3 : Tok}
    (_F : Fr h₀ L s.heap m) (_N : News h₀ L s.heap news) (_hb : m (PySem.Str.ofString "bottom") = some (.int b t1)) (_hr : m (PySem.Str.ofString "rest") = some (.int r t2)) (_hk : m (PySem.Str.ofString "mantissa") = some (.int k t3))
    (hc : wpAny M A (isTrue test env (eval test env)) (fun c s₂ => if c = true then wpAny M A (execs body env) (fun f s₃ => IfMet h₀ L m news s b r k f s₃) E s₂ else wpAny M A (execs orelse env) (fun f s₃ => IfMet h₀ L m news s b r k f s₃) E s₂) E s)
    (hq : ∀ (v : Int) (t : Tok) (h : Heap) (tk : Nat), ((CondR b r k ∧ v = k + 1) ∨ (¬ CondR b r k ∧ v = k)) → Fr h₀ L h (fun y => if y = PySem.Str.ofString "mantissa" then some (.int v t) else m y) → News h₀ L h news → Q .next { s with heap := h, toks := tk }) :
    wpAny M A (exec (.If test body orelse pos) env) Q E s :=
  wpAny_mono (wpAny_If hc) (fun f s₂ h => by
    obtain ⟨rfl, v, t, h', tk, rfl, F, N, c⟩ := h
    exact hq v t h' tk c F N) fun _ _ e => e
theorem met_then {s : Shared} {h₀ h : Heap} {L : Addr} {m : Env0} {news : Led} {b r k : Int} {t : Tok} {tk : Nat} (F : Fr h₀ L h (fun y => if y = PySem.Str.ofString "mantissa" then some (.int (k + 1) t) else m y)) (N : News h₀ L h news) (c : b < 2 * r ∨ (2 * r = b ∧ k.fmod 2 = 1)) :
    IfMet h₀ L m news s b r k .next { s with heap := h, toks := tk } := ⟨rfl, k + 1, t, h, tk, rfl, F, N, .inl ⟨c, rfl⟩⟩
theorem met_else {s : Shared} {h₀ h : Heap} {L : Addr} {m : Env0} {news : Led} {b r k : Int} {t : Tok} {tk : Nat} (F : Fr h₀ L h m) (N : News h₀ L h news) (hm : m (PySem.Str.ofString "mantissa") = some (.int k t)) (c : ¬ (b < 2 * r ∨ (2 * r = b ∧ k.fmod 2 = 1))) :
    IfMet h₀ L m news s b r k .next { s with heap := h, toks := tk } := by
  refine ⟨rfl, k, t, h, tk, rfl, ?_, N, .inr ⟨c, rfl⟩⟩
  have e : (fun y => if y = PySem.Str.ofString "mantissa" then some (Value.int k t) else m y) = m := by
    funext y
    by_cases hy : y = PySem.Str.ofString "mantissa"
    · rw [if_pos hy, hy, hm]
    · rw [if_neg hy]
  rw [e]
  exact F
theorem news_drop1 {h₀ h : Heap} {L : Addr} {a : Addr × Obj} {r : Led} (N : News h₀ L h (a :: r)) : News h₀ L h r := fun q hq => N q (.tail _ hq)
structure MetMark : Prop where
  one : True
def P2 (e top bottom T B : Int) : Prop := (0 < e ∧ T = top ∧ B = bottom * 2 ^ e.toNat) ∨ (¬ 0 < e ∧ T = top * 2 ^ (0 - e).toNat ∧ B = bottom)
def P3 (p T B e B2 e2 : Int) : Prop := (B * 2 ^ p.toNat ≤ T ∧ B2 = 2 * B ∧ e2 = e + 1) ∨ (¬ B * 2 ^ p.toNat ≤ T ∧ B2 = B ∧ e2 = e)
/-- the frame with two ints stored, y behind x -/
def up2 (m : Env0) (x y : PySem.Str) (a : Int) (t : Tok) (b : Int) (t' : Tok) : Env0 := fun z => if z = y then some (.int b t') else if z = x then some (.int a t) else m z
def Met2 (P : Int → Int → Prop) (x y : PySem.Str) (h₀ : Heap) (L : Addr) (m : Env0) (news : Led) (s : Shared) (f : Flow) (s₂ : Shared) : Prop :=
  f = .next ∧ ∃ (a b : Int) (t t' : Tok) (h : Heap) (tk : Nat), s₂ = { s with heap := h, toks := tk } ∧ Fr h₀ L h (up2 m x y a t b t') ∧ News h₀ L h news ∧ P a b
theorem meet2 {M : Model} {A : Around} {E : Value → Shared → Prop} {Q : Flow → Shared → Prop} {s : Shared} {env : Env} {h₀ : Heap} {L : Addr} {m : Env0} {news : Led} {st : Stmt} {P : Int → Int → Prop} {x y : PySem.Str}
    (hc : MetMark → wpAny M A (exec st env) (fun f s₃ => Met2 P x y h₀ L m news s f s₃) E s)
    (hq : ∀ (a b : Int) (t t' : Tok) (h : Heap) (tk : Nat), P a b → Fr h₀ L h (up2 m x y a t b t') → News h₀ L h news → Q .next { s with heap := h, toks := tk }) :
    wpAny M A (exec st env) Q E s :=
  wpAny_mono (hc ⟨trivial⟩) (fun f s₂ h => by
    obtain ⟨rfl, a, b, t, t', h', tk, rfl, F, N, c⟩ := h
    exact hq a b t t' h' tk c F N) fun _ _ e => e
theorem meetA {M : Model} {A : Around} {E : Value → Shared → Prop} {Q : Flow → Shared → Prop} {s : Shared} {env : Env} {h₀ : Heap} {L : Addr} {m : Env0} {news : Led} {st : Stmt} {e top bottom : Int} {t1 t2 t3 : Tok}
    (_F : Fr h₀ L s.heap m) (_N : News h₀ L s.heap news) (_he : m (PySem.Str.ofString "exponent") = some (.int e t1)) (_ht : m (PySem.Str.ofString "top") = some (.int top t2)) (_hb : m (PySem.Str.ofString "bottom") = some (.int bottom t3))
    (hc : MetMark → wpAny M A (exec st env) (fun f s₃ => Met2 (P2 e top bottom) (PySem.Str.ofString "top") (PySem.Str.ofString "bottom") h₀ L m news s f s₃) E s)
    (hq : ∀ (a b : Int) (t t' : Tok) (h : Heap) (tk : Nat), P2 e top bottom a b → Fr h₀ L h (fun z => if z = PySem.Str.ofString "bottom" then some (.int b t') else if z = PySem.Str.ofString "top" then some (.int a t) else m z) → News h₀ L h news → Q .next { s with heap := h, toks := tk }) :
    wpAny M A (exec st env) Q E s := meet2 hc hq
theorem meetB {M : Model} {A : Around} {E : Value → Shared → Prop} {Q : Flow → Shared → Prop} {s : Shared} {env : Env} {h₀ : Heap} {L : Addr} {m : Env0} {news : Led} {st : Stmt} {p e T B : Int} {t1 t2 t3 t4 : Tok}
    (_F : Fr h₀ L s.heap m) (_N : News h₀ L s.heap news) (_hp : m (PySem.Str.ofString "precision") = some (.int p t4)) (_he : m (PySem.Str.ofString "exponent") = some (.int e t1)) (_ht : m (PySem.Str.ofString "top") = some (.int T t2)) (_hb : m (PySem.Str.ofString "bottom") = some (.int B t3))
    (hc : MetMark → wpAny M A (exec st env) (fun f s₃ => Met2 (P3 p T B e) (PySem.Str.ofString "bottom") (PySem.Str.ofString "exponent") h₀ L m news s f s₃) E s)
    (hq : ∀ (a b : Int) (t t' : Tok) (h : Heap) (tk : Nat), P3 p T B e a b → Fr h₀ L h (fun z => if z = PySem.Str.ofString "exponent" then some (.int b t') else if z = PySem.Str.ofString "bottom" then some (.int a t) else m z) → News h₀ L h news → Q .next { s with heap := h, toks := tk }) :
    wpAny M A (exec st env) Q E s := meet2 hc hq
theorem met2_end {P : Int → Int → Prop} {x y : PySem.Str} {h₀ : Heap} {L : Addr} {m : Env0} {news news' : Led} {s : Shared} {a b : Int} {t t' : Tok} {h : Heap} {tk : Nat} (F : Fr h₀ L h (fun z => if z = y then some (.int b t') else if z = x then some (.int a t) else m z)) (N : News h₀ L h news') (hN : ∀ q ∈ news, q ∈ news') (c : P a b) :
    Met2 P x y h₀ L m news s .next { s with heap := h, toks := tk } := ⟨rfl, a, b, t, t', h, tk, rfl, F, fun q hq => N q (hN q hq), c⟩
theorem met2_any {P : Int → Int → Prop} {x y : PySem.Str} {h₀ : Heap} {L : Addr} {m m' : Env0} {news news' : Led} {s : Shared} {a b : Int} {t t' : Tok} {h : Heap} {tk : Nat} (F : Fr h₀ L h m') (N : News h₀ L h news') (hN : ∀ q ∈ news, q ∈ news') (hy : m' y = some (.int b t')) (hx : m' x = some (.int a t)) (hxy : x ≠ y) (hr : ∀ z, z ≠ y → z ≠ x → m' z = m z) (c : P a b) :
    Met2 P x y h₀ L m news s .next { s with heap := h, toks := tk } := by
  refine ⟨rfl, a, b, t, t', h, tk, rfl, ?_, fun q hq => N q (hN q hq), c⟩
  have e : up2 m x y a t b t' = m' := by
    funext z
    show (if z = y then some (Value.int b t') else if z = x then some (Value.int a t) else m z) = m' z
    by_cases h1 : z = y
    · rw [if_pos h1, h1, hy]
    · rw [if_neg h1]
      by_cases h2 : z = x
      · rw [if_pos h2, h2, hx]
      · rw [if_neg h2, hr z h1 h2]
  rw [e]
  exact F
theorem met2_same {P : Int → Int → Prop} {x y : PySem.Str} {h₀ : Heap} {L : Addr} {m : Env0} {news : Led} {s : Shared} {a b : Int} {t t' : Tok} {h : Heap} {tk : Nat} (F : Fr h₀ L h m) (N : News h₀ L h news) (hx : m x = some (.int a t)) (hy : m y = some (.int b t')) (c : P a b) :
    Met2 P x y h₀ L m news s .next { s with heap := h, toks := tk } := by
  refine ⟨rfl, a, b, t, t', h, tk, rfl, ?_, N, c⟩
  have e : up2 m x y a t b t' = m := by
    funext z
    show (if z = y then some (Value.int b t') else if z = x then some (Value.int a t) else m z) = m z
    by_cases h1 : z = y
    · rw [if_pos h1, h1, hy]
    · rw [if_neg h1]
      by_cases h2 : z = x
      · rw [if_pos h2, h2, hx]
      · rw [if_neg h2]
  rw [e]
  exact F
theorem bits100 {x : Int} (h : x.natAbs < 2 ^ 100) : intBits x ≤ 100 := PySem.intBits_le_iff.mpr h
local macro_rules | `(tactic| bits_by_make) => `(tactic| exact bits100 (by omega))
local macro_rules | `(tactic| walk_at "exec Assign") => `(tactic| ((with_reducible show wpAny _ _ (exec (Stmt.Assign _ (PySem.Expr.IfExp _ _ _ _) _) _) _ _ _); (fail_if_success (rename MetMark => mk9)); (rename Fr _ _ _ _ => cF'); (rename News _ _ _ _ => cN'); (with_unfolding_all refine' meetA cF' cN' (by rfl) (by rfl) (by rfl) (fun mk8 => ?_) ?_); rotate_left; (intro a' b' t' t2' h' tk' hv' F' N'; (have hw' := hv'); unfold P2 at hw'; (try dsimp only); (try k_fold)); rotate_left))
local macro_rules | `(tactic| walk_at "exec If") => `(tactic| ((with_reducible show wpAny _ _ (exec (Stmt.If (PySem.Expr.Compare _ _ _ _) _ _ _) _) _ _ _); (fail_if_success (rename MetMark => mk9)); (rename Fr _ _ _ _ => cF'); (rename News _ _ _ _ => cN'); (with_unfolding_all refine' meetB cF' cN' (by rfl) (by rfl) (by rfl) (by rfl) (fun mk8 => ?_) ?_); rotate_left; (intro a' b' t' t2' h' tk' hv' F' N'; (have hw' := hv'); unfold P3 at hw'; (try dsimp only); (try k_fold)); rotate_left))
local macro_rules | `(tactic| walk_at "Met2") => `(tactic| first
  | (refine' met2_end ?mF ?mN ?mS ?mC; (case mF => with_reducible assumption); (case mN => assumption); (case mS => first | exact fun _ h => h | exact sub01 | exact sub02); (case mC => first | (refine' Or.inl ⟨?x1, ?y1, ?z1⟩; (case y1 => with_reducible rfl); (case z1 => with_reducible rfl); (case x1 => with_reducible assumption)) | (refine' Or.inr ⟨?x1, ?y1, ?z1⟩; (case y1 => with_reducible rfl); (case z1 => with_reducible rfl); (case x1 => with_reducible assumption))))
  | (refine' met2_any ?mF ?mN ?mS ?mY ?mX ?mD ?mR ?mC; (case mF => assumption); (case mN => assumption); (case mS => first | exact fun _ h => h | exact sub01 | exact sub02); (case mY => with_unfolding_all rfl); (case mX => with_unfolding_all rfl); (case mD => decide); (case mR => (intro z h1 h2; (simp only [h1, h2, if_false]))); (case mC => first | (refine' Or.inl ⟨?x1, ?y1, ?z1⟩; (case y1 => with_reducible rfl); (case z1 => with_reducible rfl); (case x1 => with_reducible assumption)) | (refine' Or.inr ⟨?x1, ?y1, ?z1⟩; (case y1 => with_reducible rfl); (case z1 => with_reducible rfl); (case x1 => with_reducible assumption))))
  | (refine' met2_same ?mF ?mN ?mX ?mY ?mC; (case mF => k_asm); (case mN => k_asm); (case mX => with_unfolding_all rfl); (case mY => with_unfolding_all rfl); (case mC => (refine' Or.inr ⟨?x1, ?y1, ?z1⟩; (case y1 => with_reducible rfl); (case z1 => with_reducible rfl); (case x1 => with_reducible assumption)))))
local macro_rules | `(tactic| walk_at "exec If") => `(tactic| ((with_reducible show wpAny _ _ (exec (Stmt.If (PySem.Expr.BoolOp _ _ _) _ _ _) _) _ _ _); (rename Fr _ _ _ _ => cF'); (rename News _ _ _ _ => cN'); (with_unfolding_all refine' if_meet cF' cN' (by rfl) (by rfl) (by rfl) ?_ ?_); rotate_left; (intro v' t' h' tk' hv' F' N'; (try dsimp only); (try k_fold)); rotate_left))
local macro_rules | `(tactic| walk_at "IfMet") => `(tactic| first | (refine' met_then ?mF ?mN ?mC; (case mF => assumption); (case mN => k_asm); (case mC => omega)) | (refine' met_else ?mF ?mN ?mM ?mC; (case mF => k_asm); (case mN => k_asm); (case mM => with_unfolding_all rfl); (case mC => omega)))
local macro_rules | `(tactic| walk_at "exec While Compare cons nil") => `(tactic| ((rename News _ _ _ _ => n9); (have n8 := news_drop1 n9); clear n9; k_while_given ["mantissa!", "exponent!"] (fun m0 e0 (_ : List Int) m e => 1 ≤ m ∧ leanF m e = leanF m0 e0) (fun _ _ (_ : List Int) m _ => m.toNat) "mantissa" "exponent"))
local macro_rules | `(tactic| kst_in) => `(tactic| exact fun _ hq => List.mem_cons_of_mem _ hq)
local macro_rules | `(tactic| kst_p) => `(tactic| ((try dsimp only); first | exact turn_ok (by with_reducible assumption) (by with_reducible assumption) (by with_reducible assumption) | (refine' start_ok (lrF_of ?h3 ?h2 ?h1) (by with_reducible assumption); (case h3 => ((rename (CondR _ _ _ ∧ _) ∨ _ => h9); k_dflt (exact h9))); (case h2 => ((rename P3 _ _ _ _ _ _ => h9); k_dflt (exact h9))); (case h1 => ((rename P2 _ _ _ _ _ => h9); k_dflt (exact h9))))))
local macro_rules | `(tactic| ksw_less) => `(tactic| ((try dsimp only); exact turn_less (by with_reducible assumption)))
local macro_rules | `(tactic| cell_eq) => `(tactic| (refine' end_ok (lrF_of ?h3 ?h2 ?h1) (turn_end (by with_reducible assumption) (by with_reducible assumption)); (case h3 => ((rename (CondR _ _ _ ∧ _) ∨ _ => h9); k_dflt (exact h9))); (case h2 => ((rename P3 _ _ _ _ _ _ => h9); k_dflt (exact h9))); (case h1 => ((rename P2 _ _ _ _ _ => h9); k_dflt (exact h9)))))
theorem lr_c {w : World} {mean : ExcName → Option Value} {mg mb : Env0} {news : Led} {p top bottom : Int} {tp tt tb : Tok} (hp : 0 ≤ p) (hp2 : p ≤ 10) (ht : 1 ≤ top) (ht2 : top < 2 ^ 43) (hb : 1 ≤ bottom) (hb2 : bottom < 2 ^ 43) (hm : 1 ≤ lrM p top bottom) :
    Says 3 w mean mg mb 163 news [.int p tp, .int top tt, .int bottom tb] (TupRet news (lrF p top bottom)) := by
  unfold Says
  intro dp un gd cn cs a ccd cl outer A₀ base h₀ L m s Q E B F XX N' T hk hdp hun hret
  have b1 := bits_le (m := 43) (x := top) (by omega)
  have b10 := bits_nonneg top
  have b2 := bits_le (m := 43) (x := bottom) (by omega)
  have b20 := bits_nonneg bottom
  have s1 := sh_facts (k := (intBits top : Int) - (intBits bottom : Int) - p) hb hb2 (by omega)
  refine wpAny_call ?_
  k_dflt cell_enter
  k_steps
  all_goals first | cell_end hret (by cell_eq) TupRet
end
section
/-- an int in 0 .. many - 1 comes back; the deck (at D) is still a list of ints, no longer than it was -/
def DrawRet (D : Addr) (own : Led) (b : Nat) (many : Int) (h₀ : Heap) (L : Addr) (m : Env0) (s : Shared) (Q : Value → Shared → Prop) : Prop :=
  ∀ (us : List Value) (ns : List Int) (n : Nat) (r : Int) (t : Tok) (h' : Heap) (tk' : Nat), Fr h₀ L h' m → News h₀ L h' ((D, listOf us.toArray n) :: own) → IntsAre us ns → ns.length ≤ b → 0 ≤ r → r < many →
    Q (.int r t) { s with heap := h', toks := tk' }
theorem DrawRet.done {D : Addr} {own news' : Led} {b : Nat} {many : Int} {h₀ : Heap} {L : Addr} {m : Env0} {s : Shared} {Q : Value → Shared → Prop} (H : DrawRet D own b many h₀ L m s Q)
    {us : List Value} {ns : List Int} {n : Nat} {r : Int} {t : Tok} {h' : Heap} {tk' : Nat} (F : Fr h₀ L h' m) (N : News h₀ L h' news') (hN : ∀ p ∈ (D, listOf us.toArray n) :: own, p ∈ news') (hi : IntsAre us ns) (hl : ns.length ≤ b) (h0 : 0 ≤ r) (h1 : r < many) :
    Q (.int r t) { s with heap := h', toks := tk' } := H us ns n r t h' tk' F (fun p hp => N p (hN p hp)) hi hl h0 h1
theorem pop0 {prog : Program} {w : World} {A : Around} {E : Value → Shared → Prop} {s : Shared} {h₀ : Heap} {L D : Addr} {m : Env0} {news news' : Led} {n : Nat} {us : List Value} {ns : List Int} {u : Tok} {Q : Value → Shared → Prop}
    (F : Fr h₀ L s.heap m) (N : News h₀ L s.heap news) (hi : IntsAre us ns) (hne : ns ≠ []) (hz : us.length ≤ sizeLine) (U : Upd D (listOf us.toArray n) (listOf us.tail.toArray (n + 1)) news news')
    (h : ∀ h' x t, Fr h₀ L h' m → News h₀ L h' news' → IntsAre us.tail ns.tail → ns.tail.length + 1 = ns.length → Q (.int x t) { s with heap := h' }) : wpAny (model prog w) A (call (.builtin "list.pop") [.ref D, .int 0 u]) Q E s := by
  cases hi with
  | nil => exact absurd rfl hne
  | cons k t r =>
    rename_i vs ks
    refine kl_popAt (k := 0) (p := []) (q := vs) (y := .int k t) F N rfl ?_ rfl U (by simpa using hz) fun h' F' N' => h h' k t F' N' r rfl
    simp [seqIndex?]
theorem mod_bounds {a b : Int} (h : 0 < b) : 0 ≤ a.fmod b ∧ a.fmod b < b := by
  rw [Int.fmod_eq_emod_of_nonneg _ (by omega)]
  exact ⟨Int.emod_nonneg _ (by omega), Int.emod_lt_of_pos _ h⟩
theorem idx0 {d : List Int} (h : decide (d = []) = false) : (0 : Int) < (d.length : Int) := by
  cases d with
  | nil => simp at h
  | cons x r => simp only [List.length_cons]; omega
theorem ne_dec {d : List Int} (h : decide (d = []) = false) : d ≠ [] := by simpa using h
local macro_rules | `(tactic| l_idx) => `(tactic| exact idx0 (by with_reducible assumption))
local macro_rules | `(tactic| k_all) => `(tactic| assumption)
local macro_rules | `(tactic| ke_room) => `(tactic| ktr_units)
local macro_rules | `(tactic| walk_at "exec While BoolOp") => `(tactic| (k_while_given ["deck!"] (fun (d0 : List Int) (_ : List Int) (d : List Int) => d.length ≤ d0.length) (fun _ (_ : List Int) (d : List Int) => d.length) "deck"))
local macro_rules | `(tactic| walk_at "call builtin:list.pop") => `(tactic| (k_here; (k_dflt (show wpAny _ _ (call (Value.builtin _) [Value.ref _, Value.int _ _]) _ _ _)); k_dflt (refine' pop0 ?F ?N ?i ?e ?z ?U ?_; (case F => k_asm); (case N => k_asm); (case U => k_upd); (case i => with_reducible assumption); (case e => exact ne_dec (by with_reducible assumption)); (case z => (rw [PySem.sizeLine_eq]; omega))); (intro h' x' t' F' N' hi' hl')))
local macro_rules | `(tactic| walk_at "binaryOp FloorDiv int int") => `(tactic| ((with_reducible refine floordiv_int ?fb ?_ (Or.inl (noPy ?fp))); (case fb => omega); (case fp => omega)))
local macro_rules | `(tactic| cell_end $h:term $q:term DrawRet) => `(tactic| (refine' DrawRet.done $h ?F ?N ?hN ?hi ?hl ?h0 ?h1; (case hi => assumption); (case F => k_asm); (case N => assumption); (case hN => kcj_all); (case hl => first | omega | ((try simp only [List.length_set]); omega)); (case h0 => first | omega | exact ($q).1); (case h1 => first | omega | exact ($q).2)))
theorem draw_c {w : World} {mean : ExcName → Option Value} {mg mb : Env0} {own : Led} {D : Addr} {us : List Value} {ns : List Int} {n : Nat} {many : Int} {tm : Tok} (hi : IntsAre us ns) (hl : ns.length ≤ 12) (hoff : ∀ p ∈ own, p.1 ≠ D) (hm : 0 < many) (hm2 : many < 2 ^ 60) :
    Says 12 w mean mg mb 156 ((D, listOf us.toArray n) :: own) [.ref D, .int many tm] (DrawRet D own ns.length many) := by
  unfold Says
  intro dp un gd cn cs a ccd cl outer A₀ base h₀ L m s Q E B F XX N' T hk hdp hun hret
  refine wpAny_call ?_
  k_dflt cell_enter
  k_steps
  all_goals first | cell_end hret (mod_bounds hm) DrawRet
end
local macro_rules | `(tactic| walk_at "call ref") => `(tactic| (k_here; (with_reducible show wpAny _ _ (call (Value.ref 163) _) _ _ _); k_dflt (refine' (lr_c ?h0 ?h1 ?h2 ?h3 ?h4 ?h5 ?h6).use ?k1 ?k2 ?k3 ?k4 ?k5 ?kK ?kd ?ku ?_; (case k1 => k_asm); (case k2 => k_asm); (case k3 => k_asm); (case k4 => k_asm); (case k5 => k_asm); (case kK => first | exact rfl | assumption); (case kd => ktr_room); (case ku => ktr_units); (case h0 => first | with_reducible assumption | omega | k_extra "need"); (case h1 => first | with_reducible assumption | omega | k_extra "need"); (case h2 => first | with_reducible assumption | omega | k_extra "need"); (case h3 => first | with_reducible assumption | omega | k_extra "need"); (case h4 => first | with_reducible assumption | omega | k_extra "need"); (case h5 => first | with_reducible assumption | omega | k_extra "need"); (case h6 => first | with_reducible assumption | omega | k_extra "need")); (unfold TupRet; intro D' t1' t2' c' h' tk' F' N' l1; (try dsimp only); (try k_fold))))
theorem due_c {w : World} {mean : ExcName → Option Value} {mg mb : Env0} {news : Led} {p M X t : Int} {tp tM tX tt : Tok} (hp : 0 ≤ p) (hp2 : p ≤ 10) (hM1 : 1 ≤ M) (hM2 : M < 64) (hX1 : -100 ≤ X) (hX2 : X ≤ 100) (ht1 : -7 ≤ t) (ht2 : t ≤ 7)
    (hm : 1 ≤ lrM p (if 0 ≤ t then powF M t else 1) (if 0 ≤ t then 1 else powF M t)) :
    Says 5 w mean mg mb 177 news [.int p tp, .int M tM, .int X tX, .int t tt] (TupRet news (dueF p M X t)) := by
  unfold Says
  intro dp un gd cn cs a ccd cl outer A₀ base h₀ L m s Q E B F XX N' T hk hdp hun hret
  have hq := powF_facts (M := M) (t := t) (by omega) (by omega) hM2 ht1 ht2
  have hq0 := powF_pos (M := M) (t := t) (by omega)
  have hXt := mul_t hX1 hX2 ht1 ht2
  by_cases h0t : 0 ≤ t
  · rw [if_pos h0t, if_pos h0t] at hm
    have h9 := dueF_pos (p := p) (M := M) (X := X) h0t
    rw [← h9] at hret
    clear h9
    unfold powF absF at hq hq0 hm hret
    refine wpAny_call ?_
    k_dflt cell_enter
    k_steps
    all_goals first | cell_end hret (by with_reducible rfl) TupRet
  · rw [if_neg h0t, if_neg h0t] at hm
    have h9 := dueF_neg (p := p) (M := M) (X := X) h0t
    rw [← h9] at hret
    clear h9
    unfold powF absF at hq hq0 hm hret
    refine wpAny_call ?_
    k_dflt cell_enter
    k_steps
    all_goals first | cell_end hret (by with_reducible rfl) TupRet
end Mine
/-! text D0 -/
namespace Mine
open PySem.Builtin (bitAnd)
open PySem.Builtin.Int (intBits)
variable {w : World} {mean : ExcName → Option Value} {mg mb : Env0} {news : Led}
theorem Says.mono {r : Nat} {f : Addr} {vs : List Value} {Ret Ret' : Heap → Addr → Env0 → Shared → (Value → Shared → Prop) → Prop} (C : Says r w mean mg mb f news vs Ret) (h : ∀ h₀ L m s Q, Ret' h₀ L m s Q → Ret h₀ L m s Q) : Says r w mean mg mb f news vs Ret' :=
  fun dp un gd cn cs a ccd cl outer A₀ base h₀ L m s Q E B F X N T hk hd hu hr => C dp un gd cn cs a ccd cl outer A₀ base h₀ L m s Q E B F X N T hk hd hu (h _ _ _ _ _ hr)

theorem lean_small : (List.range 63).all (fun i => decide (1 ≤ (leanF ((i : Int) + 1) 0).1 ∧ (leanF ((i : Int) + 1) 0).1 ≤ (i : Int) + 1 ∧ (leanF ((i : Int) + 1) 0).1 % 2 = 1 ∧ 0 ≤ (leanF ((i : Int) + 1) 0).2 ∧ (leanF ((i : Int) + 1) 0).2 ≤ 6)) = true := by decide +kernel
theorem lean_facts {M Y : Int} (h1 : 1 ≤ M) (h2 : M < 64) : 1 ≤ (leanF M Y).1 ∧ (leanF M Y).1 ≤ M ∧ (leanF M Y).1 % 2 = 1 ∧ Y ≤ (leanF M Y).2 ∧ (leanF M Y).2 ≤ Y + 6 := by
  have a := of_decide_eq_true (chk_all lean_small (i := (M - 1).toNat) (by omega))
  have e : (((M - 1).toNat : Nat) : Int) + 1 = M := by omega
  rw [e] at a
  have b := lean_shift (M := M) (X := 0) (Y := Y) (by omega)
  rw [b]
  show 1 ≤ (leanF M 0).1 ∧ (leanF M 0).1 ≤ M ∧ (leanF M 0).1 % 2 = 1 ∧ Y ≤ (leanF M 0).2 + (Y - 0) ∧ (leanF M 0).2 + (Y - 0) ≤ Y + 6
  omega
/-- a positive mantissa made lean: an odd one, no greater -/
theorem leanpos_c {M Y : Int} {tM tY : Tok} (h1 : 1 ≤ M) (h2 : M < 64) (h3 : -50 ≤ Y) (h4 : Y ≤ 50) :
    Says 3 w mean mg mb 102 news [.int M tM, .int Y tY] (fun h₀ L m s Q => ∀ M1 X1 : Int, 1 ≤ M1 → M1 ≤ M → M1 % 2 = 1 → Y ≤ X1 → X1 ≤ Y + 6 → RealRet w news (M1, X1) h₀ L m s Q) :=
  (lean_c (by omega) (by omega) (by omega)).mono fun _ _ _ _ _ hr =>
    have f := lean_facts (Y := Y) h1 h2
    hr (leanF M Y).1 (leanF M Y).2 f.1 f.2.1 f.2.2.1 f.2.2.2.1 f.2.2.2.2
theorem leanodd_c {M Y : Int} {tM tY : Tok} (h1 : M % 2 = 1) (h0 : -64 < M) (h2 : M < 64) (h3 : -100 ≤ Y) (h4 : Y ≤ 100) :
    Says 3 w mean mg mb 102 news [.int M tM, .int Y tY] (RealRet w news (M, Y)) :=
  (lean_c (by omega) (by omega) (by omega)).mono fun _ _ _ _ _ hr => by rw [lean_odd h1]; exact hr
theorem lsh1 {prog : Program} {A : Around} {E : Value → Shared → Prop} {s : Shared} {p : Int} {t t' : Tok} {Q : Value → Shared → Prop} (h1 : 2 ≤ p) (h2 : p ≤ 6)
    (h : ∀ (u : Int) (k : Tok), u = 2 ^ p.toNat → 4 ≤ u → u ≤ 64 → Q (.int u k) { s with toks := s.toks + 1 }) : wpAny (model prog w) A (binaryOp .LShift (.int 1 t) (.int p t')) Q E s := by
  refine lshift_int_small (by omega) (by omega) (by decide) (h _ _ (by rw [Int.one_mul]) ?_ ?_)
  all_goals
    have hc : p = 2 ∨ p = 3 ∨ p = 4 ∨ p = 5 ∨ p = 6 := by omega
    rcases hc with rfl | rfl | rfl | rfl | rfl <;> decide
theorem lt_64 {p M : Int} (h1 : 2 ≤ p) (h2 : p ≤ 6) (h : M < 2 ^ p.toNat) : M < 64 := by
  have hc : p = 2 ∨ p = 3 ∨ p = 4 ∨ p = 5 ∨ p = 6 := by omega
  rcases hc with rfl | rfl | rfl | rfl | rfl <;> simp at h <;> omega
section
variable {p M X t : Int} {tp tt k1 k2 t1 t2 : Tok} {x dx : Addr}
theorem sp0_c (hx : (x, instObj 70 dx) ∈ news) (hdx : (dx, realD w k1 M t1 k2 X t2) ∈ news) (hp : 2 ≤ p) (hp2 : p ≤ 6) (hM0 : M ≠ 0) (hM1 : -64 < M) (hM2 : M < 64) (hX1 : -100 ≤ X) (hX2 : X ≤ 100) :
    Says 9 w mean mg mb 144 news [.int p tp, .ref x, .int 0 tt] (RealRet w news (1, 0)) :=
  (sp_c hx hdx (by omega) (by omega) hM0 hM1 hM2 hX1 hX2 (by omega) (by omega)).mono fun _ _ _ _ _ hr => by rw [sp_zero hp]; exact hr
theorem sp1_c (hx : (x, instObj 70 dx) ∈ news) (hdx : (dx, realD w k1 M t1 k2 X t2) ∈ news) (hp : 2 ≤ p) (hp2 : p ≤ 6) (hM1 : M < 2 ^ p.toNat) (hM2 : 0 - M < 2 ^ p.toNat) (ho : M % 2 = 1) (hX1 : -100 ≤ X) (hX2 : X ≤ 100) :
    Says 9 w mean mg mb 144 news [.int p tp, .ref x, .int 1 tt] (RealRet w news (M, X)) :=
  have a := lt_64 hp hp2 hM1
  have b := lt_64 hp hp2 hM2
  (sp_c hx hdx (by omega) (by omega) (by omega) (by omega) a hX1 hX2 (by omega) (by omega)).mono fun _ _ _ _ _ hr => by
    rw [sp_one (by
      have hc := kbt_cast p.toNat
      generalize (2 : Int) ^ p.toNat = z at *
      generalize 2 ^ p.toNat = y at *
      omega) (by omega) ho]; exact hr
theorem spP_c (hx : (x, instObj 70 dx) ∈ news) (hdx : (dx, realD w k1 M t1 k2 X t2) ∈ news) (hp : 2 ≤ p) (hp2 : p ≤ 6) (hM1 : 1 ≤ M) (hM2 : M < 2 ^ p.toNat) (ho : M % 2 = 1) (hX1 : -100 ≤ X) (hX2 : X ≤ 100) (ht1 : -7 ≤ t) (ht2 : t ≤ 7) :
    Says 9 w mean mg mb 144 news [.int p tp, .ref x, .int t tt] (RealRet w news (dueF p M X t)) :=
  have a := lt_64 hp hp2 hM2
  (sp_c hx hdx (by omega) (by omega) (by omega) (by omega) a hX1 hX2 ht1 ht2).mono fun _ _ _ _ _ hr => by
    rw [(plain (X := X) hp hp2 hM1 hM2 ho ht1 ht2).2.1]; exact hr
theorem spN_c (hx : (x, instObj 70 dx) ∈ news) (hdx : (dx, realD w k1 (0 - M) t1 k2 X t2) ∈ news) (hp : 2 ≤ p) (hp2 : p ≤ 6) (hM1 : 1 ≤ M) (hM2 : M < 2 ^ p.toNat) (ho : M % 2 = 1) (hX1 : -100 ≤ X) (hX2 : X ≤ 100) (ht1 : -7 ≤ t) (ht2 : t ≤ 7) :
    Says 9 w mean mg mb 144 news [.int p tp, .ref x, .int t tt] (fun h₀ L m s Q => ∀ A : Int, (t.fmod 2 = 0 → A = (dueF p M X t).1) → (¬ t.fmod 2 = 0 → A = 0 - (dueF p M X t).1) → RealRet w news (A, (dueF p M X t).2) h₀ L m s Q) :=
  have a := lt_64 hp hp2 hM2
  (sp_c hx hdx (by omega) (by omega) (by omega) (by omega) (by omega) hX1 hX2 ht1 ht2).mono fun _ _ _ _ _ hr => by
    obtain ⟨A, e, h1, h2⟩ := (plain (X := X) hp hp2 hM1 hM2 ho ht1 ht2).2.2
    rw [e]
    rw [fmod2] at hr
    exact hr A h1 h2
theorem dueL_c {tM tX : Tok} (hp : 2 ≤ p) (hp2 : p ≤ 6) (hM1 : 1 ≤ M) (hM2 : M < 2 ^ p.toNat) (ho : M % 2 = 1) (hX1 : -100 ≤ X) (hX2 : X ≤ 100) (ht1 : -7 ≤ t) (ht2 : t ≤ 7) :
    Says 5 w mean mg mb 177 news [.int p tp, .int M tM, .int X tX, .int t tt] (TupRet news (dueF p M X t)) :=
  due_c (by omega) (by omega) hM1 (lt_64 hp hp2 hM2) hX1 hX2 ht1 ht2 (plain (X := X) hp hp2 hM1 hM2 ho ht1 ht2).1
end
theorem news_rot4 {h₀ h : Heap} {L : Addr} {a b c d x : Addr × Obj} {r : Led} (N : News h₀ L h (a :: b :: c :: d :: x :: r)) : News h₀ L h (x :: a :: b :: c :: d :: r) := fun q hq => N q (by
  simp only [List.mem_cons] at hq ⊢
  rcases hq with h | h | h | h | h | h
  · exact .inr (.inr (.inr (.inr (.inl h))))
  · exact .inl h
  · exact .inr (.inl h)
  · exact .inr (.inr (.inl h))
  · exact .inr (.inr (.inr (.inl h)))
  · exact .inr (.inr (.inr (.inr (.inr h)))))
def ValMet (h₀ : Heap) (L : Addr) (m : Env0) (led : Led) (s : Shared) (a : Int) (v : Value) (s₂ : Shared) : Prop :=
  ∃ (t : Tok) (h : Heap) (tk : Nat), v = .int a t ∧ s₂ = { s with heap := h, toks := tk } ∧ Fr h₀ L h m ∧ News h₀ L h led
theorem val_meet {M : Model} {A : Around} {E : Value → Shared → Prop} {Q : Value → Shared → Prop} {s : Shared} {h₀ : Heap} {L : Addr} {m : Env0} {led : Led} {cm : Sem Value} {c : Prop} {a x y : Int} (_p1 : c → a = x) (_p2 : ¬ c → a = y)
    (_F : Fr h₀ L s.heap m) (_N : News h₀ L s.heap led)
    (hc : MetMark → wpAny M A cm (fun v s₃ => ValMet h₀ L m led s a v s₃) E s)
    (hq : ∀ (t : Tok) (h : Heap) (tk : Nat), Fr h₀ L h m → News h₀ L h led → Q (.int a t) { s with heap := h, toks := tk }) : wpAny M A cm Q E s :=
  wpAny_mono (hc ⟨trivial⟩) (fun v s₂ h => by
    obtain ⟨t, h', tk, rfl, rfl, F, N⟩ := h
    exact hq t h' tk F N) fun _ _ e => e
theorem val_end {s : Shared} {h₀ h : Heap} {L : Addr} {m : Env0} {led : Led} {a b : Int} {t : Tok} {tk : Nat} (e : a = b) (F : Fr h₀ L h m) (N : News h₀ L h led) : ValMet h₀ L m led s a (.int b t) { s with heap := h, toks := tk } := ⟨t, h, tk, by rw [e], rfl, F, N⟩
end Mine
/-! THE LAW -/
section
open Mine
local macro_rules | `(tactic| walk_at "call ref") => `(tactic| (k_here; (with_reducible show wpAny _ _ (call (Value.ref 156) _) _ _ _); k_dflt (refine' (draw_c ?h0 ?h1 ?h2 ?h3 ?h4).use ?k1 ?k2 ?k3 ?k4 ?k5 ?kK ?kd ?ku ?_; (case k1 => k_asm); (case k2 => k_asm); (case k3 => k_asm); (case k4 => first | k_asm | (refine' news_rot4 ?k9; (case k9 => k_asm))); (case k5 => k_asm); (case kK => first | exact rfl | assumption); (case kd => ktr_room); (case ku => ktr_units); (case h0 => with_reducible assumption); (case h1 => omega); (case h2 => k_all); (case h3 => omega); (case h4 => omega)); (unfold DrawRet; intro us' ns' n' r' t' h' tk' F' N' hi' hl' h0' h1'; (try k_sweep); (try dsimp only); (try k_fold))))
local macro_rules | `(tactic| walk_at "call ref") => `(tactic| (k_here; (with_reducible show wpAny _ _ (call (Value.ref 102) _) _ _ _); k_dflt (refine' (leanpos_c ?h0 ?h1 ?h2 ?h3).use ?k1 ?k2 ?k3 ?k4 ?k5 ?kK ?kd ?ku ?_; (case k1 => k_asm); (case k2 => k_asm); (case k3 => k_asm); (case k4 => first | k_asm | (refine' news_rot4 ?k9; (case k9 => k_asm))); (case k5 => k_asm); (case kK => first | exact rfl | assumption); (case kd => ktr_room); (case ku => ktr_units); (case h0 => omega); (case h1 => omega); (case h2 => omega); (case h3 => omega)); (intro M1' X1' q1 q2 q3 q4 q5; (unfold RealRet; intro x' d' k1' k2' t1' t2' h' tk' F' N' l1 l2; (try dsimp only at N'); (try simp only [AllLt, and_true] at l1); (try k_lt2 l2); (try k_sweep); (try dsimp only); (try k_fold)))))
local macro_rules | `(tactic| walk_at "call ref") => `(tactic| (k_here; (with_reducible show wpAny _ _ (call (Value.ref 102) _) _ _ _); k_dflt (refine' (leanodd_c ?h0 ?h1 ?h2 ?h3 ?h4).use ?k1 ?k2 ?k3 ?k4 ?k5 ?kK ?kd ?ku ?_; (case k1 => k_asm); (case k2 => k_asm); (case k3 => k_asm); (case k4 => first | k_asm | (refine' news_rot4 ?k9; (case k9 => k_asm))); (case k5 => k_asm); (case kK => first | exact rfl | assumption); (case kd => ktr_room); (case ku => ktr_units); (case h0 => omega); (case h1 => omega); (case h2 => omega); (case h3 => omega); (case h4 => omega)); (unfold RealRet; intro x' d' k1' k2' t1' t2' h' tk' F' N' l1 l2; (try dsimp only at N'); (try simp only [AllLt, and_true] at l1); (try k_lt2 l2); (try k_sweep); (try dsimp only); (try k_fold))))
local macro_rules | `(tactic| walk_at "call ref") => `(tactic| (k_here; (with_reducible show wpAny _ _ (call (Value.ref 177) _) _ _ _); k_dflt (refine' (dueL_c ?h0 ?h1 ?h2 ?h3 ?h4 ?h5 ?h6 ?h7 ?h8).use ?k1 ?k2 ?k3 ?k4 ?k5 ?kK ?kd ?ku ?_; (case k1 => k_asm); (case k2 => k_asm); (case k3 => k_asm); (case k4 => first | k_asm | (refine' news_rot4 ?k9; (case k9 => k_asm))); (case k5 => k_asm); (case kK => first | exact rfl | assumption); (case kd => ktr_room); (case ku => ktr_units); (case h0 => omega); (case h1 => omega); (case h2 => omega); (case h3 => omega); (case h4 => omega); (case h5 => omega); (case h6 => omega); (case h7 => omega); (case h8 => omega)); (unfold TupRet; intro D' t1' t2' c' h' tk' F' N' l1; (try simp only [AllLt, and_true] at l1); (try k_sweep); (try dsimp only); (try k_fold))))
local macro_rules | `(tactic| walk_at "call ref") => `(tactic| (k_here; (with_reducible show wpAny _ _ (call (Value.ref 144) _) _ _ _); k_dflt (refine' (spN_c ?h0 ?h1 ?h2 ?h3 ?h4 ?h5 ?h6 ?h7 ?h8 ?h9 ?h10).use ?k1 ?k2 ?k3 ?k4 ?k5 ?kK ?kd ?ku ?_; (case k1 => k_asm); (case k2 => k_asm); (case k3 => k_asm); (case k4 => first | k_asm | (refine' news_rot4 ?k9; (case k9 => k_asm))); (case k5 => k_asm); (case kK => first | exact rfl | assumption); (case kd => ktr_room); (case ku => ktr_units); (case h0 => k_mem); (case h1 => k_mem); (case h2 => omega); (case h3 => omega); (case h4 => omega); (case h5 => omega); (case h6 => omega); (case h7 => omega); (case h8 => omega); (case h9 => omega); (case h10 => omega)); (intro A' p1 p2; (unfold RealRet; intro x' d' k1' k2' t1' t2' h' tk' F' N' l1 l2; (try dsimp only at N'); (try simp only [AllLt, and_true] at l1); (try k_lt2 l2); (try k_sweep); (try dsimp only); (try k_fold)))))
local macro_rules | `(tactic| walk_at "call ref") => `(tactic| (k_here; (with_reducible show wpAny _ _ (call (Value.ref 144) _) _ _ _); k_dflt (refine' (spP_c ?h0 ?h1 ?h2 ?h3 ?h4 ?h5 ?h6 ?h7 ?h8 ?h9 ?h10).use ?k1 ?k2 ?k3 ?k4 ?k5 ?kK ?kd ?ku ?_; (case k1 => k_asm); (case k2 => k_asm); (case k3 => k_asm); (case k4 => first | k_asm | (refine' news_rot4 ?k9; (case k9 => k_asm))); (case k5 => k_asm); (case kK => first | exact rfl | assumption); (case kd => ktr_room); (case ku => ktr_units); (case h0 => k_mem); (case h1 => k_mem); (case h2 => omega); (case h3 => omega); (case h4 => omega); (case h5 => omega); (case h6 => omega); (case h7 => omega); (case h8 => omega); (case h9 => omega); (case h10 => omega)); (unfold RealRet; intro x' d' k1' k2' t1' t2' h' tk' F' N' l1 l2; (try dsimp only at N'); (try simp only [AllLt, and_true] at l1); (try k_lt2 l2); (try k_sweep); (try dsimp only); (try k_fold))))
local macro_rules | `(tactic| walk_at "call ref") => `(tactic| (k_here; (with_reducible show wpAny _ _ (call (Value.ref 144) [Value.int _ _, Value.ref _, Value.int 1 _]) _ _ _); k_dflt (refine' (sp1_c ?h0 ?h1 ?h2 ?h3 ?h4 ?h5 ?h6 ?h7 ?h8).use ?k1 ?k2 ?k3 ?k4 ?k5 ?kK ?kd ?ku ?_; (case k1 => k_asm); (case k2 => k_asm); (case k3 => k_asm); (case k4 => first | k_asm | (refine' news_rot4 ?k9; (case k9 => k_asm))); (case k5 => k_asm); (case kK => first | exact rfl | assumption); (case kd => ktr_room); (case ku => ktr_units); (case h0 => k_mem); (case h1 => k_mem); (case h2 => omega); (case h3 => omega); (case h4 => omega); (case h5 => omega); (case h6 => omega); (case h7 => omega); (case h8 => omega)); (unfold RealRet; intro x' d' k1' k2' t1' t2' h' tk' F' N' l1 l2; (try dsimp only at N'); (try simp only [AllLt, and_true] at l1); (try k_lt2 l2); (try k_sweep); (try dsimp only); (try k_fold))))
local macro_rules | `(tactic| walk_at "call ref") => `(tactic| (k_here; (with_reducible show wpAny _ _ (call (Value.ref 144) [Value.int _ _, Value.ref _, Value.int 0 _]) _ _ _); k_dflt (refine' (sp0_c ?h0 ?h1 ?h2 ?h3 ?h4 ?h5 ?h6 ?h7 ?h8).use ?k1 ?k2 ?k3 ?k4 ?k5 ?kK ?kd ?ku ?_; (case k1 => k_asm); (case k2 => k_asm); (case k3 => k_asm); (case k4 => first | k_asm | (refine' news_rot4 ?k9; (case k9 => k_asm))); (case k5 => k_asm); (case kK => first | exact rfl | assumption); (case kd => ktr_room); (case ku => ktr_units); (case h0 => k_mem); (case h1 => k_mem); (case h2 => omega); (case h3 => omega); (case h4 => omega); (case h5 => omega); (case h6 => omega); (case h7 => omega); (case h8 => omega)); (unfold RealRet; intro x' d' k1' k2' t1' t2' h' tk' F' N' l1 l2; (try dsimp only at N'); (try simp only [AllLt, and_true] at l1); (try k_lt2 l2); (try k_sweep); (try dsimp only); (try k_fold))))
local macro_rules | `(tactic| walk_at "binaryOp LShift int int") => `(tactic| (k_here; (with_reducible refine lsh1 ?g1 ?g2 ?_); (case g1 => omega); (case g2 => omega); (intro u' k' e' v1 v2)))
local macro_rules | `(tactic| walk_at "x1") => `(tactic| skip)
local macro_rules | `(tactic| walk_at "x2") => `(tactic| skip)
local macro_rules | `(tactic| walk_at "pyIter ref") => `(tactic| (k_state_short (fun (_ : List Int) (deck : List Int) => deck.length ≤ 12) "deck"))
local macro_rules | `(tactic| walk_at "eval IfExp") => `(tactic| ((fail_if_success (rename MetMark => mk9)); (rename Fr _ _ _ _ => cF'); (rename News _ _ _ _ => cN'); (refine' val_meet ?p1 ?p2 cF' cN' (fun mk8 => ?_) ?_; (case p2 => assumption); (case p1 => assumption)); rotate_left; (intro t' h' tk' F' N'; (try dsimp only); (try k_fold)); rotate_left))
local macro_rules | `(tactic| walk_at "ValMet") => `(tactic| (refine' val_end ?vE ?vF ?vN; (case vF => k_asm); (case vN => k_asm); (case vE => omega)))
theorem PySem.Challenge.cw_nt0158_01_holds : PySem.Challenge.rw_nt0158_01.Holds := by
  refine hd ?_
  k_go0
  all_goals try k_fold
  k_steps
end
