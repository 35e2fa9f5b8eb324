/- Contracts: the number of bits, the tickets that may cover more rides. -/
import Derived.Test.YtfjihilnldjbeaaT10

namespace Go.Vm.C
open Go.Vm
set_option maxHeartbeats 1000000
set_option maxRecDepth 10000
set_option linter.unusedSimpArgs false
set_option linter.unusedVariables false

/-! ### The number of bits, counted in fields -/
def msk (c : Nat) : Nat → Nat
  | 0 => 0
  | n + 1 => c + 256 * msk c n
def mapB (g : Nat → Nat) : Nat → Nat → Nat
  | 0, _ => 0
  | n + 1, x => g (x % 256) + 256 * mapB g n (x / 256)
theorem and_split (x y : Nat) : x &&& y = (x % 256 &&& y % 256) + 256 * (x / 256 &&& y / 256) := by
  have h1 : (x &&& y) % 2 ^ 8 = x % 2 ^ 8 &&& y % 2 ^ 8 := Nat.and_mod_two_pow
  have h2 : (x &&& y) / 2 ^ 8 = x / 2 ^ 8 &&& y / 2 ^ 8 := Nat.and_div_two_pow
  have h3 := Nat.mod_add_div (x &&& y) (2 ^ 8)
  rw [h1, h2] at h3
  exact h3.symm
theorem and_msk {c : Nat} (hc : c < 256) (x n : Nat) : x &&& msk c (n + 1) = (x % 256 &&& c) + 256 * (x / 256 &&& msk c n) := by
  rw [and_split]
  have h1 : msk c (n + 1) % 256 = c := by rw [msk]; omega
  have h2 : msk c (n + 1) / 256 = msk c n := by rw [msk]; omega
  rw [h1, h2]
theorem fld1 : ∀ b, b < 256 → (b / 2 &&& 85) + (b &&& 85) < 256 ∧ (b / 2 + 128 &&& 85) = (b / 2 &&& 85) := by decide +kernel
theorem fld2 : ∀ b, b < 256 → (b / 4 &&& 51) + (b &&& 51) < 256 ∧ (b / 4 + 64 &&& 51) = (b / 4 &&& 51) ∧ (b / 4 + 128 &&& 51) = (b / 4 &&& 51) ∧ (b / 4 + 192 &&& 51) = (b / 4 &&& 51) := by decide +kernel
def one1 (b : Nat) : Nat := (b / 2 &&& 85) + (b &&& 85)
def one2 (b : Nat) : Nat := (b / 4 &&& 51) + (b &&& 51)
def one3 (b : Nat) : Nat := b / 16 + b % 16
theorem step1 : ∀ n x, (x / 2 &&& msk 85 n) + (x &&& msk 85 n) = mapB one1 n x
  | 0, x => by simp [msk, mapB]
  | n + 1, x => by
    rw [and_msk (by omega), and_msk (by omega), mapB, ← step1 n (x / 256), one1]
    obtain ⟨_, h⟩ := fld1 (x % 256) (by omega)
    have e1 : x / 2 / 256 = x / 256 / 2 := by omega
    have e2 : (x / 2 % 256 &&& 85) = (x % 256 / 2 &&& 85) := by
      rcases Nat.mod_two_eq_zero_or_one (x / 256) with h1 | h1
      · rw [show x / 2 % 256 = x % 256 / 2 by omega]
      · rw [show x / 2 % 256 = x % 256 / 2 + 128 by omega, h]
    rw [e1, e2]
    omega
theorem step2 : ∀ n x, (x / 4 &&& msk 51 n) + (x &&& msk 51 n) = mapB one2 n x
  | 0, x => by simp [msk, mapB]
  | n + 1, x => by
    rw [and_msk (by omega), and_msk (by omega), mapB, ← step2 n (x / 256), one2]
    obtain ⟨_, h, h2, h3⟩ := fld2 (x % 256) (by omega)
    have e1 : x / 4 / 256 = x / 256 / 4 := by omega
    have e2 : (x / 4 % 256 &&& 51) = (x % 256 / 4 &&& 51) := by
      have : x / 256 % 4 = 0 ∨ x / 256 % 4 = 1 ∨ x / 256 % 4 = 2 ∨ x / 256 % 4 = 3 := by omega
      rcases this with h1 | h1 | h1 | h1
      · rw [show x / 4 % 256 = x % 256 / 4 by omega]
      · rw [show x / 4 % 256 = x % 256 / 4 + 64 by omega, h]
      · rw [show x / 4 % 256 = x % 256 / 4 + 128 by omega, h2]
      · rw [show x / 4 % 256 = x % 256 / 4 + 192 by omega, h3]
    rw [e1, e2]
    omega
theorem mapB_mod {g : Nat → Nat} (hg : ∀ b, b < 256 → g b < 256) (n x : Nat) : mapB g (n + 1) x % 256 = g (x % 256) ∧ mapB g (n + 1) x / 256 = mapB g n (x / 256) := by
  have := hg (x % 256) (by omega)
  rw [mapB]
  constructor <;> omega
/-- Every field is at most 4. -/
def Low : Nat → Nat → Prop
  | 0, x => x = 0
  | n + 1, x => x % 256 / 16 ≤ 4 ∧ x % 256 % 16 ≤ 4 ∧ Low n (x / 256)
theorem low_top : ∀ n x, Low n x → x % 16 ≤ 4
  | 0, x, h => by rw [Low] at h; omega
  | n + 1, x, h => by rw [Low] at h; omega
theorem step3 : ∀ n x, Low n x → (x / 16 + x) &&& msk 15 n = mapB one3 n x
  | 0, x, _ => by simp [msk, mapB]
  | n + 1, x, h => by
    rw [Low] at h
    have ht := low_top n (x / 256) h.2.2
    rw [and_msk (by omega), mapB, ← step3 n (x / 256) h.2.2, one3]
    have e1 : (x / 16 + x) / 256 = x / 256 / 16 + x / 256 := by omega
    have e2 : ((x / 16 + x) % 256 &&& 15) = x % 256 / 16 + x % 256 % 16 := by
      have : ((x / 16 + x) % 256 &&& 15) = (x / 16 + x) % 256 % 2 ^ 4 := Nat.and_two_pow_sub_one_eq_mod _ 4
      rw [this]; omega
    rw [e1, e2]
theorem one1_lt : ∀ b, b < 256 → one1 b < 256 := fun b h => (fld1 b h).1
theorem one2_lt : ∀ b, b < 256 → one2 b < 256 := fun b h => (fld2 b h).1
theorem one_low : ∀ b, b < 256 → one2 (one1 b) / 16 ≤ 4 ∧ one2 (one1 b) % 16 ≤ 4 := by decide +kernel
def sum8 (b : Nat) : Nat := b % 2 + (b / 2 % 2 + (b / 2 / 2 % 2 + (b / 2 / 2 / 2 % 2 + (b / 2 / 2 / 2 / 2 % 2 + (b / 2 / 2 / 2 / 2 / 2 % 2 + (b / 2 / 2 / 2 / 2 / 2 / 2 % 2 + b / 2 / 2 / 2 / 2 / 2 / 2 / 2 % 2))))))
theorem one_all : ∀ b, b < 256 → one3 (one2 (one1 b)) = sum8 b ∧ sum8 b ≤ 8 := by decide +kernel
theorem mapB_two {g k : Nat → Nat} (hg : ∀ b, b < 256 → g b < 256) : ∀ n x, mapB k n (mapB g n x) = mapB (fun b => k (g b)) n x
  | 0, x => rfl
  | n + 1, x => by
    obtain ⟨h1, h2⟩ := mapB_mod hg n x
    rw [mapB, h1, h2, mapB_two hg n, mapB]
theorem low_two : ∀ n x, Low n (mapB (fun b => one2 (one1 b)) n x)
  | 0, x => rfl
  | n + 1, x => by
    obtain ⟨h1, h2⟩ := mapB_mod (g := fun b => one2 (one1 b)) (fun b h => one2_lt _ (one1_lt b h)) n x
    obtain ⟨h3, h4⟩ := one_low (x % 256) (by omega)
    rw [Low, h1, h2]
    exact ⟨h3, h4, low_two n _⟩
theorem mapB_same {g k : Nat → Nat} (h : ∀ b, b < 256 → g b = k b) : ∀ n x, mapB g n x = mapB k n x
  | 0, x => rfl
  | n + 1, x => by rw [mapB, mapB, h _ (by omega), mapB_same h n]
theorem pop_succ (k a : Nat) : pop (k + 1) a = a % 2 + pop k (a / 2) := by rw [pop]
theorem pop_split (k : Nat) : ∀ n x, pop (n + k) x = pop n x + pop k (x / 2 ^ n)
  | 0, x => by simp [pop]
  | n + 1, x => by
    rw [show n + 1 + k = (n + k) + 1 by omega, pop_succ, pop_succ, pop_split k n (x / 2), Nat.div_div_eq_div_mul, ← Nat.pow_succ', Nat.succ_eq_add_one]
    omega
theorem pop_byte (x : Nat) : pop 8 x = sum8 (x % 256) := by
  have h0 : ∀ a, pop 0 a = 0 := fun a => by rw [pop]
  rw [pop_succ, pop_succ, pop_succ, pop_succ, pop_succ, pop_succ, pop_succ, pop_succ, h0, sum8]
  omega
/-- The bits by bytes. -/
def popB : Nat → Nat → Nat
  | 0, _ => 0
  | n + 1, x => sum8 (x % 256) + popB n (x / 256)
theorem popB_eq : ∀ n x, pop (8 * n) x = popB n x
  | 0, x => by simp [pop, popB]
  | n + 1, x => by
    rw [show 8 * (n + 1) = 8 + 8 * n by omega, pop_split, pop_byte, popB, show (2 : Nat) ^ 8 = 256 from rfl, popB_eq n]
theorem sum8_le (b : Nat) : sum8 b ≤ 8 := by unfold sum8; omega
theorem fields (x : Nat) : ∃ a0 a1 a2 a3 a4 a5 a6 a7 : Nat, a0 ≤ 8 ∧ a1 ≤ 8 ∧ a2 ≤ 8 ∧ a3 ≤ 8 ∧ a4 ≤ 8 ∧ a5 ≤ 8 ∧ a6 ≤ 8 ∧ a7 ≤ 8 ∧
    mapB sum8 8 x = a0 + 256 * (a1 + 256 * (a2 + 256 * (a3 + 256 * (a4 + 256 * (a5 + 256 * (a6 + 256 * a7)))))) ∧ pop 64 x = a0 + (a1 + (a2 + (a3 + (a4 + (a5 + (a6 + a7)))))) := by
  have h := popB_eq 8 x
  refine ⟨sum8 (x % 256), sum8 (x / 256 % 256), sum8 (x / 256 / 256 % 256), sum8 (x / 256 / 256 / 256 % 256), sum8 (x / 256 / 256 / 256 / 256 % 256), sum8 (x / 256 / 256 / 256 / 256 / 256 % 256), sum8 (x / 256 / 256 / 256 / 256 / 256 / 256 % 256), sum8 (x / 256 / 256 / 256 / 256 / 256 / 256 / 256 % 256), sum8_le _, sum8_le _, sum8_le _, sum8_le _, sum8_le _, sum8_le _, sum8_le _, sum8_le _, ?_, h.trans ?_⟩
  · simp only [mapB, Nat.mul_zero, Nat.add_zero]
  · simp only [popB, Nat.add_zero]
def cnt1 (x : Nat) : Nat := (x / 2 &&& 6148914691236517205) + (x &&& 6148914691236517205)
def cnt2 (x : Nat) : Nat := (x / 4 &&& 3689348814741910323) + (x &&& 3689348814741910323)
def cnt3 (x : Nat) : Nat := (x / 16 + x) &&& 1085102592571150095
theorem cnt_all (x : Nat) : cnt3 (cnt2 (cnt1 x)) = mapB sum8 8 x := by
  have m1 : msk 85 8 = 6148914691236517205 := by decide
  have m2 : msk 51 8 = 3689348814741910323 := by decide
  have m3 : msk 15 8 = 1085102592571150095 := by decide
  have h1 : cnt1 x = mapB one1 8 x := by rw [cnt1, ← m1, step1]
  have h2 : cnt2 (cnt1 x) = mapB (fun b => one2 (one1 b)) 8 x := by rw [h1, cnt2, ← m2, step2, mapB_two one1_lt]
  rw [h2, cnt3, ← m3, step3 _ _ (low_two 8 x), mapB_two (g := fun b => one2 (one1 b)) (fun b h => one2_lt _ (one1_lt b h))]
  exact mapB_same (fun b h => (one_all b h).1) 8 x
theorem cnt1_lt (x : Nat) (h : x < 18446744073709551616) : cnt1 x < 18446744073709551616 := by
  have h1 : (x / 2 &&& 6148914691236517205) ≤ 6148914691236517205 := Nat.and_le_right
  have h2 : (x &&& 6148914691236517205) ≤ 6148914691236517205 := Nat.and_le_right
  rw [cnt1]; omega
theorem cnt2_lt (x : Nat) : cnt2 x < 9223372036854775808 := by
  have h1 : (x / 4 &&& 3689348814741910323) ≤ 3689348814741910323 := Nat.and_le_right
  have h2 : (x &&& 3689348814741910323) ≤ 3689348814741910323 := Nat.and_le_right
  rw [cnt2]; omega
theorem shr_nat (x s d : Nat) (hs : s < 64) (hd : 2 ^ s = d) : binV .shr .none (.int .u64 (x : Int)) (.int .u64 (s : Int)) = some (.int .u64 ((x / d : Nat) : Int)) := by
  subst hd
  have h1 : min ((s : Int)).toNat IntKind.u64.bits = s := by
    have : IntKind.u64.bits = 64 := by decide
    rw [this, Int.toNat_natCast]; omega
  have h2 : decide (0 ≤ (s : Int)) = true := decide_eq_true (by omega)
  show shiftV .shr .u64 _ _ = _
  simp only [shiftV, h1, h2, cond_true]
  congr 2
  rw [show ((2 : Int) ^ s) = ((2 ^ s : Nat) : Int) by simp, Int.fdiv_eq_ediv_of_nonneg _ (Int.natCast_nonneg _)]
  rfl
theorem and_lit (a b : Nat) (c : Int) (ha : a < 18446744073709551616) (hb : b < 18446744073709551616) (hc : c = (b : Int)) : andK .u64 (a : Int) c = ((a &&& b : Nat) : Int) := by
  rw [hc, andK_nat a b ha hb]
theorem shr_lit (x s d : Nat) (c : Int) (hs : s < 64) (hd : 2 ^ s = d) (hc : c = (s : Int)) : binV .shr .none (.int .u64 (x : Int)) (.int .u64 c) = some (.int .u64 ((x / d : Nat) : Int)) := by
  rw [hc, shr_nat x s d hs hd]
theorem and127 (n : Nat) (h : n < 9223372036854775808) : andK .i64 (n : Int) 127 = ((n % 128 : Nat) : Int) := by
  have e : (BitVec.ofInt 64 (n : Int) &&& BitVec.ofInt 64 (127 : Int)).toNat = n % 128 := by
    rw [BitVec.ofInt_natCast, BitVec.toNat_and, BitVec.toNat_ofNat, Nat.mod_eq_of_lt (by omega : n < 2 ^ 64)]
    exact Nat.and_two_pow_sub_one_eq_mod n 7
  show IntKind.i64.wrap ((BitVec.ofInt 64 (n : Int) &&& BitVec.ofInt 64 (127 : Int)).toNat : Int) = _
  rw [e, i64_wrap]
  omega
theorem gather {a0 a1 a2 a3 a4 a5 a6 a7 t u : Nat} (h0 : a0 ≤ 8) (h1 : a1 ≤ 8) (h2 : a2 ≤ 8) (h3 : a3 ≤ 8) (h4 : a4 ≤ 8) (h5 : a5 ≤ 8) (h6 : a6 ≤ 8) (h7 : a7 ≤ 8)
    (ht : t = a0 + 256 * (a1 + 256 * (a2 + 256 * (a3 + 256 * (a4 + 256 * (a5 + 256 * (a6 + 256 * a7))))))) (hu : t + t / 256 + (t + t / 256) / 65536 = u) :
    (u + u / 4294967296) % 128 = a0 + (a1 + (a2 + (a3 + (a4 + (a5 + (a6 + a7)))))) := by
  have e1 : t / 256 = a1 + 256 * (a2 + 256 * (a3 + 256 * (a4 + 256 * (a5 + 256 * (a6 + 256 * a7))))) := by omega
  have e2 : (t + t / 256) / 65536 = (a2 + a3) + 256 * ((a3 + a4) + 256 * ((a4 + a5) + 256 * ((a5 + a6) + 256 * ((a6 + a7) + 256 * a7)))) := by omega
  have e3 : u = (a0 + a1 + a2 + a3) + 256 * ((a1 + a2 + a3 + a4) + 256 * ((a2 + a3 + a4 + a5) + 256 * ((a3 + a4 + a5 + a6) + 256 * ((a4 + a5 + a6 + a7) + 256 * ((a5 + a6 + a7) + 256 * ((a6 + a7) + 256 * a7)))))) := by omega
  clear hu e1 e2 ht
  have e4 : u / 4294967296 = (a4 + a5 + a6 + a7) + 256 * ((a5 + a6 + a7) + 256 * ((a6 + a7) + 256 * a7)) := by omega
  rw [e4]
  omega
theorem OnesCount_ok (x : Nat) (hx : x < 18446744073709551616) : PCalls PR i_math_bits_OnesCount64 [.int .u64 x] (fun v => v = .int .i64 (pop 64 x : Nat)) := by
  have b1 := cnt1_lt x hx
  have b2 := cnt2_lt (cnt1 x)
  have hall := cnt_all x
  obtain ⟨a0, a1, a2, a3, a4, a5, a6, a7, h0, h1, h2, h3, h4, h5, h6, h7, hm, hp⟩ := fields x
  rw [hm] at hall
  have b3 : cnt3 (cnt2 (cnt1 x)) < 648518346341351425 := by omega
  have p1 := shr_lit x 1 2 1 (by omega) rfl rfl
  have q1 := and_lit (x / 2) 6148914691236517205 6148914691236517205 (by omega) (by omega) rfl
  have q1' := and_lit x 6148914691236517205 6148914691236517205 (by omega) (by omega) rfl
  have r1 : ((x / 2 &&& 6148914691236517205 : Nat) : Int) + ((x &&& 6148914691236517205 : Nat) : Int) = (cnt1 x : Nat) := (Int.natCast_add _ _).symm
  generalize hy : cnt1 x = y at *
  have p2 := shr_lit y 2 4 2 (by omega) rfl rfl
  have q2 := and_lit (y / 4) 3689348814741910323 3689348814741910323 (by omega) (by omega) rfl
  have q2' := and_lit y 3689348814741910323 3689348814741910323 (by omega) (by omega) rfl
  have r2 : ((y / 4 &&& 3689348814741910323 : Nat) : Int) + ((y &&& 3689348814741910323 : Nat) : Int) = (cnt2 y : Nat) := (Int.natCast_add _ _).symm
  generalize hz : cnt2 y = z at *
  have p3 := shr_lit z 4 16 4 (by omega) rfl rfl
  have r3 : ((z / 16 : Nat) : Int) + (z : Int) = ((z / 16 + z : Nat) : Int) := (Int.natCast_add _ _).symm
  have q3 := and_lit (z / 16 + z) 1085102592571150095 1085102592571150095 (by omega) (by omega) rfl
  have c3 : z / 16 + z &&& 1085102592571150095 = cnt3 z := rfl
  rw [c3] at q3
  generalize ht : cnt3 z = t at *
  have p4 := shr_lit t 8 256 8 (by omega) rfl rfl
  have r4 : (t : Int) + ((t / 256 : Nat) : Int) = ((t + t / 256 : Nat) : Int) := (Int.natCast_add _ _).symm
  have p5 := shr_lit (t + t / 256) 16 65536 16 (by omega) rfl rfl
  have r5 : ((t + t / 256 : Nat) : Int) + (((t + t / 256) / 65536 : Nat) : Int) = ((t + t / 256 + (t + t / 256) / 65536 : Nat) : Int) := (Int.natCast_add _ _).symm
  generalize hu : t + t / 256 + (t + t / 256) / 65536 = u at *
  have p6 := shr_lit u 32 4294967296 32 (by omega) rfl rfl
  have r6 : (u : Int) + ((u / 4294967296 : Nat) : Int) = ((u + u / 4294967296 : Nat) : Int) := (Int.natCast_add _ _).symm
  have r7 := and127 (u + u / 4294967296) (by omega)
  have w1 := wrap_u64_nat y b1
  have w2 := wrap_u64_nat z (by omega)
  have w3 := wrap_u64_nat (z / 16 + z) (by omega)
  have w4 := wrap_u64_nat (t + t / 256) (by omega)
  have w5 := wrap_u64_nat u (by omega)
  have w6 := wrap_u64_nat (u + u / 4294967296) (by omega)
  have w7 : IntKind.i64.wrap ((u + u / 4294967296 : Nat) : Int) = ((u + u / 4294967296 : Nat) : Int) := by rw [i64_wrap]; omega
  have hfin : (u + u / 4294967296) % 128 = pop 64 x := by
    rw [hp]
    exact gather h0 h1 h2 h3 h4 h5 h6 h7 hall hu
  rw [hfin] at r7
  refine acalls_pop fn_math_bits_OnesCount64_ok (by simp [fn_math_bits_OnesCount64]) ?_
  simp -implicitDefEqProofs (disch := omega) only [go_sem, Nat.reduceAdd, Nat.reduceMul, Nat.reduceSub, Nat.reduceBEq, Nat.reduceLeDiff, Nat.reduceLT, fn_math_bits_OnesCount64, e47_1, w47_1, e47_3, w47_3, e47_5, w47_5, e47_7, w47_7, e47_9, w47_9, e47_11, w47_11, e47_13, w47_13, e47_15, w47_15, c47_16, c47_17, c47_18, c47_19, c47_20, c47_21, c47_22, c47_23, p1, q1, q1', r1, p2, q2, q2', r2, p3, r3, q3, p4, r4, p5, r5, p6, r6, r7, w1, w2, w3, w4, w5, w6, w7, conv_int]

/-! ### The tickets that may cover more rides -/
theorem Open.row_len (o : Open) : o.row.length = 5 := rfl
/-- A ticket of product k for the rides from i on, if it may cover more. -/
def openOf (f : Fares) (l : List Ride) (i k : Nat) : Option Open :=
  match f.products[k]?, l[i]? with
  | some p, some r => if ((l.length : Int) - i < p.rides ∧ (pop 64 (zonesOf (l.drop i)) : Int) ≤ p.zones ∧ minus (modesOf (l.drop i)) (bset p.modes) = 0) then some ⟨k, r.depart, (l.length : Int) - i, minSum f (l.take i) + ticket f p l i, zonesOf (l.drop i)⟩ else none
  | _, _ => none
def opensAt (f : Fares) (l : List Ride) (i n : Nat) : List Open := (List.range n).filterMap (openOf f l i)
def opensTo (f : Fares) (l : List Ride) (n : Nat) : List Open := (List.range n).flatMap fun i => if minSum f (l.take i) < 0 then [] else opensAt f l i f.products.length
def opens (f : Fares) (l : List Ride) : List Open := opensTo f l l.length
theorem opensAt_succ (f : Fares) (l : List Ride) (i n : Nat) : opensAt f l i (n + 1) = opensAt f l i n ++ (openOf f l i n).toList := by
  rw [opensAt, opensAt, List.range_succ, List.filterMap_append]
  cases h : openOf f l i n <;> simp [h]
theorem opensTo_succ (f : Fares) (l : List Ride) (n : Nat) : opensTo f l (n + 1) = opensTo f l n ++ if minSum f (l.take n) < 0 then [] else opensAt f l n f.products.length := by
  rw [opensTo, opensTo, List.range_succ, List.flatMap_append]
  simp
theorem opensAt_len (f : Fares) (l : List Ride) (i n : Nat) : (opensAt f l i n).length ≤ n := by
  have := List.length_filterMap_le (openOf f l i) (List.range n)
  simpa [opensAt] using this
theorem opensTo_len (f : Fares) (l : List Ride) : ∀ n, (opensTo f l n).length ≤ n * f.products.length
  | 0 => by simp [opensTo]
  | n + 1 => by
    have := opensTo_len f l n
    have h2 := opensAt_len f l n f.products.length
    rw [opensTo_succ, List.length_append, Nat.add_mul, Nat.one_mul]
    split
    · simp; omega
    · omega
theorem opens_mem {f : Fares} {l : List Ride} {o : Open} : o ∈ opens f l ↔ ∃ i k, i < l.length ∧ 0 ≤ minSum f (l.take i) ∧ openOf f l i k = some o := by
  simp only [opens, opensTo, List.mem_flatMap, List.mem_range]
  constructor
  · rintro ⟨i, hi, h⟩
    split at h
    · simp at h
    · simp only [opensAt, List.mem_filterMap, List.mem_range] at h
      obtain ⟨k, _, hk⟩ := h
      exact ⟨i, k, hi, by omega, hk⟩
  · rintro ⟨i, k, hi, h0, hk⟩
    refine ⟨i, hi, ?_⟩
    rw [if_neg (by omega)]
    simp only [opensAt, List.mem_filterMap, List.mem_range]
    refine ⟨k, ?_, hk⟩
    rcases Nat.lt_or_ge k f.products.length with h | h
    · exact h
    · rw [openOf, List.getElem?_eq_none h] at hk
      simp at hk

def opN (f : Fares) (l : List Ride) (i k : Nat) : List Open := opensTo f l i ++ opensAt f l i k
theorem opN_zero (f : Fares) (l : List Ride) (i : Nat) : opN f l i 0 = opensTo f l i := by simp [opN, opensAt]
theorem opN_succ (f : Fares) (l : List Ride) (i k : Nat) : opN f l i (k + 1) = opN f l i k ++ (openOf f l i k).toList := by rw [opN, opN, opensAt_succ, List.append_assoc]
theorem opN_all {f : Fares} {l : List Ride} {i : Nat} (h : ¬ minSum f (l.take i) < 0) : opensTo f l (i + 1) = opN f l i f.products.length := by rw [opN, opensTo_succ, if_neg h]
theorem opN_len {f : Fares} {l : List Ride} {i k : Nat} (hi : i ≤ 8) (hp : f.products.length ≤ 16) (hk : k ≤ f.products.length) : (opN f l i k).length ≤ 144 := by
  have h1 := opensTo_len f l i
  have h2 : i * f.products.length ≤ 8 * 16 := Nat.mul_le_mul hi hp
  have h3 := opensAt_len f l i k
  rw [opN, List.length_append]; omega
theorem take1 (M L : Mem) (a : Blk) : (M ++ a :: L).take (M.length + 1) = M ++ [a] := by
  rw [show M ++ a :: L = (M ++ [a]) ++ L by simp, show M.length + 1 = (M ++ [a]).length by simp, app_take]
theorem pop1 {M L : Mem} {a : Blk} {vs : List V} (h : Own (M ++ [a])) (hv : underL (M.length + 1) vs = true) : popOK (M.length + 1) vs (M ++ a :: L) = true := by
  have h1 : memUnder (M.length + 1) (M ++ [a]) = true := by have := h; unfold Own at this; simpa using this
  simp [popOK, hv, h1, take1]

theorem State_tickets_ok {f : Fares} (hf : f.wf) (hok : f.Ok) {M : Mem} {fp id : Nat} {rl : List Ride} (h : Held M f fp rl id) (hl : ∀ x ∈ rl, x.wf) (hlen : rl.length ≤ 8) :
    ACalls PR i_farestate_State_tickets [.ptr id 0] M (fun v M' => v = .slice ((opens f rl.reverse).map Open.row) .unk ∧ M' = M) := by
  obtain ⟨pv, x, hM⟩ := h.st.shows
  have hU : memUnder M.length M = true := h.own
  have hM' := fun L => app_get hM L
  have hF' := fun L => app_get h.fares L
  have hplen := hok.len
  have hl' : ∀ x ∈ rl.reverse, x.wf := fun x hx => hl x (List.mem_reverse.1 hx)
  refine acalls_pop fn_farestate_State_tickets_ok (by simp [fn_farestate_State_tickets]) ?_
  simp -implicitDefEqProofs (disch := omega) only [go_sem, Nat.reduceAdd, Nat.reduceMul, Nat.reduceSub, Nat.reduceBEq, Nat.reduceLeDiff, Nat.reduceLT, fn_farestate_State_tickets, e31_1, w31_1, e31_3, w31_3, e31_5, w31_5, e31_7, w31_7, e31_9, w31_9, c31_10, e31_12, w31_12, e31_14, w31_14, e31_16, w31_16, e31_18, w31_18, e31_20, w31_20, c31_21, e31_23, w31_23, e31_25, w31_25, e31_27, w31_27, c31_28, c31_29, c31_30, e31_32, w31_32, c31_33, c31_34, c31_35, c31_36, c31_37, c31_38, e31_40, w31_40, e31_42, w31_42, c31_43, e31_45, w31_45, e31_47, w31_47, e31_49, w31_49, c31_50, c31_51, e31_53, w31_53, c31_54, c31_55, c31_56, c31_57, c31_58, c31_59, c31_60, c31_61, c31_62, c31_63, c31_64, e31_66, w31_66, c31_67, c31_68, c31_69, c31_70, c31_71, c31_72, e31_74, w31_74, c31_75, c31_76, c31_77, c31_78, c31_79]
  have hown1 : Own (M ++ [.arr 5 [] 0 0]) := h.own.app rfl
  refine callA (State_list_ok (h.st.chain.app [.arr 5 [] 0 0]) hown1 hlen) ?_
  rintro v N ⟨rfl, rfl⟩
  simp -implicitDefEqProofs (disch := omega) only [go_sem, Nat.reduceAdd, Nat.reduceMul, Nat.reduceSub, Nat.reduceBEq, Nat.reduceLeDiff, Nat.reduceLT, fn_farestate_State_tickets, e31_1, w31_1, e31_3, w31_3, e31_5, w31_5, e31_7, w31_7, e31_9, w31_9, c31_10, e31_12, w31_12, e31_14, w31_14, e31_16, w31_16, e31_18, w31_18, e31_20, w31_20, c31_21, e31_23, w31_23, e31_25, w31_25, e31_27, w31_27, c31_28, c31_29, c31_30, e31_32, w31_32, c31_33, c31_34, c31_35, c31_36, c31_37, c31_38, e31_40, w31_40, e31_42, w31_42, c31_43, e31_45, w31_45, e31_47, w31_47, e31_49, w31_49, c31_50, c31_51, e31_53, w31_53, c31_54, c31_55, c31_56, c31_57, c31_58, c31_59, c31_60, c31_61, c31_62, c31_63, c31_64, e31_66, w31_66, c31_67, c31_68, c31_69, c31_70, c31_71, c31_72, e31_74, w31_74, c31_75, c31_76, c31_77, c31_78, c31_79]
  have hll : rl.reverse.length = rl.length := by simp
  have hsum : ∀ i, i < rl.length → sums f rl.reverse i = minSum f (rl.reverse.take i) := by
    intro i hi
    rw [sums, if_pos (by simp; omega)]
  generalize hlg : rl.reverse = l at *
  refine wpC_for l.length (fun i vs N => ∃ ver, vs = [.ptr id 0, .mslice M.length ver 0 (opensTo f l i).length, .slice (l.map Ride.row) .unk, .int .i64 l.length, .int .i64 i] ∧ N = M ++ [.arr 5 ((opensTo f l i).map Open.row) ver 0]) ⟨0, rfl, rfl⟩ ?_ ?_
  rotate_left
  · rintro vs N ⟨ver, rfl, rfl⟩
    simp -implicitDefEqProofs (disch := omega) only [go_sem, Nat.reduceAdd, Nat.reduceMul, Nat.reduceSub, Nat.reduceBEq, Nat.reduceLeDiff, Nat.reduceLT, fn_farestate_State_tickets, e31_1, w31_1, e31_3, w31_3, e31_5, w31_5, e31_7, w31_7, e31_9, w31_9, c31_10, e31_12, w31_12, e31_14, w31_14, e31_16, w31_16, e31_18, w31_18, e31_20, w31_20, c31_21, e31_23, w31_23, e31_25, w31_25, e31_27, w31_27, c31_28, c31_29, c31_30, e31_32, w31_32, c31_33, c31_34, c31_35, c31_36, c31_37, c31_38, e31_40, w31_40, e31_42, w31_42, c31_43, e31_45, w31_45, e31_47, w31_47, e31_49, w31_49, c31_50, c31_51, e31_53, w31_53, c31_54, c31_55, c31_56, c31_57, c31_58, c31_59, c31_60, c31_61, c31_62, c31_63, c31_64, e31_66, w31_66, c31_67, c31_68, c31_69, c31_70, c31_71, c31_72, e31_74, w31_74, c31_75, c31_76, c31_77, c31_78, c31_79, dec_irrefl, lt_self, get_at0, app_take, le_app, hU, opens]
  rintro i vs N hi hid ⟨ver, rfl, rfl⟩
  have hT := hsum i (by omega)
  simp -implicitDefEqProofs (disch := omega) only [go_sem, Nat.reduceAdd, Nat.reduceMul, Nat.reduceSub, Nat.reduceBEq, Nat.reduceLeDiff, Nat.reduceLT, fn_farestate_State_tickets, e31_1, w31_1, e31_3, w31_3, e31_5, w31_5, e31_7, w31_7, e31_9, w31_9, c31_10, e31_12, w31_12, e31_14, w31_14, e31_16, w31_16, e31_18, w31_18, e31_20, w31_20, c31_21, e31_23, w31_23, e31_25, w31_25, e31_27, w31_27, c31_28, c31_29, c31_30, e31_32, w31_32, c31_33, c31_34, c31_35, c31_36, c31_37, c31_38, e31_40, w31_40, e31_42, w31_42, c31_43, e31_45, w31_45, e31_47, w31_47, e31_49, w31_49, c31_50, c31_51, e31_53, w31_53, c31_54, c31_55, c31_56, c31_57, c31_58, c31_59, c31_60, c31_61, c31_62, c31_63, c31_64, e31_66, w31_66, c31_67, c31_68, c31_69, c31_70, c31_71, c31_72, e31_74, w31_74, c31_75, c31_76, c31_77, c31_78, c31_79, hid, nilCheck_ptr, hM', st_sum]
  refine ifD (fun h3 => ?_) (fun h3 => ?_)
  · simp -implicitDefEqProofs (disch := omega) only [go_sem, Nat.reduceAdd, Nat.reduceMul, Nat.reduceSub, Nat.reduceBEq, Nat.reduceLeDiff, Nat.reduceLT, fn_farestate_State_tickets, e31_1, w31_1, e31_3, w31_3, e31_5, w31_5, e31_7, w31_7, e31_9, w31_9, c31_10, e31_12, w31_12, e31_14, w31_14, e31_16, w31_16, e31_18, w31_18, e31_20, w31_20, c31_21, e31_23, w31_23, e31_25, w31_25, e31_27, w31_27, c31_28, c31_29, c31_30, e31_32, w31_32, c31_33, c31_34, c31_35, c31_36, c31_37, c31_38, e31_40, w31_40, e31_42, w31_42, c31_43, e31_45, w31_45, e31_47, w31_47, e31_49, w31_49, c31_50, c31_51, e31_53, w31_53, c31_54, c31_55, c31_56, c31_57, c31_58, c31_59, c31_60, c31_61, c31_62, c31_63, c31_64, e31_66, w31_66, c31_67, c31_68, c31_69, c31_70, c31_71, c31_72, e31_74, w31_74, c31_75, c31_76, c31_77, c31_78, c31_79]
    refine next_stay hi ⟨ver, ?_, ?_⟩
    · simp only [vals, sget, opensTo_succ, ← hT, if_pos h3, List.append_nil]; rfl
    · simp only [opensTo_succ, ← hT, if_pos h3, List.append_nil]
  obtain ⟨c', hpost⟩ := slice_post l i .unk (M ++ [.arr 5 ((opensTo f l i).map Open.row) ver 0]) (by omega)
  simp -implicitDefEqProofs (disch := omega) only [go_sem, Nat.reduceAdd, Nat.reduceMul, Nat.reduceSub, Nat.reduceBEq, Nat.reduceLeDiff, Nat.reduceLT, fn_farestate_State_tickets, e31_1, w31_1, e31_3, w31_3, e31_5, w31_5, e31_7, w31_7, e31_9, w31_9, c31_10, e31_12, w31_12, e31_14, w31_14, e31_16, w31_16, e31_18, w31_18, e31_20, w31_20, c31_21, e31_23, w31_23, e31_25, w31_25, e31_27, w31_27, c31_28, c31_29, c31_30, e31_32, w31_32, c31_33, c31_34, c31_35, c31_36, c31_37, c31_38, e31_40, w31_40, e31_42, w31_42, c31_43, e31_45, w31_45, e31_47, w31_47, e31_49, w31_49, c31_50, c31_51, e31_53, w31_53, c31_54, c31_55, c31_56, c31_57, c31_58, c31_59, c31_60, c31_61, c31_62, c31_63, c31_64, e31_66, w31_66, c31_67, c31_68, c31_69, c31_70, c31_71, c31_72, e31_74, w31_74, c31_75, c31_76, c31_77, c31_78, c31_79, hpost]
  have hdl : ∀ r ∈ l.drop i, r.wf := fun r hr => hl' r (List.mem_of_mem_drop hr)
  have hdn : (l.drop i).length = l.length - i := List.length_drop
  have hal : (opensAt f l i f.products.length).length ≤ f.products.length := opensAt_len _ _ _ _
  have htl : (opensTo f l i).length ≤ i * f.products.length := opensTo_len _ _ _
  have htl2 : i * f.products.length ≤ 8 * 16 := Nat.mul_le_mul (by omega) hplen
  refine wpC_forL (l.drop i) (fun j vs N => vs = [.ptr id 0, .mslice M.length ver 0 (opensTo f l i).length, .slice (l.map Ride.row) .unk, .int .i64 i, .int .u64 (zonesOf ((l.drop i).take j)), .int .u64 (modesOf ((l.drop i).take j)), .int .i64 l.length, .int .i64 i, .slice ((l.drop i).map Ride.row) c', .int .i64 (l.drop i).length, .int .i64 j] ∧ N = M ++ [.arr 5 ((opensTo f l i).map Open.row) ver 0]) ⟨rfl, rfl⟩ ?_ ?_
  · rintro j r vs N hr hj hjd ⟨rfl, rfl⟩
    have z1 := zonesOf_lt ((l.drop i).take j)
    have z2 := modesOf_lt ((l.drop i).take j)
    simp -implicitDefEqProofs (disch := omega) only [go_sem, Nat.reduceAdd, Nat.reduceMul, Nat.reduceSub, Nat.reduceBEq, Nat.reduceLeDiff, Nat.reduceLT, fn_farestate_State_tickets, e31_1, w31_1, e31_3, w31_3, e31_5, w31_5, e31_7, w31_7, e31_9, w31_9, c31_10, e31_12, w31_12, e31_14, w31_14, e31_16, w31_16, e31_18, w31_18, e31_20, w31_20, c31_21, e31_23, w31_23, e31_25, w31_25, e31_27, w31_27, c31_28, c31_29, c31_30, e31_32, w31_32, c31_33, c31_34, c31_35, c31_36, c31_37, c31_38, e31_40, w31_40, e31_42, w31_42, c31_43, e31_45, w31_45, e31_47, w31_47, e31_49, w31_49, c31_50, c31_51, e31_53, w31_53, c31_54, c31_55, c31_56, c31_57, c31_58, c31_59, c31_60, c31_61, c31_62, c31_63, c31_64, e31_66, w31_66, c31_67, c31_68, c31_69, c31_70, c31_71, c31_72, e31_74, w31_74, c31_75, c31_76, c31_77, c31_78, c31_79, hjd, hr, get_at0, get_at, set_at0, set_at, List.append_assoc, Ride.row, conv_bset, orK_nat _ _ z1 (bset_lt _), orK_nat _ _ z2 (bset_lt _)]
    refine next_pop hj ?_ ⟨?_, ?_⟩
    · refine pop1 (h.own.app rfl) ?_
      have h1 : id < M.length := (List.getElem?_eq_some_iff.1 hM).1
      simp [vals, sget, underL, V.under]
      omega
    · simp only [zonesOf_snoc _ _ _ hr, modesOf_snoc _ _ _ hr]; rfl
    · exact take1 _ _ _
  rintro vs N ⟨rfl, rfl⟩
  rw [List.take_length]
  simp -implicitDefEqProofs (disch := omega) only [go_sem, Nat.reduceAdd, Nat.reduceMul, Nat.reduceSub, Nat.reduceBEq, Nat.reduceLeDiff, Nat.reduceLT, fn_farestate_State_tickets, e31_1, w31_1, e31_3, w31_3, e31_5, w31_5, e31_7, w31_7, e31_9, w31_9, c31_10, e31_12, w31_12, e31_14, w31_14, e31_16, w31_16, e31_18, w31_18, e31_20, w31_20, c31_21, e31_23, w31_23, e31_25, w31_25, e31_27, w31_27, c31_28, c31_29, c31_30, e31_32, w31_32, c31_33, c31_34, c31_35, c31_36, c31_37, c31_38, e31_40, w31_40, e31_42, w31_42, c31_43, e31_45, w31_45, e31_47, w31_47, e31_49, w31_49, c31_50, c31_51, e31_53, w31_53, c31_54, c31_55, c31_56, c31_57, c31_58, c31_59, c31_60, c31_61, c31_62, c31_63, c31_64, e31_66, w31_66, c31_67, c31_68, c31_69, c31_70, c31_71, c31_72, e31_74, w31_74, c31_75, c31_76, c31_77, c31_78, c31_79, dec_irrefl, nilCheck_ptr, hM', hF', st_0, fcell]
  refine wpC_forL f.products (fun k vs N => ∃ ver, vs = [.ptr id 0, .mslice M.length ver 0 (opN f l i k).length, .slice (l.map Ride.row) .unk, .int .i64 i, .int .u64 (zonesOf (l.drop i)), .int .u64 (modesOf (l.drop i)), .int .i64 l.length, .int .i64 i, .slice (f.products.map Product.row) .unk, .int .i64 f.products.length, .int .i64 k] ∧ N = M ++ [.arr 5 ((opN f l i k).map Open.row) ver 0]) ⟨ver, by simp [opN_zero, vals, sget], by simp [opN_zero]⟩ ?_ ?_
  rotate_left
  · rintro vs N ⟨ver, rfl, rfl⟩
    simp -implicitDefEqProofs (disch := omega) only [go_sem, Nat.reduceAdd, Nat.reduceMul, Nat.reduceSub, Nat.reduceBEq, Nat.reduceLeDiff, Nat.reduceLT, fn_farestate_State_tickets, e31_1, w31_1, e31_3, w31_3, e31_5, w31_5, e31_7, w31_7, e31_9, w31_9, c31_10, e31_12, w31_12, e31_14, w31_14, e31_16, w31_16, e31_18, w31_18, e31_20, w31_20, c31_21, e31_23, w31_23, e31_25, w31_25, e31_27, w31_27, c31_28, c31_29, c31_30, e31_32, w31_32, c31_33, c31_34, c31_35, c31_36, c31_37, c31_38, e31_40, w31_40, e31_42, w31_42, c31_43, e31_45, w31_45, e31_47, w31_47, e31_49, w31_49, c31_50, c31_51, e31_53, w31_53, c31_54, c31_55, c31_56, c31_57, c31_58, c31_59, c31_60, c31_61, c31_62, c31_63, c31_64, e31_66, w31_66, c31_67, c31_68, c31_69, c31_70, c31_71, c31_72, e31_74, w31_74, c31_75, c31_76, c31_77, c31_78, c31_79, dec_irrefl]
    refine next_stay hi ⟨ver, ?_, ?_⟩
    · rw [opN_all (by omega)]; simp only [vals, sget]; rfl
    · rw [opN_all (by omega)]
  rintro k p vs N hp hk hkd ⟨ver, rfl, rfl⟩
  obtain ⟨r, hr⟩ : ∃ r, l[i]? = some r := ⟨l[i], by simp⟩
  have hak := opN_len (f := f) (l := l) (i := i) (k := k) (by omega) hplen (by omega)
  have hpm := List.mem_of_getElem? hp
  have hpi := (hok.prods p hpm).1
  have z1 := zonesOf_lt (l.drop i)
  have z2 := modesOf_lt (l.drop i)
  have htk := ticket_range (f := f) (l := l) (i := i) hpi hok.discount.1
  have hT0 : 0 ≤ minSum f (l.take i) := by rw [← hT]; omega
  have hTb : minSum f (l.take i) ≤ 8000000 := by
    obtain ⟨d, e1, e2⟩ := minSum_get hT0
    have := div_mild hok _ _ e1
    rw [List.length_take] at this
    omega
  have hopen : openOf f l i k = if ((l.length : Int) - i < p.rides ∧ (pop 64 (zonesOf (l.drop i)) : Int) ≤ p.zones ∧ minus (modesOf (l.drop i)) (bset p.modes) = 0) then some ⟨k, r.depart, (l.length : Int) - i, minSum f (l.take i) + ticket f p l i, zonesOf (l.drop i)⟩ else none := by
    simp only [openOf, hp, hr]
  have hpop : ∀ (n ver : Nat) (R : List (List V)) (L : Mem), popOK (M.length + 1) [.ptr id 0, .mslice M.length ver 0 n, .slice (l.map Ride.row) .unk, .int .i64 i, .int .u64 (zonesOf (l.drop i)), .int .u64 (modesOf (l.drop i)), .int .i64 l.length, .int .i64 i, .slice (f.products.map Product.row) .unk, .int .i64 f.products.length, .int .i64 ((k : Int) + 1)] (M ++ .arr 5 R ver 0 :: L) = true := by
    intro n ver R L
    have h1 : id < M.length := (List.getElem?_eq_some_iff.1 hM).1
    refine pop1 (h.own.app rfl) ?_
    simp [underL, V.under]
    omega
  have hno : ¬ ((l.length : Int) - i < p.rides ∧ (pop 64 (zonesOf (l.drop i)) : Int) ≤ p.zones ∧ minus (modesOf (l.drop i)) (bset p.modes) = 0) → opN f l i (k + 1) = opN f l i k := by
    intro hc
    rw [opN_succ, hopen, if_neg hc]; simp
  simp -implicitDefEqProofs (disch := omega) only [go_sem, Nat.reduceAdd, Nat.reduceMul, Nat.reduceSub, Nat.reduceBEq, Nat.reduceLeDiff, Nat.reduceLT, fn_farestate_State_tickets, e31_1, w31_1, e31_3, w31_3, e31_5, w31_5, e31_7, w31_7, e31_9, w31_9, c31_10, e31_12, w31_12, e31_14, w31_14, e31_16, w31_16, e31_18, w31_18, e31_20, w31_20, c31_21, e31_23, w31_23, e31_25, w31_25, e31_27, w31_27, c31_28, c31_29, c31_30, e31_32, w31_32, c31_33, c31_34, c31_35, c31_36, c31_37, c31_38, e31_40, w31_40, e31_42, w31_42, c31_43, e31_45, w31_45, e31_47, w31_47, e31_49, w31_49, c31_50, c31_51, e31_53, w31_53, c31_54, c31_55, c31_56, c31_57, c31_58, c31_59, c31_60, c31_61, c31_62, c31_63, c31_64, e31_66, w31_66, c31_67, c31_68, c31_69, c31_70, c31_71, c31_72, e31_74, w31_74, c31_75, c31_76, c31_77, c31_78, c31_79, hkd, hp, get_at0, get_at, set_at0, set_at, List.append_assoc, Product.row]
  refine ifD (fun h4 => ?_) (fun h4 => ?_)
  rotate_left
  · simp -implicitDefEqProofs (disch := omega) only [go_sem, Nat.reduceAdd, Nat.reduceMul, Nat.reduceSub, Nat.reduceBEq, Nat.reduceLeDiff, Nat.reduceLT, fn_farestate_State_tickets, e31_1, w31_1, e31_3, w31_3, e31_5, w31_5, e31_7, w31_7, e31_9, w31_9, c31_10, e31_12, w31_12, e31_14, w31_14, e31_16, w31_16, e31_18, w31_18, e31_20, w31_20, c31_21, e31_23, w31_23, e31_25, w31_25, e31_27, w31_27, c31_28, c31_29, c31_30, e31_32, w31_32, c31_33, c31_34, c31_35, c31_36, c31_37, c31_38, e31_40, w31_40, e31_42, w31_42, c31_43, e31_45, w31_45, e31_47, w31_47, e31_49, w31_49, c31_50, c31_51, e31_53, w31_53, c31_54, c31_55, c31_56, c31_57, c31_58, c31_59, c31_60, c31_61, c31_62, c31_63, c31_64, e31_66, w31_66, c31_67, c31_68, c31_69, c31_70, c31_71, c31_72, e31_74, w31_74, c31_75, c31_76, c31_77, c31_78, c31_79]
    refine next_pop hk (hpop _ _ _ _) ⟨ver, ?_, ?_⟩
    · rw [hno (fun e => h4 e.1)]; simp only [vals, sget]; rfl
    · rw [hno (fun e => h4 e.1)]; exact take1 _ _ _
  simp -implicitDefEqProofs (disch := omega) only [go_sem, Nat.reduceAdd, Nat.reduceMul, Nat.reduceSub, Nat.reduceBEq, Nat.reduceLeDiff, Nat.reduceLT, fn_farestate_State_tickets, e31_1, w31_1, e31_3, w31_3, e31_5, w31_5, e31_7, w31_7, e31_9, w31_9, c31_10, e31_12, w31_12, e31_14, w31_14, e31_16, w31_16, e31_18, w31_18, e31_20, w31_20, c31_21, e31_23, w31_23, e31_25, w31_25, e31_27, w31_27, c31_28, c31_29, c31_30, e31_32, w31_32, c31_33, c31_34, c31_35, c31_36, c31_37, c31_38, e31_40, w31_40, e31_42, w31_42, c31_43, e31_45, w31_45, e31_47, w31_47, e31_49, w31_49, c31_50, c31_51, e31_53, w31_53, c31_54, c31_55, c31_56, c31_57, c31_58, c31_59, c31_60, c31_61, c31_62, c31_63, c31_64, e31_66, w31_66, c31_67, c31_68, c31_69, c31_70, c31_71, c31_72, e31_74, w31_74, c31_75, c31_76, c31_77, c31_78, c31_79]
  first | refine callD (OnesCount_ok _ z1) ?_ | refine callQD (OnesCount_ok _ z1) ?_
  simp -implicitDefEqProofs (disch := omega) only [go_sem, Nat.reduceAdd, Nat.reduceMul, Nat.reduceSub, Nat.reduceBEq, Nat.reduceLeDiff, Nat.reduceLT, fn_farestate_State_tickets, e31_1, w31_1, e31_3, w31_3, e31_5, w31_5, e31_7, w31_7, e31_9, w31_9, c31_10, e31_12, w31_12, e31_14, w31_14, e31_16, w31_16, e31_18, w31_18, e31_20, w31_20, c31_21, e31_23, w31_23, e31_25, w31_25, e31_27, w31_27, c31_28, c31_29, c31_30, e31_32, w31_32, c31_33, c31_34, c31_35, c31_36, c31_37, c31_38, e31_40, w31_40, e31_42, w31_42, c31_43, e31_45, w31_45, e31_47, w31_47, e31_49, w31_49, c31_50, c31_51, e31_53, w31_53, c31_54, c31_55, c31_56, c31_57, c31_58, c31_59, c31_60, c31_61, c31_62, c31_63, c31_64, e31_66, w31_66, c31_67, c31_68, c31_69, c31_70, c31_71, c31_72, e31_74, w31_74, c31_75, c31_76, c31_77, c31_78, c31_79, hkd, hp, get_at0, get_at, set_at0, set_at, List.append_assoc, Product.row]
  refine ifD (fun h5 => ?_) (fun h5 => ?_)
  rotate_left
  · simp -implicitDefEqProofs (disch := omega) only [go_sem, Nat.reduceAdd, Nat.reduceMul, Nat.reduceSub, Nat.reduceBEq, Nat.reduceLeDiff, Nat.reduceLT, fn_farestate_State_tickets, e31_1, w31_1, e31_3, w31_3, e31_5, w31_5, e31_7, w31_7, e31_9, w31_9, c31_10, e31_12, w31_12, e31_14, w31_14, e31_16, w31_16, e31_18, w31_18, e31_20, w31_20, c31_21, e31_23, w31_23, e31_25, w31_25, e31_27, w31_27, c31_28, c31_29, c31_30, e31_32, w31_32, c31_33, c31_34, c31_35, c31_36, c31_37, c31_38, e31_40, w31_40, e31_42, w31_42, c31_43, e31_45, w31_45, e31_47, w31_47, e31_49, w31_49, c31_50, c31_51, e31_53, w31_53, c31_54, c31_55, c31_56, c31_57, c31_58, c31_59, c31_60, c31_61, c31_62, c31_63, c31_64, e31_66, w31_66, c31_67, c31_68, c31_69, c31_70, c31_71, c31_72, e31_74, w31_74, c31_75, c31_76, c31_77, c31_78, c31_79]
    refine next_pop hk (hpop _ _ _ _) ⟨ver, ?_, ?_⟩
    · rw [hno (fun e => h5 e.2.1)]; simp only [vals, sget]; rfl
    · rw [hno (fun e => h5 e.2.1)]; exact take1 _ _ _
  simp -implicitDefEqProofs (disch := omega) only [go_sem, Nat.reduceAdd, Nat.reduceMul, Nat.reduceSub, Nat.reduceBEq, Nat.reduceLeDiff, Nat.reduceLT, fn_farestate_State_tickets, e31_1, w31_1, e31_3, w31_3, e31_5, w31_5, e31_7, w31_7, e31_9, w31_9, c31_10, e31_12, w31_12, e31_14, w31_14, e31_16, w31_16, e31_18, w31_18, e31_20, w31_20, c31_21, e31_23, w31_23, e31_25, w31_25, e31_27, w31_27, c31_28, c31_29, c31_30, e31_32, w31_32, c31_33, c31_34, c31_35, c31_36, c31_37, c31_38, e31_40, w31_40, e31_42, w31_42, c31_43, e31_45, w31_45, e31_47, w31_47, e31_49, w31_49, c31_50, c31_51, e31_53, w31_53, c31_54, c31_55, c31_56, c31_57, c31_58, c31_59, c31_60, c31_61, c31_62, c31_63, c31_64, e31_66, w31_66, c31_67, c31_68, c31_69, c31_70, c31_71, c31_72, e31_74, w31_74, c31_75, c31_76, c31_77, c31_78, c31_79, hkd, hp, get_at0, get_at, set_at0, set_at, List.append_assoc, Product.row, conv_bset, andNotK_nat _ _ z2 (bset_lt _)]
  refine ifD (fun h6 => ?_) (fun h6 => ?_)
  rotate_left
  · simp -implicitDefEqProofs (disch := omega) only [go_sem, Nat.reduceAdd, Nat.reduceMul, Nat.reduceSub, Nat.reduceBEq, Nat.reduceLeDiff, Nat.reduceLT, fn_farestate_State_tickets, e31_1, w31_1, e31_3, w31_3, e31_5, w31_5, e31_7, w31_7, e31_9, w31_9, c31_10, e31_12, w31_12, e31_14, w31_14, e31_16, w31_16, e31_18, w31_18, e31_20, w31_20, c31_21, e31_23, w31_23, e31_25, w31_25, e31_27, w31_27, c31_28, c31_29, c31_30, e31_32, w31_32, c31_33, c31_34, c31_35, c31_36, c31_37, c31_38, e31_40, w31_40, e31_42, w31_42, c31_43, e31_45, w31_45, e31_47, w31_47, e31_49, w31_49, c31_50, c31_51, e31_53, w31_53, c31_54, c31_55, c31_56, c31_57, c31_58, c31_59, c31_60, c31_61, c31_62, c31_63, c31_64, e31_66, w31_66, c31_67, c31_68, c31_69, c31_70, c31_71, c31_72, e31_74, w31_74, c31_75, c31_76, c31_77, c31_78, c31_79]
    refine next_pop hk (hpop _ _ _ _) ⟨ver, ?_, ?_⟩
    · rw [hno (fun e => h6 (by have := e.2.2; omega))]; simp only [vals, sget]; rfl
    · rw [hno (fun e => h6 (by have := e.2.2; omega))]; exact take1 _ _ _
  simp -implicitDefEqProofs (disch := omega) only [go_sem, Nat.reduceAdd, Nat.reduceMul, Nat.reduceSub, Nat.reduceBEq, Nat.reduceLeDiff, Nat.reduceLT, fn_farestate_State_tickets, e31_1, w31_1, e31_3, w31_3, e31_5, w31_5, e31_7, w31_7, e31_9, w31_9, c31_10, e31_12, w31_12, e31_14, w31_14, e31_16, w31_16, e31_18, w31_18, e31_20, w31_20, c31_21, e31_23, w31_23, e31_25, w31_25, e31_27, w31_27, c31_28, c31_29, c31_30, e31_32, w31_32, c31_33, c31_34, c31_35, c31_36, c31_37, c31_38, e31_40, w31_40, e31_42, w31_42, c31_43, e31_45, w31_45, e31_47, w31_47, e31_49, w31_49, c31_50, c31_51, e31_53, w31_53, c31_54, c31_55, c31_56, c31_57, c31_58, c31_59, c31_60, c31_61, c31_62, c31_63, c31_64, e31_66, w31_66, c31_67, c31_68, c31_69, c31_70, c31_71, c31_72, e31_74, w31_74, c31_75, c31_76, c31_77, c31_78, c31_79, nilCheck_ptr, hM', st_sum, hp, hr, get_at0, get_at, Product.row, Ride.row]
  have hown3 : Own (M ++ [.arr 5 ((opN f l i k).map Open.row) ver 0, .box p.row]) := h.own.app (by simp [memUnder, Blk.under, underL, V.under, Product.row])
  refine ⟨.int .i64 (ticket f p l i), State_price_ok f p l .unk i hf hok hpi hl' hi (by have hm : maxLen = 9223372036854775807 := rfl; omega) (hM' _) (hF' _) hown3, ?_⟩
  have hyes : opN f l i (k + 1) = opN f l i k ++ [⟨k, r.depart, (l.length : Int) - i, minSum f (l.take i) + ticket f p l i, zonesOf (l.drop i)⟩] := by
    rw [opN_succ, hopen, if_pos ⟨h4, h5, by omega⟩]; rfl
  simp -implicitDefEqProofs (disch := omega) only [go_sem, Nat.reduceAdd, Nat.reduceMul, Nat.reduceSub, Nat.reduceBEq, Nat.reduceLeDiff, Nat.reduceLT, fn_farestate_State_tickets, e31_1, w31_1, e31_3, w31_3, e31_5, w31_5, e31_7, w31_7, e31_9, w31_9, c31_10, e31_12, w31_12, e31_14, w31_14, e31_16, w31_16, e31_18, w31_18, e31_20, w31_20, c31_21, e31_23, w31_23, e31_25, w31_25, e31_27, w31_27, c31_28, c31_29, c31_30, e31_32, w31_32, c31_33, c31_34, c31_35, c31_36, c31_37, c31_38, e31_40, w31_40, e31_42, w31_42, c31_43, e31_45, w31_45, e31_47, w31_47, e31_49, w31_49, c31_50, c31_51, e31_53, w31_53, c31_54, c31_55, c31_56, c31_57, c31_58, c31_59, c31_60, c31_61, c31_62, c31_63, c31_64, e31_66, w31_66, c31_67, c31_68, c31_69, c31_70, c31_71, c31_72, e31_74, w31_74, c31_75, c31_76, c31_77, c31_78, c31_79, hT, get_at0, get_at, set_at0, set_at]
  refine next_pop hk (hpop _ _ _ _) ⟨ver + 1, ?_, ?_⟩
  · simp only [vals, sget, hyes, List.length_append, List.length_singleton]; rfl
  · simp only [hyes, List.map_append]; exact take1 _ _ _

end Go.Vm.C

