import PyProof.Rows.All
import Wide.All
import OpenK.AllK
import Wide.FinOn
import PySem.Challenge.RW_on0359_01
open PySem PySem.W PyProof.Rows
set_option Elab.async false
set_option tactic.hygienic false
set_option maxRecDepth 100000
set_option maxHeartbeats 8000000

namespace Mine
section
local macro_rules | `(tactic| o_head $_) => `(tactic| contradiction)
theorem cap : False → PySem.Challenge.rw_on0359_01.row.Holds := by
  intro no
  k_head
end
theorem two_strs : Str.ofString "self" ≠ Str.ofString "first" := by decide
noncomputable def Kx (P : Params) : Frag := Subtype.val (p := fun w0 => Str.ofString "self" ≠ Str.ofString "first") ⟨by
  refine' (?f : (l : Frag) → l = cap.heap_1 P → Frag) (_ :: _) rfl
  exact fun l w0 => l, two_strs⟩
section
local macro_rules | `(tactic| o_head ($f $_ $a $e)) => `(tactic| o_head (@id Hook ($f Mine.Kx $a $e)))
open_top hd for PySem.Challenge.rw_on0359_01
end
end Mine

namespace Mine
theorem zs1 {a b m : Nat} (h : b - a = m + 1) : b - (a + 1) = m := by rw [Nat.sub_add_eq, h]; rfl
theorem zs2 {a b m : Nat} (h : b - a = m + 1) : a < b := Nat.lt_of_sub_eq_succ h
theorem zs3 {a b m : Nat} (h : b - a = m + 1) : a + 1 ≤ b := Nat.lt_of_sub_eq_succ h
theorem zs4 {a b : Nat} (h1 : b - a = 0) (h : a ≤ b) : a = b := Nat.le_antisymm h (Nat.le_of_sub_eq_zero h1)
theorem zs5 {a b : Nat} (h1 : b - a = 0) : b ≤ a := Nat.le_of_sub_eq_zero h1
theorem zs6b {a b c m : Nat} (h : b - a - c = m + 1) : a + c < b := Nat.lt_of_sub_eq_succ ((Nat.sub_sub b a c).symm.trans h)
theorem zs6 {a b c m : Nat} (h : b - a - c = m + 1) : a + 1 + c ≤ b := by rw [Nat.add_right_comm a 1 c]; exact zs6b h
theorem zs7 {a b m c : Nat} (h : b - a = m + 1) (h2 : c = b) : a < c := h2 ▸ Nat.lt_of_sub_eq_succ h
theorem zs8 {a b m : Nat} (h : b - a = m + 1) : (((b : Int) + 1) - ((a : Int) + 1)).toNat = b - a := (Int.toNat_sub (b + 1) (a + 1)).trans (Nat.add_sub_add_right b 1 a)
theorem za1 {a b c : Nat} (h : a + (b + 1) ≤ c) : a + 1 + b ≤ c := by rw [Nat.add_assoc, Nat.add_comm 1]; exact h
theorem za2 {a b c : Nat} (h : a + (b + 1) ≤ c) : a + b ≤ c := Nat.le_of_succ_le h
theorem za3 {a b c : Nat} (h : a + (b + 1) = c) : a + 1 + b = c := by rw [Nat.add_assoc, Nat.add_comm 1]; exact h
theorem za4 {a b : Nat} : a + 1 + b = a + (b + 1) := by rw [Nat.add_assoc, Nat.add_comm 1]
theorem za5 {a b c : Nat} (h : a + (b + 1) = c) : a < c := h ▸ Nat.lt_add_of_pos_right (Nat.succ_pos _)
theorem za6 {a b c : Nat} (h : a + (b + 1) ≤ c) : a < c := Nat.lt_of_lt_of_le (Nat.lt_add_of_pos_right (Nat.succ_pos _)) h
theorem za7 {a b c n m : Nat} (h : a + (b + 1) ≤ c) (hc : c ≤ m) (d : m ≤ n) : a ≤ n := Nat.le_trans (Nat.le_trans (Nat.le_add_right _ _) h) (Nat.le_trans hc d)
theorem za8 {a b c n : Nat} (h : a + (b + 1) ≤ c) (hc : c ≤ n) : a ≤ n := Nat.le_trans (Nat.le_trans (Nat.le_add_right _ _) h) hc
theorem za9 {a b c n m : Nat} (h : a + (b + 1) = c) (hc : c ≤ m) (d : m ≤ n) : a ≤ n := Nat.le_trans (h ▸ Nat.le_add_right _ _) (Nat.le_trans hc d)
theorem za10 {a b c n m : Nat} (h : a + b = c) (hc : c ≤ m) (d : m ≤ n) : a ≤ n := Nat.le_trans (h ▸ Nat.le_add_right _ _) (Nat.le_trans hc d)
theorem za11 {a b c : Nat} (h : a + b = c) (h0 : b = 0) : a = c := by rw [h0] at h; exact h
theorem zp1 {a : Nat} (h : 0 < a) : ((a : Int) - 1) = ((a - 1 : Nat) : Int) := (Int.ofNat_sub h).symm
theorem zp2 {a b : Nat} (h : b < a) : ((a : Int) - 1) = ((a - 1 : Nat) : Int) := zp1 (Nat.lt_of_le_of_lt (Nat.zero_le _) h)
theorem zp3 {a : Nat} (h : 0 < a) : a - 1 < a := Nat.sub_lt h Nat.one_pos
theorem zp4 {a b : Nat} (h : b < a) : a - 1 < a := Nat.sub_lt (Nat.lt_of_le_of_lt (Nat.zero_le _) h) Nat.one_pos
theorem zp5 {a : Nat} (h : 0 < a) : a = a - 1 + 1 := (Nat.succ_pred_eq_of_pos h).symm
theorem zp6 {a b : Nat} (h : b < a) : a = a - 1 + 1 := zp5 (Nat.lt_of_le_of_lt (Nat.zero_le _) h)
theorem zp7 {a b : Nat} (h : a < b) : b - (a + 1) < b - a := Nat.sub_lt_sub_left h (Nat.lt_succ_self _)
theorem zp8 {a b c : Nat} (h : a ≤ b) (h2 : b < c) : c - (a + 1) < c - a := zp7 (Nat.lt_of_le_of_lt h h2)
theorem zp9 {a b : Nat} (h : a < b) : 0 < b := Nat.lt_of_le_of_lt (Nat.zero_le _) h
theorem zp10 {a b : Nat} (h : a ≤ b) : a - 1 ≤ b := Nat.le_trans (Nat.sub_le _ _) h
theorem zp11 {a b : Nat} (h : a < b) : a - 1 < b := Nat.lt_of_le_of_lt (Nat.sub_le _ _) h
theorem zp12 {a b c : Nat} (h : a < b) (h2 : c ≤ a) : c - 1 < b := zp11 (Nat.lt_of_le_of_lt h2 h)
theorem zp13 {a b c : Nat} (h : a < b) (h2 : b ≤ c) : b - 1 < c := Nat.lt_of_lt_of_le (zp4 h) h2
theorem zp14 {a b : Nat} (h : 0 < a) (h2 : a ≤ b) : a - 1 < b := Nat.lt_of_lt_of_le (zp3 h) h2
theorem zp15 {a b : Nat} (h : a < b) (h2 : ¬ b = a + 1) : a + 1 < b := Nat.lt_of_le_of_ne h (fun e => h2 e.symm)
theorem zp17 {a b : Nat} : a + 1 + b - 1 = a + b := by rw [Nat.add_right_comm]; rfl
theorem zi1 {a : Nat} : ((a : Int) + 1).toNat = a + 1 := rfl
theorem zi2 {a : Nat} : (-1000000 : Int) ≤ (a : Int) + 1 := by omega
theorem zi3 {a : Nat} : (-1000000 : Int) ≤ (a : Int) := by omega
theorem zi4 {a m : Nat} (h : a ≤ m) (d : m ≤ 1000000) : (a : Int) ≤ 1000000 := by omega
theorem zi5 {a m : Nat} (h : a ≤ m) (d : m ≤ 999999) : (a : Int) + 1 ≤ 1000000 := by omega
theorem zi7 {x : Int} (h : 0 ≤ x) : x = (x.toNat : Int) := (Int.toNat_of_nonneg h).symm
theorem zi8 {a b : Nat} : (((b : Int) - (a : Int)).toNat) = b - a := Int.toNat_sub b a
theorem zi9 {x n : Int} {m : Nat} (h0 : 0 ≤ x) (h : x < n) (d : n ≤ (m : Int) + 1) : x.toNat ≤ m := by omega
theorem zi10 {x n : Int} {m k : Nat} (h : k = x.toNat) (h0 : 0 ≤ x) (h : x < n) (d : n ≤ (m : Int) + 1) : k ≤ m := by omega
theorem zi11 {a b m : Nat} (h : b ≤ a) (h1 : a ≤ m) (d : m ≤ 999999) : (b : Int) + 1 ≤ 1000000 := by omega
theorem zi12 {a b : Nat} (h : a < b) : (a : Int) < (b : Int) := Int.ofNat_lt.mpr h
theorem zi13 {a : Nat} : (0 : Int) ≤ (a : Int) := Int.natCast_nonneg a
theorem zi14 {x : Int} (h : 0 ≤ x) : 0 ≤ x + 1 := by omega
theorem zq1 {n i : Nat} : n + 1 - (i + 1) = n - i := Nat.add_sub_add_right n 1 i
theorem zq2 {b i : Nat} (h : 0 < b) : b - 1 + (i + 1) = b + 1 - 1 + i := by
  cases b with
  | zero => cases h
  | succ c => exact (za4 (a := c) (b := i)).symm
theorem zq3 {b B i : Nat} (h0 : 0 < b) (h : i < B + 1) : b - 1 + (B + 1 - 1 - i) = b + B - 1 - i := by
  cases b with
  | zero => cases h0
  | succ c => rw [Nat.add_right_comm c 1 B]; exact (Nat.add_sub_assoc (Nat.le_of_lt_succ h) c).symm
theorem zq4 {f A i : Nat} (h : A ≤ f) (hi : i < A + 1) : f - (A + 1 - 1 - i) = f - A + i := by
  show f - (A - i) = _
  rw [Nat.sub_sub_right f (Nat.le_of_lt_succ hi), Nat.sub_add_comm h]
theorem zq5 {b B : Nat} (h : 0 < b) : B + 1 = b + B - (b - 1) := by
  cases b with
  | zero => cases h
  | succ c => show B + 1 = c + 1 + B - c; rw [Nat.add_assoc, Nat.add_sub_cancel_left, Nat.add_comm]
theorem zq6 {n j m : Nat} (h : n - j = m + 1) : n - j + 1 = n - (j + 1) + 1 + 1 := by rw [zs1 h, h]
theorem zq7 {u m : Nat} (h : u < m) : m - u = m - 1 - u + 1 := by
  cases m with
  | zero => cases h
  | succ c => exact Nat.succ_sub (Nat.le_of_lt_succ h)
theorem zq8 {a b : Nat} (h : a < b) : b - a = b - (a + 1) + 1 := by rw [Nat.sub_add_eq, Nat.sub_add_cancel (Nat.sub_pos_of_lt h)]
theorem zq9 {m i : Nat} : m - 1 - (i + 1) = m - 1 - 1 - i := by rw [Nat.add_comm, Nat.sub_add_eq]
theorem zq10 {m u t : Nat} (h : m - (u + 1) = t + 1) : m - 1 - (u + 1) = t := by rw [Nat.sub_right_comm, h]; rfl
theorem zq11 {m u t : Nat} (h : m - (u + 1) = t + 1) : u < m - 1 := Nat.le_pred_of_lt (Nat.lt_of_sub_eq_succ h)
theorem zq12 {m u : Nat} (h : m - (u + 1) = 0) (h2 : u < m) : m = u + 1 := Nat.le_antisymm (Nat.le_of_sub_eq_zero h) h2
theorem zq13 {a b : Nat} (h : a - 1 < b) : a ≤ b := Nat.le_of_pred_lt h
theorem zq14 {n A j : Nat} (h : n + 1 - (A + 1) ≤ j) : n - A ≤ j := Nat.add_sub_add_right n 1 A ▸ h
theorem zq15 {n j : Nat} {p : Prop} (h : n - 0 ≤ j) (h2 : j < n) : p := absurd (Nat.lt_of_le_of_lt h h2) (Nat.lt_irrefl _)
theorem zq16 {A f : Nat} (h : A ≤ f) : A = f - (f - A) := (Nat.sub_sub_self h).symm
theorem zq17 {a b c : Nat} (h : c < b + 1) : a + (b + 1) - 1 = a + b := rfl
theorem zq18 {a b c : Nat} (h : a < b + 1) : c - b ≤ c - a := Nat.sub_le_sub_left (Nat.le_of_lt_succ h) c
theorem zr0 {a m : Nat} (h : m < a) : a - m = a - m - 1 + 1 := zp5 (Nat.sub_pos_of_lt h)
theorem zr1 {a m n : Nat} (h : m < a) (h2 : a ≤ n) : a - m - 1 < n := Nat.lt_of_lt_of_le (Nat.lt_of_lt_of_le (zp3 (Nat.sub_pos_of_lt h)) (Nat.sub_le _ _)) h2
theorem zr2 {a m n : Nat} (h : a + m < n) : n - (a + (m + 1)) < n - (a + m) := zp7 h
theorem zr2b {a m n : Nat} (h : a + m < n) : a + (m + 1) ≤ n := h
theorem zr2c {a m : Nat} : a + (m + 1) = a + m + 1 := rfl
theorem zr2d {a n : Nat} : n - a = n - (a + 0) := rfl
theorem zr2e {a m n : Nat} (h : a + m < n) : (a : Int) + (m : Int) < (n : Int) := Int.ofNat_lt.mpr h
theorem zr2f {a : Nat} : a = a - 0 := rfl
theorem zr3 {n A B r : Nat} (e : A = B + 1) (h : n - A = r) : n - 1 - B = r := by rw [← h, e, Nat.add_comm, Nat.sub_add_eq]
theorem zr4 {n A : Nat} (h : ¬ 0 < n) : n - A = n := by rw [Nat.eq_zero_of_not_pos h, Nat.zero_sub]
theorem zr4b {a m : Nat} (h : ¬ m < a) : a - m = 0 := Nat.sub_eq_zero_of_le (Nat.le_of_not_lt h)
theorem zr4c {a m n : Nat} (h0 : 0 < a) (h : a ≤ m) (h2 : m ≤ n) : a - 1 < n := zp14 h0 (Nat.le_trans h h2)
theorem zr5 {m B C r : Nat} (e : B = C + 1) (h : m + B = r) : m + 1 + C = r := by rw [← h, e]; exact za4
theorem zr6 {L G p n j i m : Nat} (e : n - j - i = m + 1) (hn : n ≤ 10) (h1 : L ≤ G + i) (h2 : G ≤ p) (h3 : p ≤ 10 * 10) : L ≤ 1000 := Nat.le_trans h1 (Nat.le_trans (Nat.add_le_add (Nat.le_trans h2 h3) (Nat.le_trans (Nat.le_trans (Nat.le_of_lt (Nat.lt_of_sub_eq_succ e)) (Nat.sub_le _ _)) hn)) (by decide))
theorem zr7 {n j i m x : Nat} (e : n - j - i = m + 1) : j - x < n := Nat.lt_of_le_of_lt (Nat.sub_le _ _) (Nat.lt_of_le_of_lt (Nat.le_add_right j i) (zs6b e))
theorem zr8 {n j i m B x : Nat} (e : n - j - i = m + 1) (hB : B ≤ n - (j + 1 + i)) (hx : x < B + 1) : j + 1 + i - 1 + x < n := by
  have h := Nat.add_le_of_le_sub (zs6 e) (Nat.le_trans (Nat.le_of_lt_succ hx) hB)
  rw [zp17]
  rw [Nat.add_comm x, Nat.add_right_comm j 1 i, Nat.add_right_comm (j + i) 1 x] at h
  exact h
theorem zr9 {B n c K : Nat} (h : B ≤ n - c) (h2 : n ≤ 10) (d : 11 ≤ K) : B + 1 ≤ K := Nat.le_trans (Nat.succ_le_succ (Nat.le_trans h (Nat.le_trans (Nat.sub_le _ _) h2))) d
theorem zr10 {B n c K : Nat} (h : B ≤ c) (h1 : c ≤ n) (h2 : n ≤ 10) (d : 11 ≤ K) : B + 1 ≤ K := Nat.le_trans (Nat.succ_le_succ (Nat.le_trans h (Nat.le_trans h1 h2))) d
theorem zr11 {a b c : Nat} (h : c < a + 1) (h2 : a ≤ b) : (b : Int) - (c : Int) = ((b - c : Nat) : Int) := (Int.ofNat_sub (Nat.le_trans (Nat.le_of_lt_succ h) h2)).symm
theorem zr12 {a : Nat} : ((-1 : Int) + (a : Int)).toNat = a - 1 := by rw [Int.add_comm]; exact Int.toNat_sub a 1
theorem zr13 {a b : Nat} (e : a = b) : ((-1 : Int) + (a : Int)).toNat = b - 1 := e ▸ zr12
theorem zm1 {a b c : Nat} (h : b ≤ c) : min a b ≤ c := Nat.le_trans (Nat.min_le_right _ _) h
theorem zm2 {a b c d : Nat} (h : b ≤ c) : min a (b - d) ≤ c := Nat.le_trans (Nat.min_le_right _ _) (Nat.le_trans (Nat.sub_le _ _) h)
theorem zm3 {a b d : Nat} : min a (b - d) ≤ b := zm2 (Nat.le_refl _)
theorem zm4 {a b : Nat} : b - a ≤ b := Nat.sub_le _ _
theorem zu2 {a b n c : Nat} (e1 : a = n) (e2 : b = n) (h : c < a) : c < b := (e1.trans e2.symm) ▸ h
theorem zu3 {a n c : Nat} (e : a = n) (h : c < n) : c < a := e ▸ h
theorem zu4 {a n c : Nat} (e : a = n) (h : c < a) : c < n := e ▸ h
theorem zu6 {a n c : Nat} (e : a = n) (h : c < a) : c + 1 ≤ n := e ▸ h
theorem zu7 {x d m : Nat} (h : x ≤ 3 * d) (h2 : m ≤ 3) : x + m ≤ 3 * (d + 1) := Nat.add_le_add h h2
theorem zu8 {x d m : Nat} (h : x ≤ 3 * d) (h2 : m ≤ 3) : m + x ≤ 3 * (d + 1) := Nat.add_comm x m ▸ Nat.add_le_add h h2
theorem zu9 {x K d : Nat} (h : x ≤ 3 * d) (h2 : d ≤ 10) (dd : 30 ≤ K) : x ≤ K := Nat.le_trans h (Nat.le_trans (Nat.mul_le_mul_left 3 h2) dd)
theorem zu10 {x d m K : Nat} (h : x ≤ 3 * d) (h1 : d ≤ 10) (h2 : m ≤ 3) (dd : 33 ≤ K) : x + m ≤ K := Nat.le_trans (Nat.add_le_add (Nat.le_trans h (Nat.mul_le_mul_left 3 h1)) h2) dd
theorem zw1 {a : Nat} : a + 1 - 1 = a := rfl
theorem zw2 {a : Nat} (h : 0 < a) : a = 1 + (a - 1) := by rw [Nat.add_comm]; exact zp5 h
theorem zw3 {a b c : Nat} (h : a + (1 + c) ≤ b) : c < b - a := by
  rw [Nat.add_comm 1 c] at h
  exact Nat.lt_sub_of_add_lt (Nat.add_comm a c ▸ h)
theorem zw4 {a b c : Nat} (h : c < b - a) : a + (1 + c) ≤ b := by
  rw [Nat.add_comm 1 c]
  have h2 := Nat.add_lt_of_lt_sub h
  rw [Nat.add_comm] at h2
  exact h2
theorem zw5 {a b : Nat} {p : Prop} (h : a ≠ b) (h2 : 1 + a = 1 + b) : p := absurd (Nat.add_left_cancel h2) h
theorem zw6 {a : Nat} : 0 < 1 + a := Nat.lt_of_lt_of_le Nat.one_pos (Nat.le_add_right 1 a)
theorem zw6b {a b : Nat} (h : 0 < a) : 0 < b + a := Nat.lt_of_lt_of_le h (Nat.le_add_left a b)
theorem zw6c {a b : Nat} (h : 0 < a) : 1 ≤ a + b := Nat.le_trans h (Nat.le_add_right a b)
theorem zw7 {a b : Nat} (h : a < b) : a ≤ b - 1 := Nat.le_pred_of_lt h
theorem zw8 {a b : Nat} (h : 0 < b) (h2 : a ≤ b - 1) : a < b := Nat.lt_of_le_of_lt h2 (Nat.sub_lt h Nat.one_pos)
theorem zw8b {a b : Nat} (h : 0 < b) (h2 : a ≤ b - 1) : a + 1 ≤ b := zw8 h h2
theorem zw9 {a b c : Nat} (h : a ≤ b) (h2 : c ≤ a + 1) : c ≤ b + 1 := Nat.le_trans h2 (Nat.succ_le_succ h)
theorem zw9b {a b c e : Nat} (h : a ≤ b + e) (h2 : c ≤ a + 1) : c ≤ b + (e + 1) := zw9 h h2
theorem zw9c {a b c : Nat} (h : a ≤ b + c) : a ≤ b + (c + 1) := Nat.le_succ_of_le h
theorem zx1 {a c p E G : Nat} (h : G ≤ a) (h2 : E ≤ G + (p - c)) : E ≤ a + p := Nat.le_trans h2 (Nat.add_le_add h (Nat.sub_le _ _))
theorem zx2 {a b c : Nat} (h : a + (b + 1) ≤ c) : a + b < c := h
theorem zx3 {a b c e : Nat} {p : Prop} (h1 : a ≤ b + c) (h2 : c < e) (h3 : b + e ≤ a) : p := absurd (Nat.lt_of_lt_of_le (Nat.add_lt_add_left h2 b) (Nat.le_trans h3 h1)) (Nat.lt_irrefl _)
theorem zx4 {a b : Nat} {p : Prop} (h : a < b) (h2 : b < a + 1) : p := absurd h (Nat.not_lt_of_le (Nat.le_of_lt_succ h2))
theorem zx5 {a b : Nat} {p : Prop} (h : a ≤ b) (h2 : b < a + 0) : p := absurd h2 (Nat.not_lt_of_le h)
theorem zx6 {a b c : Nat} (h : c < a + (b + 1)) : c < a + 1 + b := by rw [za4]; exact h
theorem zx6b {a b c : Nat} (h : a + (b + 1) < c) : a + 1 + b < c := by rw [za4]; exact h
theorem zx7 {a b : Nat} (h : a ≤ b) (h2 : ¬ b = a) : a + 1 ≤ b := Nat.lt_of_le_of_ne h (fun e => h2 e.symm)
theorem zx7b {a b : Nat} (h : a ≤ b) (h2 : a ≠ b) : a + 1 ≤ b := Nat.lt_of_le_of_ne h h2
theorem zx7c {a b : Nat} (h : a < b + 1) (h2 : ¬ a = b) : a < b := Nat.lt_of_le_of_ne (Nat.le_of_lt_succ h) h2
theorem zx7d {a b : Nat} (h : a < b + 1) (h2 : ¬ b = a) : a < b := Nat.lt_of_le_of_ne (Nat.le_of_lt_succ h) (fun e => h2 e.symm)
theorem zx8 {a b c e : Nat} (h : a ≤ b) (h2 : b < e) (h3 : e ≤ c) : a < c := Nat.lt_of_le_of_lt h (Nat.lt_of_lt_of_le h2 h3)
theorem zx9 {a b : Nat} (h : a + (b + 1) < 900) : a + 1 < 1000 := Nat.lt_of_lt_of_le (Nat.lt_of_le_of_lt (Nat.add_le_add_left (Nat.le_add_left 1 b) a) h) (by decide)
theorem zx9b {a b : Nat} (h : a + (b + 1) < 900) : a < 1000 := Nat.lt_of_lt_of_le (Nat.lt_of_le_of_lt (Nat.le_add_right _ _) h) (by decide)
theorem zy0 {a : Nat} (h : 0 < a) : (0 : Int) < (a : Int) := Int.ofNat_lt.mpr h
theorem zy1 {a m : Nat} (h : a ≤ m) (d : m ≤ 1000000) : (a : Int) < 2 ^ 63 := Int.lt_of_le_of_lt (Int.ofNat_le.mpr (Nat.le_trans h d)) (by decide)
theorem zy3 {a b m : Nat} (h : a < b) (h2 : b ≤ m) (d : m ≤ 1000000) : (a : Int) < 2 ^ 63 := zy1 (Nat.le_trans (Nat.le_of_lt h) h2) d
theorem zy4 {a b : Nat} : -(a : Int) ≤ (b : Int) := Int.le_trans (Int.neg_nonpos_of_nonneg (Int.natCast_nonneg a)) (Int.natCast_nonneg b)
theorem zy4b {a : Nat} (h : 0 < a) : -(a : Int) ≤ -1 := Int.neg_le_neg (Int.ofNat_le.mpr h)
theorem zy5 {a : Int} (h : -1000000 ≤ a) : -2 ^ 63 ≤ a := Int.le_trans (by decide) h
theorem zy6 {a : Int} (h : a ≤ 1000000) : a < 2 ^ 63 := Int.lt_of_le_of_lt h (by decide)
theorem zy6b {a b : Int} (h : a < b) : b - a = ((b - a).toNat : Int) := (Int.toNat_of_nonneg (Int.sub_nonneg_of_le (Int.le_of_lt h))).symm
theorem zy7 {a b : Int} : a + 1 + b - 1 = a + b := by rw [Int.add_right_comm]; exact Int.add_sub_cancel _ _
theorem zy8 {a b : Int} : a + 1 + b = a + (b + 1) := by rw [Int.add_assoc, Int.add_comm 1]
theorem zy9 {B n c m : Nat} (h : B ≤ n - c) (h2 : n ≤ m) (d : m ≤ 999999) : (B : Int) + 1 ≤ 1000000 := zi5 (Nat.le_trans h (Nat.le_trans (Nat.sub_le _ _) h2)) d
theorem zy10 {B b n m : Nat} (h : B ≤ b) (h1 : b ≤ n) (h2 : n ≤ m) (d : m ≤ 999999) : (B : Int) + 1 ≤ 1000000 := zi5 (Nat.le_trans h (Nat.le_trans h1 h2)) d
theorem zy11 {a b : Nat} {p : Prop} (h2 : ¬ a < b) (h : (a : Int) < (b : Int)) : p := absurd (Int.ofNat_lt.mp h) h2
theorem zy11b {b : Nat} {p : Prop} (h2 : ¬ 0 < b) (h : (0 : Int) < (b : Int)) : p := absurd (Int.ofNat_lt.mp h) h2
theorem zy12 {a : Nat} {p : Prop} (h : 0 < a) (e : a = 0) : p := absurd e (Nat.ne_of_gt h)
theorem zy13 {x n : Int} (h : x < n) (d : n ≤ 1000001) : x ≤ 1000000 := Int.le_of_lt_add_one (Int.lt_of_lt_of_le h d)
theorem zy14 {x n : Int} (h : x ≤ n) (d : n ≤ 999999) : 1 + x ≤ 1000000 := Int.le_trans (Int.add_le_add_left h 1) (Int.add_le_add_left d 1)
theorem zy15 {x n : Int} (h : x < n) (d : n ≤ 999999) : 1 + x ≤ 1000000 := zy14 (Int.le_of_lt h) d
theorem zy16 {x : Int} (h : 0 ≤ x) : -1000000 ≤ 1 + x := Int.le_trans (by decide) (Int.add_le_add_left h 1)
theorem zv1 {α : Type} [LT α] {a b c : α} (e : a = b) (h : c < a) : c < b := e ▸ h
theorem zv2 {α : Type} [LT α] {a b c : α} (e : a = b) (h : c < b) : c < a := e ▸ h
theorem zv3 {α : Type} [LT α] {a b c : α} (e : a = b) (h : b < c) : a < c := e ▸ h
theorem zv3b {α : Type} [LT α] {a b c : α} (e : a = b) (h : a < c) : b < c := e ▸ h
theorem zv4 {α : Type} [LE α] {a b c : α} (e : b = a) (h : c ≤ a) : c ≤ b := e ▸ h
theorem zv4b {α : Type} [LE α] {a b c : α} (e : b = a) (h : a ≤ c) : b ≤ c := e ▸ h
theorem zv5 {a b : Int} {p : Prop} (e : a = b) (h : a < b) : p := absurd h (e ▸ Int.lt_irrefl a)
theorem zv5b {a b : Int} {p : Prop} (e : a = b) (h : b < a) : p := absurd h (e ▸ Int.lt_irrefl a)
theorem zv6 {a b : Int} {p : Prop} (h : a < b) (h2 : b < a) : p := absurd (Int.lt_trans h h2) (Int.lt_irrefl a)
theorem zv6b {a b : Int} {p : Prop} (h : a < b) (h2 : b ≤ a) : p := absurd (Int.lt_of_lt_of_le h h2) (Int.lt_irrefl a)
theorem zv7 {a b : Nat} {p : Prop} (e : a = b) (h : a < b) : p := absurd h (e ▸ Nat.lt_irrefl a)
theorem zv7b {a : Int} {p : Prop} (h : a < a) : p := absurd h (Int.lt_irrefl a)
theorem zv8 {n k : Nat} {x : Int} (h : x = k) (h2 : k < n) (h3 : n ≤ 1000) : x < 2 ^ 63 := h ▸ zy3 h2 h3 (by decide)
theorem zv9 {a : Nat} : ¬ (a : Int) < 0 := Int.not_lt.mpr (Int.natCast_nonneg a)
theorem zv9b {a : Nat} {p : Prop} (h : (a : Int) < 0) : p := absurd h zv9
theorem zv10 {a : Nat} (h : 0 ≤ (a : Int)) : (a : Int).toNat = a := rfl
theorem zv10b {a : Nat} : (a : Int).toNat = a := rfl
theorem zv11 {a b : Nat} : a - (b + 1) = a - b - 1 := Nat.sub_add_eq a b 1
end Mine

namespace Mine

noncomputable abbrev Fz := Addr → Option Obj
noncomputable abbrev Store := Addr → Option (List PyData)
noncomputable def Store.set (st : Store) (a : Addr) (xs : List PyData) : Store := fun b => if b = a then some xs else st b
noncomputable def Store.del (st : Store) (a : Addr) : Store := fun b => if b = a then none else st b
theorem Store.set_same (st : Store) (a : Addr) (xs : List PyData) : st.set a xs a = some xs := if_pos rfl
theorem Store.set_ne (st : Store) {a b : Addr} (xs : List PyData) (h : b ≠ a) : st.set a xs b = st b := if_neg h
theorem Store.del_set (st : Store) {a : Addr} (xs : List PyData) (h : st a = none) : (st.set a xs).del a = st := by
  funext b; unfold Store.del Store.set; by_cases hb : b = a
  · rw [if_pos hb, hb, h]
  · rw [if_neg hb, if_neg hb]
theorem Store.set_set (st : Store) (a : Addr) (xs ys : List PyData) : (st.set a xs).set a ys = st.set a ys := by
  funext b; unfold Store.set; by_cases hb : b = a <;> simp [hb]
theorem Store.set_comm (st : Store) {a b : Addr} (xs ys : List PyData) (h : a ≠ b) : (st.set a xs).set b ys = (st.set b ys).set a xs := by
  funext c; unfold Store.set; by_cases h1 : c = a
  · subst h1; simp [h]
  · simp [h1]
theorem Store.del_comm (st : Store) {a b : Addr} (xs : List PyData) (h : a ≠ b) : (st.set a xs).del b = (st.del b).set a xs := by
  funext c; unfold Store.set Store.del; by_cases h1 : c = a
  · subst h1; simp [h]
  · simp [h1]

noncomputable def Lo (vs : List Value) (n : Nat) : Obj := { cls := .type "list", dict := none, data := .seq vs.toArray n, slots := #[] }
noncomputable def To (vs : List Value) (n : Nat) : Obj := { cls := .type "tuple", dict := none, data := .seq vs.toArray n, slots := #[] }

mutual
inductive Rd (S : Fz) : Value → PyData → Prop
  | none : Rd S .none .none
  | bool (b : Bool) : Rd S (.bool b) (.bool b)
  | int (i : Int) (t : Tok) : Rd S (.int i t) (.int i)
  | str (x : Str) (t : Tok) : Rd S (.str x t) (.str x)
  | list {a : Addr} {vs : List Value} {n : Nat} {ds : List PyData} : S a = some (Lo vs n) → RdAll S vs ds → Rd S (.ref a) (.list ds)
  | tuple {a : Addr} {vs : List Value} {n : Nat} {ds : List PyData} : S a = some (To vs n) → RdAll S vs ds → Rd S (.ref a) (.tuple ds)
inductive RdAll (S : Fz) : List Value → List PyData → Prop
  | nil : RdAll S [] []
  | cons {v : Value} {vs : List Value} {d : PyData} {ds : List PyData} : Rd S v d → RdAll S vs ds → RdAll S (v :: vs) (d :: ds)
end

noncomputable def Sub (S S' : Fz) : Prop := ∀ a o, S a = some o → S' a = some o
theorem Sub.refl (S : Fz) : Sub S S := fun w0 w0 h => h
theorem Sub.trans {S S' S'' : Fz} (h : Sub S S') (k : Sub S' S'') : Sub S S'' := fun a o e => k a o (h a o e)

theorem Rd.mono {S S' : Fz} (hs : Sub S S') {v : Value} {d : PyData} (h : Rd S v d) : Rd S' v d :=
  Rd.rec (motive_1 := fun v d w0 => Rd S' v d) (motive_2 := fun vs ds w0 => RdAll S' vs ds) .none (fun b => .bool b) (fun i t => .int i t) (fun x t => .str x t)
    (fun h w0 r => .list (hs _ _ h) r) (fun h w0 r => .tuple (hs _ _ h) r) .nil (fun w0 w0 h r => .cons h r) h
theorem RdAll.ind {S : Fz} {P : List Value → List PyData → Prop} (h0 : P [] []) (h1 : ∀ (v : Value) (vs : List Value) (d : PyData) (ds : List PyData), Rd S v d → RdAll S vs ds → P vs ds → P (v :: vs) (d :: ds)) {vs : List Value} {ds : List PyData} (h : RdAll S vs ds) : P vs ds :=
  RdAll.rec (motive_1 := fun w0 w0 w0 => True) (motive_2 := fun vs ds w0 => P vs ds) trivial (fun w0 => trivial) (fun w0 w0 => trivial) (fun w0 w0 => trivial) (fun w0 w0 w0 => trivial) (fun w0 w0 w0 => trivial) h0 (fun h r w0 ih => h1 _ _ _ _ h r ih) h
theorem RdAll.mono {S S' : Fz} (hs : Sub S S') {vs : List Value} {ds : List PyData} (h : RdAll S vs ds) : RdAll S' vs ds :=
  RdAll.ind (P := fun vs ds => RdAll S' vs ds) .nil (fun w0 w0 w0 w0 h w0 r => .cons (h.mono hs) r) h
theorem RdAll.length {S : Fz} {vs : List Value} {ds : List PyData} (h : RdAll S vs ds) : vs.length = ds.length :=
  RdAll.ind (P := fun vs ds => vs.length = ds.length) rfl (fun w0 w0 w0 w0 w0 w0 r => congrArg Nat.succ r) h
theorem RdAll.append {S : Fz} {vs : List Value} {ds : List PyData} {ws : List Value} {es : List PyData} (h : RdAll S vs ds) (k : RdAll S ws es) : RdAll S (vs ++ ws) (ds ++ es) :=
  RdAll.ind (P := fun vs ds => RdAll S (vs ++ ws) (ds ++ es)) k (fun w0 w0 w0 w0 h w0 r => .cons h r) h
theorem RdAll.get {S : Fz} {vs : List Value} {ds : List PyData} {k : Nat} {d : PyData} (h : RdAll S vs ds) : ds[k]? = some d → ∃ v, vs[k]? = some v ∧ Rd S v d := by
  refine RdAll.ind (P := fun vs ds => ∀ k : Nat, ds[k]? = some d → ∃ v, vs[k]? = some v ∧ Rd S v d) (fun k h => by simp at h) (fun v vs x ds h w0 r k e => ?_) h k
  cases k with
  | zero => injection e with e; subst e; exact ⟨v, rfl, h⟩
  | succ k => exact r k e
theorem RdAll.take {S : Fz} {vs : List Value} {ds : List PyData} (k : Nat) (h : RdAll S vs ds) : RdAll S (vs.take k) (ds.take k) := by
  refine RdAll.ind (P := fun vs ds => ∀ k : Nat, RdAll S (vs.take k) (ds.take k)) (fun k => by rw [List.take_nil, List.take_nil]; exact .nil) (fun w0 w0 w0 w0 h w0 r k => ?_) h k
  cases k with
  | zero => exact .nil
  | succ k => exact .cons h (r k)
theorem RdAll.drop {S : Fz} {vs : List Value} {ds : List PyData} (k : Nat) (h : RdAll S vs ds) : RdAll S (vs.drop k) (ds.drop k) := by
  refine RdAll.ind (P := fun vs ds => ∀ k : Nat, RdAll S (vs.drop k) (ds.drop k)) (fun k => by rw [List.drop_nil, List.drop_nil]; exact .nil) (fun w0 w0 w0 w0 h h' r k => ?_) h k
  cases k with
  | zero => exact .cons h h'
  | succ k => exact r k
theorem RdAll.reverse {S : Fz} {vs : List Value} {ds : List PyData} (h : RdAll S vs ds) : RdAll S vs.reverse ds.reverse :=
  RdAll.ind (P := fun vs ds => RdAll S vs.reverse ds.reverse) .nil (fun w0 w0 w0 w0 h w0 r => by rw [List.reverse_cons, List.reverse_cons]; exact RdAll.append r (.cons h .nil)) h
theorem RdAll.set {S : Fz} {vs : List Value} {ds : List PyData} (k : Nat) {v : Value} {d : PyData} (h : RdAll S vs ds) (hv : Rd S v d) : RdAll S (vs.set k v) (ds.set k d) := by
  refine RdAll.ind (P := fun vs ds => ∀ k : Nat, RdAll S (vs.set k v) (ds.set k d)) (fun w0 => .nil) (fun w0 w0 w0 w0 h h' r k => ?_) h k
  cases k with
  | zero => exact .cons hv h'
  | succ k => exact .cons h (r k)

structure Pc where
  a : Int
  b : Int
  lv : List (List Int)

noncomputable def lvD (lv : List (List Int)) : PyData := .list (lv.map fun l => .list (l.map .int))

set_option genInjectivity false in
structure Gr where
  prog : Program
  w : World
  H0 : Heap
  K : Frag
  mg : Str → Option Value
  mb : Str → Option Value
  hg : H0.Ns mainGlobals mg
  hb : H0.Ns builtinsNs mb
  hnl : H0.NoLimit
  hbt : ∀ x, x ≠ Str.ofString "__name__" → mb x = bootBuiltins x
  kin : K.In H0
  C : Addr
  ini : Addr
  idl : Addr

inductive D where
  | dat (p : PyData)
  | cell (a : Addr)
  | pc (p : Pc)
  | pcs (l : List Pc)
  | dic (ks : List Int)
  | tdic (ps : List (Int × Int))

noncomputable abbrev Vars := Str → Option D
noncomputable def Vars.set (ρ : Vars) (x : Str) (d : D) : Vars := fun y => if y = x then some d else ρ y

noncomputable def NsO (od : Obj) (m : Str → Option Value) : Prop := ∃ es ep, od.data = .dict es ep ∧ StrKeys es ∧ ∀ name, nsFind es name = m name

inductive RdPc (g : Gr) (S : Fz) (v : Value) (p : Pc) : Prop
  | mk (x dx : Addr) (v1 v2 v3 : Value) (od : Obj) (m : Str → Option Value) (e : v = .ref x) (h1 : S x = some (instObj g.C dx)) (h2 : S dx = some od) (h0 : NsO od m)
    (h3 : m (Str.ofString "first") = some v1) (h4 : m (Str.ofString "behind") = some v2) (h5 : m (Str.ofString "levels") = some v3) (h6 : m (Str.ofString "is_idle") = none)
    (h7 : Rd S v1 (.int p.a)) (h8 : Rd S v2 (.int p.b)) (h9 : Rd S v3 (lvD p.lv))

inductive RdPcs (g : Gr) (S : Fz) : List Value → List Pc → Prop
  | nil : RdPcs g S [] []
  | cons {v : Value} {vs : List Value} {p : Pc} {ps : List Pc} : RdPc g S v p → RdPcs g S vs ps → RdPcs g S (v :: vs) (p :: ps)

inductive RepPcs (g : Gr) (S : Fz) (v : Value) (ps : List Pc) : Prop
  | mk (a : Addr) (vs : List Value) (n : Nat) (e : v = .ref a) (h1 : S a = some (Lo vs n)) (h2 : RdPcs g S vs ps)
inductive RepDic (g : Gr) (S : Fz) (v : Value) (ks : List Int) : Prop
  | mk (a : Addr) (o : Obj) (kvs : List (Int × Value)) (e : v = .ref a) (h1 : S a = some o) (h2 : Obj.IsDictOf (intKind g.prog g.w) o kvs) (h3 : kvs.map (·.1) = ks) (h4 : (a == sysModules) = false)
inductive RepTdic (g : Gr) (S : Fz) (v : Value) (ps : List (Int × Int)) : Prop
  | mk (a : Addr) (o : Obj) (es : Array DictEntry) (ep : Nat) (e : v = .ref a) (h1 : S a = some o) (h2 : o.ExactDict) (h3 : o.data = .dict es ep) (h4 : (a == sysModules) = false) (h5 : RdAll S (es.toList.map (·.key)) (ps.map fun p => .tuple [.int p.1, .int p.2]))
noncomputable def Rep (g : Gr) (S : Fz) (v : Value) : D → Prop
  | .dat p => Rd S v p
  | .cell a => v = .ref a
  | .pc p => RdPc g S v p
  | .pcs ps => RepPcs g S v ps
  | .dic ks => RepDic g S v ks
  | .tdic ps => RepTdic g S v ps

theorem RdPc.mono {g : Gr} {S S' : Fz} (hs : Sub S S') {v : Value} {p : Pc} (h : RdPc g S v p) : RdPc g S' v p := by
  obtain ⟨x, dx, v1, v2, v3, od, m, e, h1, h2, h0, h3, h4, h5, h6, h7, h8, h9⟩ := h
  exact ⟨x, dx, v1, v2, v3, od, m, e, hs _ _ h1, hs _ _ h2, h0, h3, h4, h5, h6, h7.mono hs, h8.mono hs, h9.mono hs⟩
theorem RdPcs.mono {g : Gr} {S S' : Fz} (hs : Sub S S') {vs : List Value} {ps : List Pc} (h : RdPcs g S vs ps) : RdPcs g S' vs ps := by
  induction h with
  | nil => exact .nil
  | cons h _ ih => exact .cons (h.mono hs) ih
theorem Rep.mono {g : Gr} {S S' : Fz} (hs : Sub S S') {v : Value} : ∀ {d : D}, Rep g S v d → Rep g S' v d
  | .dat _, h => Rd.mono hs h
  | .cell _, h => h
  | .pc _, h => RdPc.mono hs h
  | .pcs _, h => by obtain ⟨a, vs, n, e, h1, h2⟩ := h; exact ⟨a, vs, n, e, hs _ _ h1, h2.mono hs⟩
  | .dic _, h => by obtain ⟨a, o, kvs, e, h1, h2, h3, h4⟩ := h; exact ⟨a, o, kvs, e, hs _ _ h1, h2, h3, h4⟩
  | .tdic _, h => by obtain ⟨a, o, es, ep, e, h1, h2, h3, h4, h5⟩ := h; exact ⟨a, o, es, ep, e, hs _ _ h1, h2, h3, h4, h5.mono hs⟩

inductive CellM (S : Fz) (h : Heap) (a : Addr) (xs : List PyData) : Prop
  | mk (h0 : S a = none) (vs : List Value) (n : Nat) (h1 : h.get? a = some (Lo vs n)) (h2 : RdAll S vs xs)
theorem CellM.no {S : Fz} {h : Heap} {a : Addr} {xs : List PyData} (c : CellM S h a xs) : S a = none := by
  obtain ⟨h0⟩ := c; exact h0
structure Mod (g : Gr) (S : Fz) (st : Store) (h : Heap) : Prop where
  base : ∀ a o, g.H0.get? a = some o → S a = some o
  sub : ∀ a o, S a = some o → h.get? a = some o
  cell : ∀ a xs, st a = some xs → CellM S h a xs

noncomputable def Own (env : Env) (a : Addr) : Prop := a = env.locals ∨ ∃ n, env.cells.lookup n = some a

noncomputable def Reads1 (env : Env) (m cm : Str → Option Value) (x : Str) (v : Value) : Prop :=
  (env.kindOf x = some .local ∧ m x = some v) ∨ ((env.kindOf x = some .cell ∨ (env.kindOf x = some .free ∧ (x == ("__classdict__" : Str)) = false)) ∧ (∃ c, env.cells.lookup x = some c) ∧ cm x = some v)

inductive EnvX (g : Gr) (S : Fz) (env : Env) (ρ : Vars) (h : Heap) : Prop
  | mk (m cm : Str → Option Value) (hN : h.Ns env.locals m) (hc : ∀ n c, env.cells.lookup n = some c → h.IsCell c (cm n)) (hr : ∀ x d, ρ x = some d → ∃ v, Rep g S v d ∧ Reads1 env m cm x v)
structure EnvM (g : Gr) (S : Fz) (st : Store) (env : Env) (ρ : Vars) (h : Heap) : Prop where
  fn : env.scope.kind = .function
  glob : env.globals = mainGlobals
  blt : env.builtins = builtinsNs
  ex : EnvX g S env ρ h
  off : ∀ a, Own env a → S a = none ∧ st a = none ∧ (h.get? a).isSome
  apart : ∀ n n' c, env.cells.lookup n = some c → env.cells.lookup n' = some c → n = n'
  lc : ∀ n c, env.cells.lookup n = some c → c ≠ env.locals

structure Ext (g : Gr) (W : Addr → Prop) (S : Fz) (st : Store) (s : Shared) (S' : Fz) (st' : Store) (s' : Shared) : Prop where
  same : ∃ h tk, s' = { s with heap := h, toks := tk }
  ext : Sub S S'
  mod : Mod g S' st' s'.heap
  keep : ∀ a o, s.heap.get? a = some o → st a = none → ¬ W a → s'.heap.get? a = some o
  freshS : ∀ a, S' a ≠ none → S a = none → s.heap.get? a = none ∨ st a ≠ none
  freshC : ∀ a, st' a ≠ none → st a = none → s.heap.get? a = none
  alive : ∀ a, (s.heap.get? a).isSome → (s'.heap.get? a).isSome

theorem Ext.refl {g : Gr} {W : Addr → Prop} {S : Fz} {st : Store} {s : Shared} (M : Mod g S st s.heap) : Ext g W S st s S st s :=
  ⟨⟨_, _, rfl⟩, .refl _, M, fun w0 w0 h w0 w0 => h, fun w0 h k => absurd k h, fun w0 h k => absurd k h, fun w0 h => h⟩
theorem Ext.tok {g : Gr} {W : Addr → Prop} {S : Fz} {st : Store} {s : Shared} (M : Mod g S st s.heap) (t : Nat) : Ext g W S st s S st { s with toks := t } :=
  ⟨⟨_, _, rfl⟩, .refl _, M, fun w0 w0 h w0 w0 => h, fun w0 h k => absurd k h, fun w0 h k => absurd k h, fun w0 h => h⟩

theorem none_of_alive {h h' : Heap} (al : ∀ a, (h.get? a).isSome → (h'.get? a).isSome) {a : Addr} (e : h'.get? a = none) : h.get? a = none := by
  cases q : h.get? a with
  | none => rfl
  | some o => have := al a (by rw [q]; rfl); rw [e] at this; cases this

theorem Ext.trans {g : Gr} {W : Addr → Prop} {S S' S'' : Fz} {st st' st'' : Store} {s s' s'' : Shared} (h : Ext g W S st s S' st' s') (k : Ext g W S' st' s' S'' st'' s'') : Ext g W S st s S'' st'' s'' := by
  obtain ⟨h1, tk1, e1⟩ := h.same
  obtain ⟨h2, tk2, e2⟩ := k.same
  refine ⟨⟨h2, tk2, by rw [e2, e1]⟩, h.ext.trans k.ext, k.mod, fun a o e hs hw => ?_, fun a hS hn => ?_, fun a hS hn => ?_, fun a e => k.alive a (h.alive a e)⟩
  · refine k.keep a o (h.keep a o e hs hw) ?_ hw
    cases q : st' a with
    | none => rfl
    | some xs => have := h.freshC a (by rw [q]; simp) hs; rw [e] at this; cases this
  · cases q : S' a with
    | some o => exact h.freshS a (by rw [q]; simp) hn
    | none =>
      rcases k.freshS a hS q with x | x
      · exact .inl (none_of_alive h.alive x)
      · cases q2 : st a with
        | some xs => exact .inr (by simp)
        | none => exact .inl (h.freshC a x q2)
  · cases q : st' a with
    | some o => exact h.freshC a (by rw [q]; simp) hn
    | none => exact none_of_alive h.alive (k.freshC a hS q)

theorem Ext.wider {g : Gr} {W W' : Addr → Prop} {S S' : Fz} {st st' : Store} {s s' : Shared} (h : Ext g W S st s S' st' s') (hw : ∀ a, W a → W' a) : Ext g W' S st s S' st' s' :=
  ⟨h.same, h.ext, h.mod, fun a o e hs hn => h.keep a o e hs fun x => hn (hw a x), h.freshS, h.freshC, h.alive⟩

noncomputable abbrev NoW : Addr → Prop := fun w0 => False

theorem Ext.own {g : Gr} {W : Addr → Prop} {S S' : Fz} {st st' : Store} {s s' : Shared} (h : Ext g W S st s S' st' s') {a : Addr} (h1 : S a = none) (h2 : st a = none) (h3 : (s.heap.get? a).isSome) :
    S' a = none ∧ st' a = none := by
  constructor
  · cases q : S' a with
    | none => rfl
    | some o =>
      rcases h.freshS a (by rw [q]; simp) h1 with x | x
      · rw [x] at h3; cases h3
      · exact absurd h2 x
  · cases q : st' a with
    | none => rfl
    | some o => have x := h.freshC a (by rw [q]; simp) h2; rw [x] at h3; cases h3

theorem EnvM.ext {g : Gr} {W : Addr → Prop} {S S' : Fz} {st st' : Store} {s s' : Shared} {env : Env} {ρ : Vars} (E : EnvM g S st env ρ s.heap) (h : Ext g W S st s S' st' s') (hw : ∀ a, Own env a → ¬ W a) : EnvM g S' st' env ρ s'.heap := by
  obtain ⟨m, cm, h1, h2, h3⟩ := E.ex
  have kp : ∀ a o, Own env a → s.heap.get? a = some o → s'.heap.get? a = some o := fun a o ha e => h.keep a o e (E.off a ha).2.1 (hw a ha)
  refine ⟨E.fn, E.glob, E.blt, ⟨m, cm, ?_, fun n c e => ?_, fun x d e => ?_⟩, fun a ha => ?_, E.apart, E.lc⟩
  · obtain ⟨o, es, ep, ho, r⟩ := h1
    exact ⟨o, es, ep, kp _ _ (.inl rfl) ho, r⟩
  · obtain ⟨o, ho, r⟩ := h2 n c e
    exact ⟨o, kp _ _ (.inr ⟨n, e⟩) ho, r⟩
  · obtain ⟨v, r, q⟩ := h3 x d e
    exact ⟨v, r.mono h.ext, q⟩
  · obtain ⟨a1, a2, a3⟩ := E.off a ha
    obtain ⟨b1, b2⟩ := h.own a1 a2 a3
    exact ⟨b1, b2, h.alive a a3⟩

noncomputable def Lv (k : Nat) (A : Around) : Prop := A.handled = none ∧ A.depth + k < 900 ∧ A.units + 16 * k < 9000
theorem Lv.deeper {k : Nat} {A : Around} (h : Lv (k + 1) A) (env : Env) : Lv k (A.deeper env) := by
  obtain ⟨a, b, c⟩ := h
  exact ⟨a, by show A.depth + 1 + k < 900; (first | with_reducible exact Mine.zx6b (by assumption) | omega), by show A.units + 3 + 16 * k < 9000; omega⟩

noncomputable abbrev E0 : Value → Shared → Prop := fun w0 w0 => False

inductive EndE (g : Gr) (S : Fz) (st : Store) (s : Shared) (Q : D → Store → Prop) (v : Value) (s' : Shared) : Prop
  | mk (S' : Fz) (st' : Store) (d : D) (X : Ext g NoW S st s S' st' s') (r : Rep g S' v d) (q : Q d st')

noncomputable def EvJ (g : Gr) (k : Nat) (env : Env) (ρ : Vars) (e : Expr) (st : Store) (Q : D → Store → Prop) : Prop :=
  ∀ A S s, Lv k A → Mod g S st s.heap → EnvM g S st env ρ s.heap → wpAny (model g.prog g.w) A (eval e env) (EndE g S st s Q) E0 s

inductive EndB (g : Gr) (S : Fz) (st : Store) (s : Shared) (Q : Bool → Store → Prop) (b : Bool) (s' : Shared) : Prop
  | mk (S' : Fz) (st' : Store) (X : Ext g NoW S st s S' st' s') (q : Q b st')

noncomputable def TrJ (g : Gr) (k : Nat) (env : Env) (ρ : Vars) (e : Expr) (st : Store) (Q : Bool → Store → Prop) : Prop :=
  ∀ A S s, Lv k A → Mod g S st s.heap → EnvM g S st env ρ s.heap → wpAny (model g.prog g.w) A (isTrue e env (eval e env)) (EndB g S st s Q) E0 s

inductive Fl where
  | next | brk | cont
  | ret (d : D)
noncomputable def RepF (g : Gr) (S : Fz) : Flow → Fl → Prop
  | .next, .next => True
  | .brk, .brk => True
  | .cont, .cont => True
  | .ret v, .ret d => Rep g S v d
  | _, _ => False

inductive EndS (g : Gr) (S : Fz) (st : Store) (env : Env) (s : Shared) (Q : Fl → Vars → Store → Prop) (f : Flow) (s' : Shared) : Prop
  | mk (S' : Fz) (st' : Store) (ρ' : Vars) (fl : Fl) (X : Ext g (Own env) S st s S' st' s') (E : EnvM g S' st' env ρ' s'.heap) (r : RepF g S' f fl) (q : Q fl ρ' st')

noncomputable def SmJ (g : Gr) (k : Nat) (env : Env) (ρ : Vars) (c : Stmt) (st : Store) (Q : Fl → Vars → Store → Prop) : Prop :=
  ∀ A S s, Lv k A → Mod g S st s.heap → EnvM g S st env ρ s.heap → wpAny (model g.prog g.w) A (exec c env) (EndS g S st env s Q) E0 s
noncomputable def ExJ (g : Gr) (k : Nat) (env : Env) (ρ : Vars) (cs : List Stmt) (st : Store) (Q : Fl → Vars → Store → Prop) : Prop :=
  ∀ A S s, Lv k A → Mod g S st s.heap → EnvM g S st env ρ s.heap → wpAny (model g.prog g.w) A (execs cs env) (EndS g S st env s Q) E0 s

noncomputable def RepAll (g : Gr) (S : Fz) : List Value → List D → Prop
  | [], [] => True
  | v :: vs, d :: ds => Rep g S v d ∧ RepAll g S vs ds
  | _, _ => False
theorem repAll_cons {g : Gr} {S : Fz} {vs : List Value} {d : D} {ds : List D} (h : RepAll g S vs (d :: ds)) : ∃ v r, vs = v :: r ∧ Rep g S v d ∧ RepAll g S r ds := by
  cases vs with
  | nil => exact h.elim
  | cons v r => exact ⟨v, r, rfl, h⟩
theorem repAll_nil {g : Gr} {S : Fz} {vs : List Value} (h : RepAll g S vs []) : vs = [] := by
  cases vs with
  | nil => rfl
  | cons v r => exact h.elim
theorem repAll_one {g : Gr} {S : Fz} {d : D} {vs : List Value} (h : RepAll g S vs [d]) : ∃ v, vs = [v] ∧ Rep g S v d := by
  obtain ⟨v, r, rfl, h1, h2⟩ := repAll_cons h
  exact ⟨v, by rw [repAll_nil h2], h1⟩
theorem repAll_two {g : Gr} {S : Fz} {d1 d2 : D} {vs : List Value} (h : RepAll g S vs [d1, d2]) : ∃ v u, vs = [v, u] ∧ Rep g S v d1 ∧ Rep g S u d2 := by
  obtain ⟨v, r, rfl, h1, h2⟩ := repAll_cons h
  obtain ⟨u, rfl, h3⟩ := repAll_one h2
  exact ⟨v, u, rfl, h1, h3⟩
theorem RepAll.mono {g : Gr} {S S' : Fz} (hs : Sub S S') : ∀ {vs : List Value} {ds : List D}, RepAll g S vs ds → RepAll g S' vs ds
  | [], [], _ => trivial
  | _ :: _, _ :: _, h => ⟨h.1.mono hs, RepAll.mono hs h.2⟩
  | [], _ :: _, h => h.elim
  | _ :: _, [], h => h.elim

noncomputable def CaJ (g : Gr) (k : Nat) (f : Value) (args : List D) (st : Store) (Q : D → Store → Prop) : Prop :=
  ∀ A S s vs, Lv k A → Mod g S st s.heap → RepAll g S vs args → wpAny (model g.prog g.w) A (call f vs) (EndE g S st s Q) E0 s

section
variable {g : Gr} {k : Nat} {env : Env} {ρ : Vars} {st : Store}

theorem EndE.after {S S1 : Fz} {st1 : Store} {s s1 : Shared} {Q : D → Store → Prop} (h : Ext g NoW S st s S1 st1 s1) {v : Value} {s' : Shared} (k : EndE g S1 st1 s1 Q v s') : EndE g S st s Q v s' := by
  obtain ⟨S', st', d, a, b, c⟩ := k
  exact ⟨S', st', d, h.trans a, b, c⟩
theorem EndB.after {S S1 : Fz} {st1 : Store} {s s1 : Shared} {Q : Bool → Store → Prop} (h : Ext g NoW S st s S1 st1 s1) {v : Bool} {s' : Shared} (k : EndB g S1 st1 s1 Q v s') : EndB g S st s Q v s' := by
  obtain ⟨S', st', a, c⟩ := k
  exact ⟨S', st', h.trans a, c⟩
theorem EndS.after {S S1 : Fz} {st1 : Store} {s s1 : Shared} {Q : Fl → Vars → Store → Prop} (h : Ext g (Own env) S st s S1 st1 s1) {f : Flow} {s' : Shared} (k : EndS g S1 st1 env s1 Q f s') : EndS g S st env s Q f s' := by
  obtain ⟨S', st', ρ', fl, a, b, c, d⟩ := k
  exact ⟨S', st', ρ', fl, h.trans a, b, c, d⟩

theorem EvJ.mono {e : Expr} {Q Q' : D → Store → Prop} (h : EvJ g k env ρ e st Q) (hq : ∀ d st', Q d st' → Q' d st') : EvJ g k env ρ e st Q' := by
  intro A S s L M E
  refine wpAny_mono (h A S s L M E) (fun v s' x => ?_) fun w0 w0 x => x
  obtain ⟨S', st', d, a, b, c⟩ := x
  exact ⟨S', st', d, a, b, hq _ _ c⟩
theorem ExJ.mono {cs : List Stmt} {Q Q' : Fl → Vars → Store → Prop} (h : ExJ g k env ρ cs st Q) (hq : ∀ f ρ' st', Q f ρ' st' → Q' f ρ' st') : ExJ g k env ρ cs st Q' := by
  intro A S s L M E
  refine wpAny_mono (h A S s L M E) (fun v s' x => ?_) fun w0 w0 x => x
  obtain ⟨S', st', ρ', fl, a, b, c, d⟩ := x
  exact ⟨S', st', ρ', fl, a, b, c, hq _ _ _ d⟩

theorem freeze {S : Fz} {s : Shared} {a : Addr} {xs : List PyData} (M : Mod g S st s.heap) (h : st a = some xs) :
    ∃ S', Ext g NoW S st s S' (st.del a) s ∧ Rd S' (.ref a) (.list xs) := by
  obtain ⟨hn, vs, n, ho, hr⟩ := M.cell a xs h
  let S' : Fz := fun b => if b = a then some (Lo vs n) else S b
  have hsub : Sub S S' := fun b o e => by
    show (if b = a then _ else S b) = some o
    by_cases hb : b = a
    · subst hb; rw [hn] at e; cases e
    · rw [if_neg hb]; exact e
  have hS : S' a = some (Lo vs n) := if_pos rfl
  refine ⟨S', ⟨⟨_, _, rfl⟩, hsub, ⟨fun b o e => hsub _ _ (M.base b o e), fun b o e => ?_, fun b ys e => ?_⟩, fun w0 w0 e w0 w0 => e, fun b hb hn' => ?_, fun b hb hn' => ?_, fun w0 e => e⟩, .list hS (hr.mono hsub)⟩
  · by_cases hb : b = a
    · subst hb; rw [hS] at e; cases e; exact ho
    · have e' : (if b = a then some (Lo vs n) else S b) = some o := e
      rw [if_neg hb] at e'; exact M.sub b o e'
  · by_cases hb : b = a
    · subst hb; simp [Store.del] at e
    · have e' : st b = some ys := by simpa [Store.del, hb] using e
      obtain ⟨k1, vs', n', k2, k3⟩ := M.cell b ys e'
      exact ⟨by show (if b = a then _ else S b) = none; rw [if_neg hb]; exact k1, vs', n', k2, k3.mono hsub⟩
  · by_cases hb' : b = a
    · subst hb'; exact .inr (by rw [h]; simp)
    · have e' : (if b = a then some (Lo vs n) else S b) ≠ none := hb
      rw [if_neg hb'] at e'; exact absurd hn' e'
  · exact absurd (by unfold Store.del; split <;> first | rfl | exact hn') hb

inductive LstC (st : Store) (d : D) (xs : List PyData) : Prop
  | mk (a : Addr) (h1 : d = .cell a) (h2 : st a = some xs)
inductive LstOf (st : Store) (d : D) (xs : List PyData) : Prop
  | inl (h : d = .dat (.list xs))
  | inr (h : LstC st d xs)
theorem LstOf.dat {xs : List PyData} : LstOf st (.dat (.list xs)) xs := .inl rfl
theorem LstOf.at {S : Fz} {h : Heap} {v : Value} {d : D} {xs : List PyData} (M : Mod g S st h) (r : Rep g S v d) (l : LstOf st d xs) :
    ∃ a vs n, v = .ref a ∧ h.get? a = some (Lo vs n) ∧ RdAll S vs xs := by
  rcases l with rfl | ⟨a, rfl, e⟩
  · cases r with
    | list h1 h2 => exact ⟨_, _, _, rfl, M.sub _ _ h1, h2⟩
  · obtain ⟨_, vs, n, h1, h2⟩ := M.cell a xs e
    exact ⟨a, vs, n, r, h1, h2⟩

theorem ca_freeze {f : Value} {args : List D} {Q : D → Store → Prop} (h : CaJ g k f args st fun d st' => ∃ a xs, d = .cell a ∧ st' a = some xs ∧ Q (.dat (.list xs)) (st'.del a)) : CaJ g k f args st Q := by
  intro A S s vs L M E
  refine wpAny_mono (h A S s vs L M E) (fun v s' x => ?_) fun w0 w0 x => x
  obtain ⟨S', st', d, a, b, c, xs, rfl, e, q⟩ := x
  obtain ⟨S'', k1, k2⟩ := freeze a.mod e
  have hv : v = .ref c := b
  exact ⟨S'', _, _, a.trans k1, hv ▸ k2, q⟩
end

theorem ext_push {g : Gr} {S : Fz} {st : Store} {s : Shared} (M : Mod g S st s.heap) (o : Obj) (hf : o.isFreed = false) :
    ∃ S', Ext g NoW S st s S' st { s with heap := s.heap.push o } ∧ S' s.heap.objs.size = some o := by
  let a := s.heap.objs.size
  have hno : s.heap.get? a = none := Heap.get?_none_of_le (Nat.le_refl _)
  have hSn : S a = none := by cases q : S a with | none => rfl | some o' => have := M.sub a o' q; rw [hno] at this; cases this
  let S' : Fz := fun b => if b = a then some o else S b
  have hsub : Sub S S' := fun b o' e => by
    show (if b = a then _ else S b) = some o'
    by_cases hb : b = a
    · subst hb; rw [hSn] at e; cases e
    · rw [if_neg hb]; exact e
  refine ⟨S', ⟨⟨_, _, rfl⟩, hsub, ⟨fun b o' e => hsub _ _ (M.base b o' e), fun b o' e => ?_, fun b ys e => ?_⟩, fun w0 w0 e w0 w0 => Heap.get?_push_of_some _ e, fun b hb hn' => ?_, fun b hb hn' => absurd hn' hb, fun b e => ?_⟩, if_pos rfl⟩
  · by_cases hb : b = a
    · subst hb
      have e' : some o = some o' := (if_pos rfl : S' a = some o) ▸ e
      cases e'; exact Heap.get?_push_size _ hf
    · have e' : (if b = a then some o else S b) = some o' := e
      rw [if_neg hb] at e'; exact Heap.get?_push_of_some _ (M.sub b o' e')
  · obtain ⟨k1, vs', n', k2, k3⟩ := M.cell b ys e
    have hb : b ≠ a := by rintro rfl; rw [hno] at k2; cases k2
    exact ⟨by show (if b = a then _ else S b) = none; rw [if_neg hb]; exact k1, vs', n', Heap.get?_push_of_some _ k2, k3.mono hsub⟩
  · by_cases hb' : b = a
    · subst hb'; exact .inl hno
    · have e' : (if b = a then some o else S b) ≠ none := hb
      rw [if_neg hb'] at e'; exact absurd hn' e'
  · obtain ⟨o', e'⟩ := Option.isSome_iff_exists.mp e
    show ((s.heap.push o).get? b).isSome
    rw [Heap.get?_push_of_some _ e']; rfl

theorem ext_pushC {g : Gr} {S : Fz} {st : Store} {s : Shared} (M : Mod g S st s.heap) {vs : List Value} {xs : List PyData} {n : Nat} (r : RdAll S vs xs) :
    Ext g NoW S st s S (st.set s.heap.objs.size xs) { s with heap := s.heap.push (Lo vs n) } ∧ st s.heap.objs.size = none := by
  let a := s.heap.objs.size
  have hno : s.heap.get? a = none := Heap.get?_none_of_le (Nat.le_refl _)
  have hSn : S a = none := by cases q : S a with | none => rfl | some o' => have := M.sub a o' q; rw [hno] at this; cases this
  have hst : st a = none := by cases q : st a with | none => rfl | some ys => obtain ⟨_, _, _, k2, _⟩ := M.cell a ys q; rw [hno] at k2; cases k2
  refine ⟨⟨⟨_, _, rfl⟩, .refl _, ⟨M.base, fun b o' e => Heap.get?_push_of_some _ (M.sub b o' e), fun b ys e => ?_⟩, fun w0 w0 e w0 w0 => Heap.get?_push_of_some _ e, fun b hb hn' => absurd hn' hb, fun b hb hn' => ?_, fun b e => ?_⟩, hst⟩
  · by_cases hb : b = a
    · subst hb
      have e' : xs = ys := by simpa [Store.set, a] using e
      subst e'
      exact ⟨hSn, vs, n, Heap.get?_push_size _ rfl, r⟩
    · have e' : st b = some ys := by simpa [Store.set, a, hb] using e
      obtain ⟨k1, vs', n', k2, k3⟩ := M.cell b ys e'
      exact ⟨k1, vs', n', Heap.get?_push_of_some _ k2, k3⟩
  · by_cases hb' : b = a
    · subst hb'; exact hno
    · have e' : st.set a xs b ≠ none := hb
      rw [Store.set_ne _ _ hb'] at e'; exact absurd hn' e'
  · obtain ⟨o', e'⟩ := Option.isSome_iff_exists.mp e
    show ((s.heap.push _).get? b).isSome
    rw [Heap.get?_push_of_some _ e']; rfl

theorem ext_turn {g : Gr} {S : Fz} {st : Store} {s : Shared} (M : Mod g S st s.heap) {a : Addr} {xs ys : List PyData} {ws : List Value} {n : Nat} {h' : Heap} {tk : Nat} (ha : st a = some xs)
    (hh : h'.get? a = some (Lo ws n)) (ho : ∀ b o, b ≠ a → s.heap.get? b = some o → h'.get? b = some o) (r : RdAll S ws ys) :
    Ext g NoW S st s S (st.set a ys) { s with heap := h', toks := tk } := by
  obtain ⟨hSn, vs, n0, k0, _⟩ := M.cell a xs ha
  refine ⟨⟨_, _, rfl⟩, .refl _, ⟨M.base, fun b o' e => ?_, fun b zs e => ?_⟩, fun b o e hs w0 => ?_, fun b hb hn' => absurd hn' hb, fun b hb hn' => ?_, fun b e => ?_⟩
  · exact ho b o' (by rintro rfl; rw [hSn] at e; cases e) (M.sub b o' e)
  · by_cases hb : b = a
    · subst hb
      have e' : ys = zs := by simpa [Store.set] using e
      subst e'
      exact ⟨hSn, ws, n, hh, r⟩
    · have e' : st b = some zs := by simpa [Store.set, hb] using e
      obtain ⟨k1, vs', n', k2, k3⟩ := M.cell b zs e'
      exact ⟨k1, vs', n', ho b _ hb k2, k3⟩
  · exact ho b o (by rintro rfl; rw [ha] at hs; cases hs) e
  · by_cases hb' : b = a
    · subst hb'; rw [ha] at hn'; cases hn'
    · rw [Store.set_ne _ _ hb'] at hb; exact absurd hn' hb
  · obtain ⟨o', e'⟩ := Option.isSome_iff_exists.mp e
    by_cases hb : b = a
    · subst hb; show (h'.get? b).isSome; rw [hh]; rfl
    · show (h'.get? b).isSome; rw [ho b o' hb e']; rfl
end Mine

namespace Mine
section
variable {g : Gr} {k : Nat} {env : Env} {ρ : Vars} {st : Store}

noncomputable def OpJ (g : Gr) (k : Nat) (f : Value → Value → Sem Value) (d1 d2 : D) (st : Store) (Q : D → Store → Prop) : Prop :=
  ∀ A S s v1 v2, Lv k A → Mod g S st s.heap → Rep g S v1 d1 → Rep g S v2 d2 → wpAny (model g.prog g.w) A (f v1 v2) (EndE g S st s Q) E0 s
inductive EndC (g : Gr) (S : Fz) (st : Store) (s : Shared) (Q : Bool → Store → Prop) (v : Value) (s' : Shared) : Prop
  | mk (b : Bool) (h : v = .bool b) (e : EndB g S st s Q b s')
noncomputable def CmJ (g : Gr) (k : Nat) (op : CmpOp) (d1 d2 : D) (st : Store) (Q : Bool → Store → Prop) : Prop :=
  ∀ A S s v1 v2, Lv k A → Mod g S st s.heap → Rep g S v1 d1 → Rep g S v2 d2 → wpAny (model g.prog g.w) A (compareOp op v1 v2) (EndC g S st s Q) E0 s

noncomputable abbrev PE := D → Store → Prop
noncomputable abbrev PB := Bool → Store → Prop
noncomputable abbrev PS := Fl → Vars → Store → Prop
noncomputable abbrev kBin2 (g : Gr) (k : Nat) (op : Operator) (d1 : D) (Q : PE) : PE := fun d2 st2 => OpJ g k (binaryOp op) d1 d2 st2 Q
noncomputable abbrev kBin (g : Gr) (k : Nat) (env : Env) (ρ : Vars) (r : Expr) (op : Operator) (Q : PE) : PE := fun d1 st1 => EvJ g k env ρ r st1 (kBin2 g k op d1 Q)
noncomputable abbrev kB (Q : PE) : PB := fun b st3 => Q (.dat (.bool b)) st3
noncomputable abbrev kCmp2 (g : Gr) (k : Nat) (op : CmpOp) (d1 : D) (Q : PB) : PE := fun d2 st2 => CmJ g k op d1 d2 st2 Q
noncomputable abbrev kCmp (g : Gr) (k : Nat) (env : Env) (ρ : Vars) (r : Expr) (op : CmpOp) (Q : PB) : PE := fun d1 st1 => EvJ g k env ρ r st1 (kCmp2 g k op d1 Q)
noncomputable abbrev kNot (Q : PB) : PB := fun b st1 => Q (!b) st1
noncomputable abbrev kAnd (g : Gr) (k : Nat) (env : Env) (ρ : Vars) (rest : List Expr) (pos : Pos) (Q : PB) : PB := fun b st1 => if b then TrJ g k env ρ (.BoolOp .And rest pos) st1 Q else Q false st1
noncomputable abbrev kOr (g : Gr) (k : Nat) (env : Env) (ρ : Vars) (rest : List Expr) (pos : Pos) (Q : PB) : PB := fun b st1 => if b then Q true st1 else TrJ g k env ρ (.BoolOp .Or rest pos) st1 Q
inductive kTV (Q : PB) (d : D) (st1 : Store) : Prop
  | mk (b : Bool) (h : d = .dat (.bool b)) (q : Q b st1)
noncomputable abbrev kIfE (g : Gr) (k : Nat) (env : Env) (ρ : Vars) (b o : Expr) (Q : PE) : PB := fun c st1 => if c then EvJ g k env ρ b st1 Q else EvJ g k env ρ o st1 Q
noncomputable abbrev kNotE (Q : PE) : PE := fun d st1 => ∃ b, d = .dat (.bool b) ∧ Q (.dat (.bool (!b))) st1
noncomputable abbrev kAndE (g : Gr) (k : Nat) (env : Env) (ρ : Vars) (e2 : Expr) (rest : List Expr) (pos : Pos) (Q : PE) : PE := fun d st1 => ∃ b, d = .dat (.bool b) ∧ if b then EvJ g k env ρ (.BoolOp .And (e2 :: rest) pos) st1 Q else Q (.dat (.bool false)) st1

theorem ev_name {x : Str} {pos : Pos} {d : D} {Q : D → Store → Prop} (h : ρ x = some d) (q : Q d st) (hd : (x == ("__debug__" : Str)) = false := by decide) : EvJ g k env ρ (.Name x pos) st Q := by
  intro A S s L M E
  obtain ⟨m, cm, h1, h2, h3⟩ := E.ex
  obtain ⟨v, r, c⟩ := h3 x d h
  have fin : EndE g S st s Q v s := ⟨S, st, d, .refl M, r, q⟩
  refine wpAny_Name ?_ hd
  rcases c with ⟨a, b⟩ | ⟨a, ⟨c, hc⟩, b⟩
  · exact wpAny_loadName_local E.fn a h1 b fin
  · have hv : s.heap.IsCell c (some v) := b ▸ h2 x c hc
    rcases a with a | ⟨a, hcd⟩
    · exact wpAny_loadName_cell E.fn a hc hv fin
    · exact wpAny_loadName_free E.fn a hc hv fin hcd
theorem ev_int {i : Int} {kd : Nat} {pos : Pos} {Q : D → Store → Prop} (q : Q (.dat (.int i)) st) : EvJ g k env ρ (.Constant (.int i) kd pos) st Q := by
  intro A S s L M E
  exact wpAny_Constant_int ⟨S, st, .dat (.int i), .tok M _, Rd.int i _, q⟩
theorem ev_bool {b : Bool} {kd : Nat} {pos : Pos} {Q : D → Store → Prop} (q : Q (.dat (.bool b)) st) : EvJ g k env ρ (.Constant (.bool b) kd pos) st Q := by
  intro A S s L M E
  exact Constant_bool ⟨S, st, .dat (.bool b), .refl M, Rd.bool b, q⟩
theorem ev_none {kd : Nat} {pos : Pos} {Q : D → Store → Prop} (q : Q (.dat .none) st) : EvJ g k env ρ (.Constant .none kd pos) st Q := by
  intro A S s L M E
  exact Constant_none ⟨S, st, .dat .none, .refl M, Rd.none, q⟩

theorem no_nw {env : Env} : ∀ a, Own env a → ¬ NoW a := fun w0 w0 h => h

theorem ev_bin {l r : Expr} {op : Operator} {pos : Pos} {Q : D → Store → Prop} (h : EvJ g k env ρ l st (kBin g k env ρ r op Q)) :
    EvJ g k env ρ (.BinOp l op r pos) st Q := by
  intro A S s L M E
  refine wpAny_BinOp (wpAny_mono (h A S s L M E) (fun a s1 x => ?_) fun w0 w0 x => x)
  obtain ⟨S1, st1, d1, X1, r1, q1⟩ := x
  refine wpAny_mono (q1 A S1 s1 L X1.mod (E.ext X1 no_nw)) (fun b s2 x => ?_) fun w0 w0 x => x
  obtain ⟨S2, st2, d2, X2, r2, q2⟩ := x
  exact wpAny_mono (q2 A S2 s2 a b L X2.mod (r1.mono X2.ext) r2) (fun v s' x => x.after (X1.trans X2)) fun w0 w0 x => x

theorem ev_cmp {l r : Expr} {op : CmpOp} {pos : Pos} {Q : D → Store → Prop} (h : EvJ g k env ρ l st (kCmp g k env ρ r op (kB Q)))
    (hm : behindInMarks op r = false := by with_unfolding_all rfl) : EvJ g k env ρ (.Compare l [op] [r] pos) st Q := by
  intro A S s L M E
  refine wpAny_Compare1 (wpAny_mono (h A S s L M E) (fun a s1 x => ?_) fun w0 w0 x => x) hm
  obtain ⟨S1, st1, d1, X1, r1, q1⟩ := x
  refine wpAny_mono (q1 A S1 s1 L X1.mod (E.ext X1 no_nw)) (fun b s2 x => ?_) fun w0 w0 x => x
  obtain ⟨S2, st2, d2, X2, r2, q2⟩ := x
  refine wpAny_mono (q2 A S2 s2 a b L X2.mod (r1.mono X2.ext) r2) (fun v s' x => ?_) fun w0 w0 x => x
  obtain ⟨c, rfl, S3, st3, X3, q3⟩ := x
  exact ⟨S3, st3, .dat (.bool c), (X1.trans X2).trans X3, Rd.bool c, q3⟩

theorem tr_cmp {l r : Expr} {op : CmpOp} {pos : Pos} {Q : Bool → Store → Prop} (h : EvJ g k env ρ l st (kCmp g k env ρ r op Q))
    (hm : behindInMarks op r = false := by with_unfolding_all rfl) : TrJ g k env ρ (.Compare l [op] [r] pos) st Q := by
  intro A S s L M E
  refine wpAny_isTrue_Compare1 (wpAny_mono (h A S s L M E) (fun a s1 x => ?_) fun w0 w0 x => x) hm
  obtain ⟨S1, st1, d1, X1, r1, q1⟩ := x
  refine wpAny_mono (q1 A S1 s1 L X1.mod (E.ext X1 no_nw)) (fun b s2 x => ?_) fun w0 w0 x => x
  obtain ⟨S2, st2, d2, X2, r2, q2⟩ := x
  refine wpAny_mono (q2 A S2 s2 a b L X2.mod (r1.mono X2.ext) r2) (fun v s' x => ?_) fun w0 w0 x => x
  obtain ⟨c, rfl, S3, st3, X3, q3⟩ := x
  exact wpAny_truthy_bool ⟨S3, st3, (X1.trans X2).trans X3, q3⟩

theorem tr_not {x : Expr} {pos : Pos} {Q : Bool → Store → Prop} (h : TrJ g k env ρ x st (kNot Q)) : TrJ g k env ρ (.UnaryOp .Not x pos) st Q := by
  intro A S s L M E
  refine isTrue_not (wpAny_mono (h A S s L M E) (fun c s1 x => ?_) fun w0 w0 x => x)
  obtain ⟨S1, st1, X1, q1⟩ := x
  exact ⟨S1, st1, X1, q1⟩
theorem tr_and_nil {pos : Pos} {Q : Bool → Store → Prop} (h : Q true st) : TrJ g k env ρ (.BoolOp .And [] pos) st Q := by
  intro A S s L M E
  exact isTrue_and_nil ⟨S, st, .refl M, h⟩
theorem tr_or_nil {pos : Pos} {Q : Bool → Store → Prop} (h : Q false st) : TrJ g k env ρ (.BoolOp .Or [] pos) st Q := by
  intro A S s L M E
  exact isTrue_or_nil ⟨S, st, .refl M, h⟩
theorem tr_and {x : Expr} {rest : List Expr} {pos : Pos} {Q : Bool → Store → Prop} (h : TrJ g k env ρ x st (kAnd g k env ρ rest pos Q)) :
    TrJ g k env ρ (.BoolOp .And (x :: rest) pos) st Q := by
  intro A S s L M E
  refine isTrue_and (wpAny_mono (h A S s L M E) (fun c s1 x => ?_) fun w0 w0 x => x)
  obtain ⟨S1, st1, X1, q1⟩ := x
  cases c with
  | false => exact ⟨S1, st1, X1, q1⟩
  | true => exact wpAny_mono (q1 A S1 s1 L X1.mod (E.ext X1 no_nw)) (fun v s' x => x.after X1) fun w0 w0 x => x
theorem tr_or {x : Expr} {rest : List Expr} {pos : Pos} {Q : Bool → Store → Prop} (h : TrJ g k env ρ x st (kOr g k env ρ rest pos Q)) :
    TrJ g k env ρ (.BoolOp .Or (x :: rest) pos) st Q := by
  intro A S s L M E
  refine isTrue_or (wpAny_mono (h A S s L M E) (fun c s1 x => ?_) fun w0 w0 x => x)
  obtain ⟨S1, st1, X1, q1⟩ := x
  cases c with
  | true => exact ⟨S1, st1, X1, q1⟩
  | false => exact wpAny_mono (q1 A S1 s1 L X1.mod (E.ext X1 no_nw)) (fun v s' x => x.after X1) fun w0 w0 x => x
theorem tr_val {e : Expr} {Q : Bool → Store → Prop} (h : EvJ g k env ρ e st (kTV Q))
    (he : ∀ whole, isTrue e env whole = (do let v ← whole; standAt e.pos; holding [v] (truthy v)) := by intro _; rfl) : TrJ g k env ρ e st Q := by
  intro A S s L M E
  refine isTrue_plain (wpAny_mono (h A S s L M E) (fun v s1 x => ?_) fun w0 w0 x => x) (he _)
  obtain ⟨S1, st1, d, X1, r, b, rfl, q⟩ := x
  cases r
  exact wpAny_truthy_bool ⟨S1, st1, X1, q⟩

theorem ev_ifexp {t b o : Expr} {pos : Pos} {Q : D → Store → Prop} (h : TrJ g k env ρ t st (kIfE g k env ρ b o Q)) : EvJ g k env ρ (.IfExp t b o pos) st Q := by
  intro A S s L M E
  refine IfExp_ (wpAny_mono (h A S s L M E) (fun c s1 x => ?_) fun w0 w0 x => x)
  obtain ⟨S1, st1, X1, q1⟩ := x
  cases c with
  | true => exact wpAny_mono (q1 A S1 s1 L X1.mod (E.ext X1 no_nw)) (fun v s' x => x.after X1) fun w0 w0 x => x
  | false => exact wpAny_mono (q1 A S1 s1 L X1.mod (E.ext X1 no_nw)) (fun v s' x => x.after X1) fun w0 w0 x => x

theorem ev_not {x : Expr} {pos : Pos} {Q : D → Store → Prop} (h : EvJ g k env ρ x st (kNotE Q)) : EvJ g k env ρ (.UnaryOp .Not x pos) st Q := by
  intro A S s L M E
  refine UnaryOp_ (wpAny_mono (h A S s L M E) (fun v s1 x => ?_) fun w0 w0 x => x)
  obtain ⟨S1, st1, d, X1, r, b, rfl, q⟩ := x
  cases r
  exact not_of (wpAny_truthy_bool ⟨S1, st1, .dat (.bool (!b)), X1, Rd.bool _, q⟩)
theorem ev_and1 {e : Expr} {pos : Pos} {Q : D → Store → Prop} (h : EvJ g k env ρ e st Q) : EvJ g k env ρ (.BoolOp .And [e] pos) st Q := h
theorem ev_and {e1 e2 : Expr} {rest : List Expr} {pos : Pos} {Q : D → Store → Prop}
    (h : EvJ g k env ρ e1 st (kAndE g k env ρ e2 rest pos Q)) : EvJ g k env ρ (.BoolOp .And (e1 :: e2 :: rest) pos) st Q := by
  intro A S s L M E
  refine BoolOp_and (wpAny_mono (h A S s L M E) (fun v s1 x => ?_) fun w0 w0 x => x)
  obtain ⟨S1, st1, d, X1, r, b, rfl, q⟩ := x
  cases r
  refine wpAny_truthy_bool ?_
  cases b with
  | true => exact wpAny_mono (q A S1 s1 L X1.mod (E.ext X1 no_nw)) (fun v s' x => x.after X1) fun w0 w0 x => x
  | false => exact ⟨S1, st1, .dat (.bool false), X1, Rd.bool false, q⟩

theorem op_add_int {a b : Int} {Q : D → Store → Prop} (q : Q (.dat (.int (a + b))) st) : OpJ g k (binaryOp .Add) (.dat (.int a)) (.dat (.int b)) st Q := by
  intro A S s v1 v2 L M r1 r2
  cases r1; cases r2
  exact add_int ⟨S, st, .dat (.int _), .tok M _, Rd.int _ _, q⟩
theorem op_sub_int {a b : Int} {Q : D → Store → Prop} (q : Q (.dat (.int (a - b))) st) : OpJ g k (binaryOp .Sub) (.dat (.int a)) (.dat (.int b)) st Q := by
  intro A S s v1 v2 L M r1 r2
  cases r1; cases r2
  exact sub_int ⟨S, st, .dat (.int _), .tok M _, Rd.int _ _, q⟩
theorem op_mul_int {a b : Int} {Q : D → Store → Prop} (q : Q (.dat (.int (a * b))) st) (hb : IntMulOk a b) : OpJ g k (binaryOp .Mult) (.dat (.int a)) (.dat (.int b)) st Q := by
  intro A S s v1 v2 L M r1 r2
  cases r1; cases r2
  exact mul_int ⟨S, st, .dat (.int _), .tok M _, Rd.int _ _, q⟩ hb
theorem op_mod_int {a b : Int} {Q : D → Store → Prop} (hb : b ≠ 0) (q : Q (.dat (.int (a.fmod b))) st) : OpJ g k (binaryOp .Mod) (.dat (.int a)) (.dat (.int b)) st Q := by
  intro A S s v1 v2 L M r1 r2
  cases r1; cases r2
  exact mod_int' hb ⟨S, st, .dat (.int _), .tok M _, Rd.int _ _, q⟩

theorem cm_lt {a b : Int} {Q : Bool → Store → Prop} (q : Q (decide (a < b)) st) : CmJ g k .Lt (.dat (.int a)) (.dat (.int b)) st Q := by
  intro A S s v1 v2 L M r1 r2
  cases r1; cases r2
  exact lt_int ⟨_, rfl, S, st, .refl M, q⟩
theorem cm_le {a b : Int} {Q : Bool → Store → Prop} (q : Q (decide (a ≤ b)) st) : CmJ g k .LtE (.dat (.int a)) (.dat (.int b)) st Q := by
  intro A S s v1 v2 L M r1 r2
  cases r1; cases r2
  exact le_int ⟨_, rfl, S, st, .refl M, q⟩
theorem cm_gt {a b : Int} {Q : Bool → Store → Prop} (q : Q (decide (b < a)) st) : CmJ g k .Gt (.dat (.int a)) (.dat (.int b)) st Q := by
  intro A S s v1 v2 L M r1 r2
  cases r1; cases r2
  exact gt_int ⟨_, rfl, S, st, .refl M, q⟩
theorem cm_ge {a b : Int} {Q : Bool → Store → Prop} (q : Q (decide (b ≤ a)) st) : CmJ g k .GtE (.dat (.int a)) (.dat (.int b)) st Q := by
  intro A S s v1 v2 L M r1 r2
  cases r1; cases r2
  exact ge_int ⟨_, rfl, S, st, .refl M, q⟩
theorem cm_eq_int {a b : Int} {Q : Bool → Store → Prop} (q : Q (a == b) st) : CmJ g k .Eq (.dat (.int a)) (.dat (.int b)) st Q := by
  intro A S s v1 v2 L M r1 r2
  cases r1; cases r2
  exact eq_int ⟨_, rfl, S, st, .refl M, q⟩

noncomputable def isNoneD : D → Bool
  | .dat .none => true
  | _ => false
theorem rep_isNone {S : Fz} {v : Value} {d : D} (h : Rep g S v d) : (v == Value.none) = isNoneD d := by
  cases d with
  | dat p => cases h <;> rfl
  | cell a => have e : v = .ref a := h; subst e; rfl
  | pc p => obtain ⟨x, dx, v1, v2, v3, od, m, e, _⟩ := h; subst e; rfl
  | pcs ps => obtain ⟨a, vs, n, e, _⟩ := h; subst e; rfl
  | dic ks => obtain ⟨a, o, kvs, e, _⟩ := h; subst e; rfl
  | tdic ks => obtain ⟨a, o, es, ep, e, _⟩ := h; subst e; rfl
theorem cm_is_none {d : D} {Q : Bool → Store → Prop} (q : Q (isNoneD d) st) : CmJ g k .Is d (.dat .none) st Q := by
  intro A S s v1 v2 L M r1 r2
  cases r2
  refine is_none ?_
  rw [rep_isNone r1]
  exact ⟨_, rfl, S, st, .refl M, q⟩
theorem cm_isnot_none {d : D} {Q : Bool → Store → Prop} (q : Q (!isNoneD d) st) : CmJ g k .IsNot d (.dat .none) st Q := by
  intro A S s v1 v2 L M r1 r2
  cases r2
  refine isnot_none_gen ?_
  rw [rep_isNone r1]
  exact ⟨_, rfl, S, st, .refl M, q⟩
end
end Mine

namespace Mine
section
variable {g : Gr} {k : Nat} {env : Env} {ρ : Vars} {st : Store}

theorem sizeLine_big {n : Nat} (h : n ≤ 1000000) : n ≤ sizeLine := by rw [sizeLine_eq]; (first | with_reducible exact Nat.le_trans (by assumption) (by decide) | omega)

inductive EndL (g : Gr) (S : Fz) (st : Store) (s : Shared) (Q : List D → Store → Prop) (vs : List Value) (s' : Shared) : Prop
  | mk (S' : Fz) (st' : Store) (ds : List D) (X : Ext g NoW S st s S' st' s') (r : RepAll g S' vs ds) (q : Q ds st')
noncomputable def EvsJ (g : Gr) (k : Nat) (env : Env) (ρ : Vars) (es : List Expr) (st : Store) (Q : List D → Store → Prop) : Prop :=
  ∀ pos A S s, Lv k A → Mod g S st s.heap → EnvM g S st env ρ s.heap → wpAny (model g.prog g.w) A (spliced (backTo pos (starEach es env))) (EndL g S st s Q) E0 s
noncomputable abbrev PL := List D → Store → Prop
noncomputable abbrev kCons (d : D) (Q : PL) : PL := fun ds st2 => Q (d :: ds) st2
noncomputable abbrev kEvs (g : Gr) (k : Nat) (env : Env) (ρ : Vars) (es : List Expr) (Q : PL) : PE := fun d st1 => EvsJ g k env ρ es st1 (kCons d Q)
inductive kListC (Q : PE) (ds : List D) (st1 : Store) : Prop
  | mk (ps : List PyData) (h : ds = ps.map D.dat) (hl : ps.length ≤ 1000000) (q : ∀ a, st1 a = none → Q (.cell a) (st1.set a ps))
inductive kList (Q : PE) (ds : List D) (st1 : Store) : Prop
  | mk (ps : List PyData) (h : ds = ps.map D.dat) (hl : ps.length ≤ 1000000) (q : Q (.dat (.list ps)) st1)
inductive kTuple (Q : PE) (ds : List D) (st1 : Store) : Prop
  | mk (ps : List PyData) (h : ds = ps.map D.dat) (hl : ps.length ≤ 1000000) (q : Q (.dat (.tuple ps)) st1)
theorem evs_nil {Q : List D → Store → Prop} (q : Q [] st) : EvsJ g k env ρ [] st Q := by
  intro pos A S s L M E
  exact Calls.spliced_nil ⟨S, st, [], .refl M, trivial, q⟩
theorem evs_cons {e : Expr} {es : List Expr} {Q : List D → Store → Prop} (h : EvJ g k env ρ e st (kEvs g k env ρ es Q))
    (hs : starEach (e :: es) env = (false, eval e env) :: starEach es env := by rfl) : EvsJ g k env ρ (e :: es) st Q := by
  intro pos A S s L M E
  rw [hs]
  refine Calls.spliced_cons (wpAny_mono (h A S s L M E) (fun v s1 x => ?_) fun w0 w0 x => x)
  obtain ⟨S1, st1, d, X1, r1, q1⟩ := x
  refine wpAny_mono (q1 pos A S1 s1 L X1.mod (E.ext X1 no_nw)) (fun vs s2 x => ?_) fun w0 w0 x => x
  obtain ⟨S2, st2, ds, X2, r2, q2⟩ := x
  exact ⟨S2, st2, d :: ds, X1.trans X2, ⟨r1.mono X2.ext, r2⟩, q2⟩

theorem rd_of_rep {S : Fz} : ∀ {vs : List Value} {ps : List PyData}, RepAll g S vs (ps.map D.dat) → RdAll S vs ps
  | [], [], _ => .nil
  | _ :: _, _ :: _, h => .cons h.1 (rd_of_rep h.2)
  | [], _ :: _, h => h.elim
  | _ :: _, [], h => h.elim

theorem ev_listC {es : List Expr} {pos : Pos} {Q : D → Store → Prop} (h : EvsJ g k env ρ es st (kListC Q)) :
    EvJ g k env ρ (.List es pos) st Q := by
  intro A S s L M E
  refine List_ (wpAny_mono (h pos A S s L M E) (fun vs s1 x => ?_) fun w0 w0 x => x)
  obtain ⟨S1, st1, ds, X1, r1, ps, rfl, hsz, q1⟩ := x
  have rr := rd_of_rep r1
  obtain ⟨X2, hn⟩ := ext_pushC (n := 0) X1.mod rr
  exact wpAny_newObj_type ⟨S1, _, .cell s1.heap.objs.size, X1.trans X2, rfl, q1 _ hn⟩ (by show vs.toArray.size ≤ sizeLine; rw [List.size_toArray, rr.length]; exact sizeLine_big hsz)
theorem ev_list {es : List Expr} {pos : Pos} {Q : D → Store → Prop} (h : EvsJ g k env ρ es st (kList Q)) :
    EvJ g k env ρ (.List es pos) st Q := by
  intro A S s L M E
  refine List_ (wpAny_mono (h pos A S s L M E) (fun vs s1 x => ?_) fun w0 w0 x => x)
  obtain ⟨S1, st1, ds, X1, r1, ps, rfl, hsz, q1⟩ := x
  have rr := rd_of_rep r1
  obtain ⟨S2, X2, hn⟩ := ext_push X1.mod (Lo vs 0) rfl
  exact wpAny_newObj_type ⟨S2, _, .dat (.list ps), X1.trans X2, Rd.list hn (rr.mono X2.ext), q1⟩ (by show vs.toArray.size ≤ sizeLine; rw [List.size_toArray, rr.length]; exact sizeLine_big hsz)
theorem ev_tuple {es : List Expr} {kd : Nat} {pos : Pos} {Q : D → Store → Prop} (h : EvsJ g k env ρ es st (kTuple Q)) :
    EvJ g k env ρ (.Tuple es kd pos) st Q := by
  intro A S s L M E
  refine Tuple_ (wpAny_mono (h pos A S s L M E) (fun vs s1 x => ?_) fun w0 w0 x => x)
  obtain ⟨S1, st1, ds, X1, r1, ps, rfl, hsz, q1⟩ := x
  have rr := rd_of_rep r1
  obtain ⟨S2, X2, hn⟩ := ext_push X1.mod (To vs 0) rfl
  exact wpAny_newObj_type ⟨S2, _, .dat (.tuple ps), X1.trans X2, Rd.tuple hn (rr.mono X2.ext), q1⟩ (by show vs.toArray.size ≤ sizeLine; rw [List.size_toArray, rr.length]; exact sizeLine_big hsz)

theorem op_add_list {d1 d2 : D} {xs ys : List PyData} {Q : D → Store → Prop} (l1 : LstOf st d1 xs) (l2 : LstOf st d2 ys) (hsz : xs.length + ys.length ≤ 1000000) (q : Q (.dat (.list (xs ++ ys))) st) :
    OpJ g k (binaryOp .Add) d1 d2 st Q := by
  intro A S s v1 v2 L M r1 r2
  obtain ⟨a1, vs1, n1, rfl, h1, k1⟩ := l1.at M r1
  obtain ⟨a2, vs2, n2, rfl, h2, k2⟩ := l2.at M r2
  obtain ⟨S', X, hn⟩ := ext_push M (Lo (vs1 ++ vs2) 0) rfl
  refine P.add_list (items := vs1.toArray) (items2 := vs2.toArray) (n := n1) (n2 := n2) h1 h2 ?_ ?_
  · rw [show vs1.toArray ++ vs2.toArray = (vs1 ++ vs2).toArray by simp]
    exact ⟨S', st, .dat (.list (xs ++ ys)), X, Rd.list hn ((k1.append k2).mono X.ext), q⟩
  · rw [List.size_toArray, List.size_toArray, k1.length, k2.length]; exact sizeLine_big hsz

theorem lo_isList {h : Heap} {a : Addr} {vs : List Value} {n : Nat} (e : h.get? a = some (Lo vs n)) : h.IsList a vs.toArray := ⟨_, e, rfl, n, rfl⟩
theorem to_isTup {h : Heap} {a : Addr} {vs : List Value} {n : Nat} (e : h.get? a = some (To vs n)) : IsTup h a vs.toArray := ⟨_, e, rfl, n, rfl⟩

noncomputable def pick (xs : List PyData) (i : Int) : Option PyData := if 0 ≤ i then xs[i.toNat]? else xs[(i + xs.length).toNat]?

theorem getItem_pick {A : Around} {S : Fz} {s : Shared} {a : Addr} {vs : List Value} {n : Nat} {xs : List PyData} {i : Int} {t : Tok} {p : PyData} {Q : Value → Shared → Prop} (h : s.heap.get? a = some (Lo vs n)) (r : RdAll S vs xs)
    (hp : pick xs i = some p) (hlo : -(xs.length : Int) ≤ i) (hhi : i < 2 ^ 63) (hl : xs.length ≤ 1000000) (q : ∀ v, Rd S v p → Q v s) : wpAny (model g.prog g.w) A (getItem (.ref a) (.int i t)) Q E0 s := by
  unfold pick at hp
  split at hp
  · rename_i h0
    obtain ⟨v, hv, rv⟩ := r.get hp
    exact wpAny_getItem_list (lo_isList h) h0 hhi (by simpa using hv) (q v rv)
  · rename_i h0
    obtain ⟨v, hv, rv⟩ := r.get hp
    refine wpAny_getItem_list_neg (lo_isList h) (by (first | with_reducible exact Int.lt_of_not_ge (by assumption) | omega)) (by rw [List.size_toArray, r.length]; exact hlo) (by omega) ?_ (q v rv)
    rw [List.size_toArray, r.length]; simpa using hv

set_option tactic.hygienic true in
theorem sub_int_shape (sl : Expr) (o : Value) (i : Int) (t : Tok) (hs : ∀ a b c, sl ≠ .Slice a b none c) : subscripted sl false o (.int i t) = operate [o, .int i t] (getItem o (.int i t)) := by
  cases sl <;> first | rfl | skip
  rename_i a b c d
  cases c <;> first | rfl | exact absurd rfl (hs _ _ _)

structure PickOk (xs : List PyData) (n : Int) (p : PyData) : Prop where
  get : pick xs n = some p
  lo : -(xs.length : Int) ≤ n
  hi : n < 2 ^ 63
  len : xs.length ≤ 1000000
inductive kItem2 (d1 : D) (Q : PE) (d2 : D) (st2 : Store) : Prop
  | mk (xs : List PyData) (n : Int) (p : PyData) (l : LstOf st2 d1 xs) (h : d2 = .dat (.int n)) (k : PickOk xs n p) (q : Q (.dat p) st2)
noncomputable abbrev kItem (g : Gr) (k : Nat) (env : Env) (ρ : Vars) (i : Expr) (Q : PE) : PE := fun d1 st1 => EvJ g k env ρ i st1 (kItem2 d1 Q)
inductive kItemT2 (d1 : D) (Q : PE) (d2 : D) (st2 : Store) : Prop
  | mk (xs : List PyData) (n : Int) (p : PyData) (h1 : d1 = .dat (.tuple xs)) (h2 : d2 = .dat (.int n)) (h0 : 0 ≤ n) (hp : xs[n.toNat]? = some p) (hl : xs.length ≤ 1000000) (q : Q (.dat p) st2)
noncomputable abbrev kItemT (g : Gr) (k : Nat) (env : Env) (ρ : Vars) (i : Expr) (Q : PE) : PE := fun d1 st1 => EvJ g k env ρ i st1 (kItemT2 d1 Q)
theorem ev_item {o i : Expr} {pos : Pos} {Q : D → Store → Prop}
    (h : EvJ g k env ρ o st (kItem g k env ρ i Q))
    (hs : ∀ a b c, i ≠ .Slice a b none c := by intro _ _ _ h; cases h) : EvJ g k env ρ (.Subscript o i pos) st Q := by
  intro A S s L M E
  refine Subscript_ (wpAny_mono (h A S s L M E) (fun a s1 x => ?_) fun w0 w0 x => x)
  obtain ⟨S1, st1, d1, X1, r1, q1⟩ := x
  refine wpAny_mono (q1 A S1 s1 L X1.mod (E.ext X1 no_nw)) (fun b s2 x => ?_) fun w0 w0 x => x
  obtain ⟨S2, st2, d2, X2, r2, xs, n, p, l1, rfl, ⟨hp, hlo, hhi, hl⟩, q⟩ := x
  obtain ⟨a1, vs1, n1, rfl, h1, k1⟩ := l1.at X2.mod (r1.mono X2.ext)
  cases r2
  refine tail_any (lo_isList h1).typeIs list_getitem_lookup (getItem_pick h1 k1 hp hlo hhi hl fun v rv => ?_) (sub_int_shape _ _ _ _ hs)
  exact ⟨S2, st2, .dat p, X1.trans X2, rv, q⟩

theorem ev_itemT {o i : Expr} {pos : Pos} {Q : D → Store → Prop}
    (h : EvJ g k env ρ o st (kItemT g k env ρ i Q))
    (hs : ∀ a b c, i ≠ .Slice a b none c := by intro _ _ _ h; cases h) : EvJ g k env ρ (.Subscript o i pos) st Q := by
  intro A S s L M E
  refine Subscript_ (wpAny_mono (h A S s L M E) (fun a s1 x => ?_) fun w0 w0 x => x)
  obtain ⟨S1, st1, d1, X1, r1, q1⟩ := x
  refine wpAny_mono (q1 A S1 s1 L X1.mod (E.ext X1 no_nw)) (fun b s2 x => ?_) fun w0 w0 x => x
  obtain ⟨S2, st2, d2, X2, r2, xs, n, p, rfl, rfl, h0, hp, hl, q⟩ := x
  cases r1 with
  | tuple e1 k1 =>
    have e1 := X2.mod.sub _ _ (X2.ext _ _ e1)
    cases r2
    obtain ⟨v, hv, rv⟩ := (k1.mono X2.ext).get hp
    have hlen : n.toNat < xs.length := (List.getElem?_eq_some_iff.mp hp).1
    refine tail_any (to_isTup e1).typeIs slot_tuple_getitem.lookup (getItem_tuple (to_isTup e1) (by omega) (by omega) (j := n.toNat) ?_ (by simpa using hv) ?_) (sub_int_shape _ _ _ _ hs)
    · have e : (n.toNat : Int) = n := Int.toNat_of_nonneg h0
      rw [List.size_toArray, k1.length, ← e]
      unfold seqIndex?
      have : ¬ ((n.toNat : Int) < 0) := by (first | with_reducible exact Mine.zv9 | omega)
      simp [this]; omega
    · exact ⟨S2, st2, .dat p, X1.trans X2, rv, q⟩
theorem PickOk.map {α : Type} {f : α → PyData} {l : List α} {i : Int} {n : Nat} {x : α} (hi : i = n) (h : l[n]? = some x) (hl : l.length ≤ 1000) : PickOk (l.map f) i (f x) := by
  subst hi
  have hn : n < l.length := (List.getElem?_eq_some_iff.mp h).1
  refine ⟨?_, by (first | with_reducible exact Mine.zy4 | omega), by (first | with_reducible exact Mine.zy3 (by assumption) (by assumption) (by decide) | omega), by rw [List.length_map]; (first | with_reducible exact Nat.le_trans (by assumption) (by decide) | omega)⟩
  unfold pick
  rw [if_pos (by (first | with_reducible exact Mine.zi13 | omega)), Int.toNat_natCast, List.getElem?_map, h]; rfl
theorem PickOk.last {α : Type} {f : α → PyData} {l : List α} {z : α} (h : l.getLast? = some z) (hl : l.length ≤ 1000) : PickOk (l.map f) (-1) (f z) := by
  have hne : l ≠ [] := by rintro rfl; cases h
  have hl' := List.length_pos_iff.mpr hne
  refine ⟨?_, by rw [List.length_map]; (first | with_reducible exact Mine.zy4b (by assumption) | omega), by decide, by rw [List.length_map]; (first | with_reducible exact Nat.le_trans (by assumption) (by decide) | omega)⟩
  unfold pick
  rw [if_neg (by decide), List.length_map, List.getElem?_map, show ((-1 : Int) + (l.length : Int)).toNat = l.length - 1 by (first | with_reducible exact Mine.zr12 | omega), ← List.getLast?_eq_getElem?, h]; rfl
theorem PickOk.at {xs : List PyData} {i : Int} {n : Nat} {p : PyData} (hi : i = n) (h : xs[n]? = some p) (hl : xs.length ≤ 1000) : PickOk xs i p := by
  have := PickOk.map (f := id) (l := xs) hi h hl
  rwa [List.map_id] at this
theorem len_map {α : Type} {f : α → PyData} {l : List α} (hl : l.length ≤ 1000) : (l.map f).length ≤ 1000000 := by rw [List.length_map]; exact Nat.le_trans hl (by decide)
theorem le_mil {n : Nat} (hl : n ≤ 1000) : n ≤ 1000000 := Nat.le_trans hl (by decide)
theorem sm {n : Nat} (h : Nat.ble n 1000 = true) : n ≤ 1000000 := Nat.le_trans (Nat.le_of_ble_eq_true h) (by decide)
theorem ten_th {n : Nat} (hl : n ≤ 10) : n ≤ 1000 := Nat.le_trans hl (by decide)
end
end Mine

namespace Mine
section
variable {g : Gr} {k : Nat} {env : Env} {ρ : Vars} {st : Store}

inductive EndP (g : Gr) (S : Fz) (st : Store) (s : Shared) (Q : Option Int → Store → Prop) (v : Value) (s' : Shared) : Prop
  | mk (S' : Fz) (st' : Store) (o : Option Int) (X : Ext g NoW S st s S' st' s') (r : IsPart v o) (q : Q o st')
noncomputable def PartJ (g : Gr) (k : Nat) (env : Env) (ρ : Vars) (x : Option Expr) (st : Store) (Q : Option Int → Store → Prop) : Prop :=
  ∀ A S s, Lv k A → Mod g S st s.heap → EnvM g S st env ρ s.heap → wpAny (model g.prog g.w) A (evalPart x env) (EndP g S st s Q) E0 s
noncomputable abbrev PO := Option Int → Store → Prop
inductive kPt (Q : PO) (d : D) (st1 : Store) : Prop
  | mk (i : Int) (h : d = .dat (.int i)) (q : Q (some i) st1)
inductive kSl3 (d1 : D) (a : Option Int) (Q : PE) (b : Option Int) (st3 : Store) : Prop
  | mk (xs : List PyData) (l : LstOf st3 d1 xs) (hl : xs.length ≤ 1000000)
      (q : Q (.dat (.list ((xs.drop (a.elim 0 (clipAt xs.length))).take (b.elim xs.length (clipAt xs.length) - a.elim 0 (clipAt xs.length))))) st3)
noncomputable abbrev kSl2 (g : Gr) (k : Nat) (env : Env) (ρ : Vars) (hi : Option Expr) (d1 : D) (Q : PE) : PO := fun a st2 => PartJ g k env ρ hi st2 (kSl3 d1 a Q)
noncomputable abbrev kSl (g : Gr) (k : Nat) (env : Env) (ρ : Vars) (lo hi : Option Expr) (Q : PE) : PE := fun d1 st1 => PartJ g k env ρ lo st1 (kSl2 g k env ρ hi d1 Q)
inductive kRev2 (d1 : D) (Q : PE) (b : Option Int) (st3 : Store) : Prop
  | mk (xs : List PyData) (h : b = some (-1)) (l : LstOf st3 d1 xs) (hl : xs.length ≤ 1000000) (q : Q (.dat (.list xs.reverse)) st3)
noncomputable abbrev kRev (g : Gr) (k : Nat) (env : Env) (ρ : Vars) (e : Expr) (Q : PE) : PE := fun d1 st1 => PartJ g k env ρ (some e) st1 (kRev2 d1 Q)
inductive kItemP2 (d1 : D) (Q : PE) (d2 : D) (st2 : Store) : Prop
  | mk (xs : List Pc) (n : Int) (m : Nat) (p : Pc) (h1 : d1 = .pcs xs) (h2 : d2 = .dat (.int n)) (hn : n = m) (hp : xs[m]? = some p) (hl : xs.length ≤ 1000) (q : Q (.pc p) st2)
noncomputable abbrev kItemP (g : Gr) (k : Nat) (env : Env) (ρ : Vars) (i : Expr) (Q : PE) : PE := fun d1 st1 => EvJ g k env ρ i st1 (kItemP2 d1 Q)
inductive kAttr (f : Pc → PyData) (Q : PE) (d : D) (st1 : Store) : Prop
  | mk (p : Pc) (h : d = .pc p) (q : Q (.dat (f p)) st1)
theorem pt_none {Q : Option Int → Store → Prop} (q : Q none st) : PartJ g k env ρ none st Q := by
  intro A S s L M E
  exact wpAny_pure ⟨S, st, none, .refl M, .none, q⟩
theorem pt_some {e : Expr} {Q : Option Int → Store → Prop} (h : EvJ g k env ρ e st (kPt Q)) : PartJ g k env ρ (some e) st Q := by
  intro A S s L M E
  rw [evalPart_some]
  refine wpAny_mono (h A S s L M E) (fun v s1 x => ?_) fun w0 w0 x => x
  obtain ⟨S1, st1, d, X1, r1, i, rfl, q⟩ := x
  cases r1
  exact ⟨S1, st1, some i, X1, .int _ _, q⟩

theorem RdAll.toL {S : Fz} {vs : List Value} {xs : List PyData} (h : RdAll S vs xs) : RdAll S vs.toArray.toList xs := by simpa using h

theorem ev_slice {o : Expr} {lo hi : Option Expr} {p pos : Pos} {Q : D → Store → Prop}
    (h : EvJ g k env ρ o st (kSl g k env ρ lo hi Q)) :
    EvJ g k env ρ (.Subscript o (.Slice lo hi none p) pos) st Q := by
  intro A S s L M E
  refine Subscript_ (wpAny_mono (h A S s L M E) (fun a s1 x => ?_) fun w0 w0 x => x)
  obtain ⟨S1, st1, d1, X1, r1, q1⟩ := x
  refine wpAny_Slice (wpAny_mono (q1 A S1 s1 L X1.mod (E.ext X1 no_nw)) (fun vl s2 x => ?_) fun w0 w0 x => x)
  obtain ⟨S2, st2, ol, X2, p2, q2⟩ := x
  refine wpAny_mono (q2 A S2 s2 L X2.mod (E.ext (X1.trans X2) no_nw)) (fun vu s3 x => ?_) fun w0 w0 x => x
  obtain ⟨S3, st3, ou, X3, p3, xs, l1, hl, q⟩ := x
  refine wpAny_pure ?_
  obtain ⟨a1, vs1, n1, rfl, h1, k1⟩ := l1.at X3.mod (r1.mono (X2.ext.trans X3.ext))
  obtain ⟨S4, X4, hn4⟩ := ext_push X3.mod { cls := .type "slice", data := .fields #[vl, vu, .none] } rfl
  have h1' := X4.keep a1
  have hg1 : (s3.heap.push { cls := .type "slice", data := .fields #[vl, vu, .none] }).get? a1 = some (Lo vs1 n1) := Heap.get?_push_of_some _ h1
  obtain ⟨S5, X5, hn5⟩ := ext_push X4.mod (Lo ((vs1.drop (ol.elim 0 (clipAt vs1.length))).take (ou.elim vs1.length (clipAt vs1.length) - ol.elim 0 (clipAt vs1.length))) 0) rfl
  refine tail_any (ops := [.ref s3.heap.objs.size, .ref a1]) (Heap.IsList.typeIs (s := { s3 with heap := s3.heap.push _ }) (lo_isList hg1)) list_getitem_lookup (wpAny_getItem_list_slice (lo_isList hg1) (Heap.IsSliceOf.new ..) p2 p3 .none (by simp) ?_ ?_) rfl
  · have e : slicePick vs1.toArray ol ou none = ((vs1.drop (ol.elim 0 (clipAt vs1.length))).take (ou.elim vs1.length (clipAt vs1.length) - ol.elim 0 (clipAt vs1.length))).toArray := by
      rw [slicePick_plain]; simp
    rw [e]
    refine ⟨S5, st3, .dat _, ((X1.trans X2).trans (X3.trans X4)).trans X5, Rd.list hn5 ?_, q⟩
    have k1' := k1.mono (X4.ext.trans X5.ext)
    rw [k1.length]
    exact (k1'.drop _).take _
  · rw [List.size_toArray, k1.length]; exact sizeLine_big hl

theorem ev_rev {o st3e : Expr} {p pos : Pos} {Q : D → Store → Prop}
    (h : EvJ g k env ρ o st (kRev g k env ρ st3e Q)) :
    EvJ g k env ρ (.Subscript o (.Slice none none (some st3e) p) pos) st Q := by
  intro A S s L M E
  refine Subscript_ (wpAny_mono (h A S s L M E) (fun a s1 x => ?_) fun w0 w0 x => x)
  obtain ⟨S1, st1, d1, X1, r1, q1⟩ := x
  refine wpAny_Slice (wpAny_pure (wpAny_pure ?_))
  refine wpAny_mono (q1 A S1 s1 L X1.mod (E.ext X1 no_nw)) (fun vu s3 x => ?_) fun w0 w0 x => x
  obtain ⟨S3, st3, ou, X3, p3, xs, rfl, l1, hl, q⟩ := x
  obtain ⟨a1, vs1, n1, rfl, h1, k1⟩ := l1.at X3.mod (r1.mono X3.ext)
  obtain ⟨S4, X4, hn4⟩ := ext_push X3.mod { cls := .type "slice", data := .fields #[.none, .none, vu] } rfl
  have hg1 : (s3.heap.push { cls := .type "slice", data := .fields #[.none, .none, vu] }).get? a1 = some (Lo vs1 n1) := Heap.get?_push_of_some _ h1
  obtain ⟨S5, X5, hn5⟩ := ext_push X4.mod (Lo vs1.reverse 0) rfl
  refine tail_any (ops := [.ref a1, .ref s3.heap.objs.size]) (Heap.IsList.typeIs (s := { s3 with heap := s3.heap.push _ }) (lo_isList hg1)) list_getitem_lookup (wpAny_getItem_list_slice (lo_isList hg1) (Heap.IsSliceOf.new ..) .none .none p3 (by simp) ?_ ?_) rfl
  · have e : slicePick vs1.toArray none none (some (-1)) = vs1.reverse.toArray := by rw [krv_pick]
    rw [e]
    exact ⟨S5, st3, .dat (.list xs.reverse), (X1.trans (X3.trans X4)).trans X5, Rd.list hn5 (k1.reverse.mono (X4.ext.trans X5.ext)), q⟩
  · rw [List.size_toArray, k1.length]; exact sizeLine_big hl

theorem RdPcs.length {S : Fz} {vs : List Value} {ps : List Pc} (h : RdPcs g S vs ps) : vs.length = ps.length := by
  induction h with
  | nil => rfl
  | cons _ _ ih => exact congrArg Nat.succ ih
theorem RdPcs.get {S : Fz} {vs : List Value} {ps : List Pc} {k : Nat} {d : Pc} (h : RdPcs g S vs ps) : ps[k]? = some d → ∃ v, vs[k]? = some v ∧ RdPc g S v d := by
  induction h generalizing k with
  | nil => intro h; simp at h
  | cons h _ ih =>
    intro e
    cases k with
    | zero => injection e with e; subst e; exact ⟨_, rfl, h⟩
    | succ k => exact ih e

theorem ev_itemP {o i : Expr} {pos : Pos} {Q : D → Store → Prop}
    (h : EvJ g k env ρ o st (kItemP g k env ρ i Q))
    (hs : ∀ a b c, i ≠ .Slice a b none c := by intro _ _ _ h; cases h) : EvJ g k env ρ (.Subscript o i pos) st Q := by
  intro A S s L M E
  refine Subscript_ (wpAny_mono (h A S s L M E) (fun a s1 x => ?_) fun w0 w0 x => x)
  obtain ⟨S1, st1, d1, X1, r1, q1⟩ := x
  refine wpAny_mono (q1 A S1 s1 L X1.mod (E.ext X1 no_nw)) (fun b s2 x => ?_) fun w0 w0 x => x
  obtain ⟨S2, st2, d2, X2, r2, xs, n, m, p, rfl, rfl, hn, hp, hxl, q⟩ := x
  have hml : m < xs.length := (List.getElem?_eq_some_iff.mp hp).1
  have h0 : 0 ≤ n := by omega
  have hhi : n < 2 ^ 63 := by (first | with_reducible exact Mine.zv8 (by assumption) (by assumption) (by assumption) | omega)
  have hp : xs[n.toNat]? = some p := by rw [show n.toNat = m by omega]; exact hp
  obtain ⟨a1, vs1, n1, rfl, h1, k1⟩ := r1.mono X2.ext
  cases r2
  obtain ⟨v, hv, rv⟩ := k1.get hp
  have h1 := X2.mod.sub _ _ h1
  refine tail_any (lo_isList h1).typeIs list_getitem_lookup (wpAny_getItem_list (lo_isList h1) h0 hhi (by simpa using hv) ?_) (sub_int_shape _ _ _ _ hs)
  exact ⟨S2, st2, .pc p, X1.trans X2, rv, q⟩

structure Cls (g : Gr) : Prop where
  get : ∀ n, plainGet g.K g.C n = true
  has : hasDictIn g.K g.C = true
  first : findIn g.K (.ref g.C) (Str.ofString "first") = some none
  behind : findIn g.K (.ref g.C) (Str.ofString "behind") = some none
  levels : findIn g.K (.ref g.C) (Str.ofString "levels") = some none
  idle : findIn g.K (.ref g.C) (Str.ofString "is_idle") = some (some (.ref g.idl))
  fn : typeIn g.K (.ref g.idl) = some (.type "function")
  keepI : keepIn g.K (.ref g.idl) = true

theorem Mod.kin {S : Fz} {h : Heap} (M : Mod g S st h) : g.K.In h := fun a o e => M.sub a o (M.base a o (g.kin a o e))

theorem RdPc.inst {S : Fz} {h : Heap} (M : Mod g S st h) {x dx : Addr} {od : Obj} (h1 : S x = some (instObj g.C dx)) (h2 : S dx = some od) : InstAt h x (instObj g.C dx) g.C (some od) :=
  ⟨M.sub _ _ h1, rfl, rfl, M.sub _ _ h2⟩
theorem NsO.look {od : Obj} {m : Str → Option Value} (h : NsO od m) (name : Str) : lookIn name od = some (m name) := by
  obtain ⟨es, ep, h1, h2, h3⟩ := h
  have e := h3 name
  unfold nsFind findBy at e
  rw [← Array.find?_toList] at e
  unfold lookIn
  rw [h1]
  dsimp only
  cases q : es.toList.find? (·.key.isStr name) with
  | some x => rw [q] at e; exact congrArg some e
  | none =>
    rw [q] at e
    have hr : es.toList.any (·.refKey) = false := by
      rw [List.any_eq_false]
      intro x hx
      obtain ⟨n, t, hk⟩ := h2 x (by simpa using hx)
      simp [DictEntry.refKey, hk]
    simp only [hr, Bool.false_eq_true, if_false]
    exact congrArg some e

theorem rd_handed {S : Fz} {v : Value} {p : PyData} (h : Rd S v p) : handedIn v = true := by cases h <;> rfl

theorem ev_attr {o : Expr} {nm : Str} {pos : Pos} {Q : D → Store → Prop} (C : Cls g) (f : Pc → PyData)
    (hf : (nm = Str.ofString "first" ∧ f = fun p => .int p.a) ∨ (nm = Str.ofString "behind" ∧ f = fun p => .int p.b) ∨ (nm = Str.ofString "levels" ∧ f = fun p => lvD p.lv))
    (h : EvJ g k env ρ o st (kAttr f Q))
    (he : eval (.Attribute o nm pos) env = (do
      let ov ← eval o env
      standAt pos.atName
      let r ← holding [ov] (getAttr ov nm true)
      letTemporaryGo o ov r
      pure r) := by with_unfolding_all rfl) : EvJ g k env ρ (.Attribute o nm pos) st Q := by
  intro A S s L M E
  refine Attribute_any_ (wpAny_mono (h A S s L M E) (fun v s1 x => ?_) fun w0 w0 x => x) he
  obtain ⟨S1, st1, d, X1, r1, p, rfl, q⟩ := x
  obtain ⟨x, dx, v1, v2, v3, od, mm, rfl, h1, h2, h0, h3, h4, h5, h6, h7, h8, h9⟩ := r1
  have I := RdPc.inst X1.mod h1 h2
  have G := (plainGet_of (C.get nm)).1
  have key : ∃ w, findObj g.K g.C (some od) nm = some (.value w) ∧ Rd S1 w (f p) := by
    rcases hf with ⟨rfl, rfl⟩ | ⟨rfl, rfl⟩ | ⟨rfl, rfl⟩
    · exact ⟨v1, findObj_own C.has C.first rfl ((h0.look _).trans (congrArg some h3)), h7⟩
    · exact ⟨v2, findObj_own C.has C.behind rfl ((h0.look _).trans (congrArg some h4)), h8⟩
    · exact ⟨v3, findObj_own C.has C.levels rfl ((h0.look _).trans (congrArg some h5)), h9⟩
  obtain ⟨w, k1, k2⟩ := key
  exact get_value X1.mod.kin I G k1 (rd_handed k2) ⟨S1, st1, .dat (f p), X1.trans (.tok X1.mod _), k2, q⟩
end
end Mine

namespace Mine
section
variable {g : Gr} {k : Nat} {env : Env} {ρ : Vars} {st : Store}

mutual
theorem rd_reads {S : Fz} {h : Heap} (hs : ∀ a o, S a = some o → h.get? a = some o) : ∀ {v : Value} {p : PyData}, Rd S v p → ∃ as, Reads h v p as
  | _, _, .none => ⟨_, Reads.none⟩
  | _, _, .bool b => ⟨_, Reads.bool b⟩
  | _, _, .int i t => ⟨_, Reads.int i t⟩
  | _, _, .str x t => ⟨_, Reads.str x t⟩
  | _, _, .list h1 r => by
    obtain ⟨as, q⟩ := rd_readsAll hs r
    exact ⟨_, reads_list_at (hs _ _ h1) rfl rfl (by simpa using q)⟩
  | _, _, .tuple h1 r => by
    obtain ⟨as, q⟩ := rd_readsAll hs r
    exact ⟨_, reads_tuple_at (hs _ _ h1) rfl rfl (by simpa using q)⟩
theorem rd_readsAll {S : Fz} {h : Heap} (hs : ∀ a o, S a = some o → h.get? a = some o) : ∀ {vs : List Value} {ps : List PyData}, RdAll S vs ps → ∃ as, ReadsAll h vs ps as
  | _, _, .nil => ⟨_, ReadsAll.nil⟩
  | _, _, .cons h1 r => by
    obtain ⟨as, q⟩ := rd_reads hs h1
    obtain ⟨bs, q2⟩ := rd_readsAll hs r
    exact ⟨_, ReadsAll.cons q q2⟩
end

noncomputable def DatOf (st : Store) (d : D) (p : PyData) : Prop := d = .dat p ∨ ∃ a xs, d = .cell a ∧ st a = some xs ∧ p = .list xs
theorem DatOf.dat {p : PyData} : DatOf st (.dat p) p := .inl rfl
theorem DatOf.cell {a : Addr} {xs : List PyData} (h : st a = some xs) : DatOf st (.cell a) (.list xs) := .inr ⟨a, xs, rfl, h, rfl⟩
theorem DatOf.reads {S : Fz} {h : Heap} {v : Value} {d : D} {p : PyData} (M : Mod g S st h) (r : Rep g S v d) (l : DatOf st d p) : ∃ as, Reads h v p as := by
  rcases l with rfl | ⟨a, xs, rfl, e, rfl⟩
  · exact rd_reads M.sub r
  · obtain ⟨_, vs, n, h1, h2⟩ := M.cell a xs e
    have hv : v = .ref a := r
    subst hv
    obtain ⟨as, q⟩ := rd_readsAll M.sub h2
    exact ⟨_, reads_list_at h1 rfl rfl (by simpa using q)⟩

theorem Lv.room {A : Around} (h : Lv k A) : A.units + 64 < cLine := by obtain ⟨_, _, c⟩ := h; unfold cLine; omega

theorem cm_eq {d1 d2 : D} {p1 p2 : PyData} {Q : Bool → Store → Prop} (l1 : DatOf st d1 p1) (l2 : DatOf st d2 p2) (h1 : SeqAt.shaped p1 = true) (h2 : SeqAt.shaped p2 = true) (q : Q (PyData.eqv p1 p2) st) :
    CmJ g k .Eq d1 d2 st Q := by
  intro A S s v1 v2 L M r1 r2
  obtain ⟨as, k1⟩ := l1.reads M r1
  obtain ⟨bs, k2⟩ := l2.reads M r2
  exact eq_dataH k1 k2 h1 h2 L.room ⟨_, rfl, S, st, .refl M, q⟩
theorem cm_ne {d1 d2 : D} {p1 p2 : PyData} {Q : Bool → Store → Prop} (l1 : DatOf st d1 p1) (l2 : DatOf st d2 p2) (h1 : SeqAt.shaped p1 = true) (h2 : SeqAt.shaped p2 = true) (q : Q (!PyData.eqv p1 p2) st) :
    CmJ g k .NotEq d1 d2 st Q := by
  intro A S s v1 v2 L M r1 r2
  obtain ⟨as, k1⟩ := l1.reads M r1
  obtain ⟨bs, k2⟩ := l2.reads M r2
  exact ne_dataH k1 k2 h1 h2 L.room ⟨_, rfl, S, st, .refl M, q⟩

theorem shaped_parts {p : PyData} (h : SeqAt.shaped p = true) : p.canLay0 = true ∧ p.depth ≤ 64 := by
  unfold SeqAt.shaped at h
  rw [Bool.and_eq_true] at h
  exact ⟨h.1, of_decide_eq_true h.2⟩

theorem cm_notin_list {d1 d2 : D} {p : PyData} {xs : List PyData} {Q : Bool → Store → Prop} (l1 : DatOf st d1 p) (l2 : DatOf st d2 (.list xs)) (h1 : SeqAt.shaped p = true) (h2 : SeqAt.shaped (.list xs) = true)
    (q : Q (!xs.any fun y => PyData.eqv y p) st) : CmJ g k .NotIn d1 d2 st Q := by
  intro A S s v1 v2 L M r1 r2
  obtain ⟨as, k1⟩ := l1.reads M r1
  obtain ⟨bs, k2⟩ := l2.reads M r2
  have a1 := shaped_parts h1
  have a2 := shaped_parts h2
  refine SeqAt.notIn_list_reads k2 k1 (by simpa [PyData.canLay0] using a2.1) a1.1 ?_ ⟨_, rfl, S, st, .refl M, q⟩
  have := Nat.min_le_right (PyData.depthAll xs) p.depth
  have := L.2.2
  have := a1.2
  unfold cLine; omega
theorem cm_notin_tuple {d1 d2 : D} {p : PyData} {xs : List PyData} {Q : Bool → Store → Prop} (l1 : DatOf st d1 p) (l2 : DatOf st d2 (.tuple xs)) (h1 : SeqAt.shaped p = true) (h2 : SeqAt.shaped (.tuple xs) = true)
    (q : Q (!xs.any fun y => PyData.eqv y p) st) : CmJ g k .NotIn d1 d2 st Q := by
  intro A S s v1 v2 L M r1 r2
  obtain ⟨as, k1⟩ := l1.reads M r1
  obtain ⟨bs, k2⟩ := l2.reads M r2
  have a1 := shaped_parts h1
  have a2 := shaped_parts h2
  refine SeqAt.notIn_tuple_reads k2 k1 (by simpa [PyData.canLay0] using a2.1) a1.1 ?_ ⟨_, rfl, S, st, .refl M, q⟩
  have := Nat.min_le_right (PyData.depthAll xs) p.depth
  have := L.2.2
  have := a1.2
  unfold cLine; omega

theorem valueAt_isSome {K : Type} [DecidableEq K] : ∀ (kvs : List (K × Value)) (k : K), (valueAt kvs k).isSome = (kvs.map (·.1)).contains k := by
  intro xx
  induction xx with
  | nil =>
    intro _
    exact rfl
  | cons hd0 r ih =>
    obtain ⟨a, v⟩ := hd0
    intro k
    have ih := ih k
    unfold valueAt at ih ⊢
    by_cases h : a = k
    · subst h; simp
    · simp only [List.find?_cons, List.map_cons, List.contains_cons]
      have h1 : decide (a = k) = false := by simpa using h
      have h2 : (k == a) = false := by simpa using fun e : k = a => h e.symm
      rw [Option.isSome_map] at ih
      rw [h1, h2, Option.isSome_map, Bool.false_or]
      exact ih
theorem cm_in_dic {i : Int} {ks : List Int} {Q : Bool → Store → Prop} (q : Q (ks.contains i) st) : CmJ g k .In (.dat (.int i)) (.dic ks) st Q := by
  intro A S s v1 v2 L M r1 r2
  cases r1 with
  | int i t =>
    obtain ⟨a, o, kvs, rfl, h1, h2, rfl, h4⟩ := r2
    have hd : s.heap.DictOf (intKind g.prog g.w) a kvs := Heap.dictOf_iff.mpr ⟨o, M.sub _ _ h1, h2⟩
    refine wpAny_in_of (intKind_is _ _ i t) h4 hd.mapOf ⟨_, rfl, S, st, .tok M _, ?_⟩
    rw [valueAt_isSome]; exact q
theorem cm_notin_dic {i : Int} {ks : List Int} {Q : Bool → Store → Prop} (q : Q (!ks.contains i) st) : CmJ g k .NotIn (.dat (.int i)) (.dic ks) st Q := by
  intro A S s v1 v2 L M r1 r2
  cases r1 with
  | int i t =>
    obtain ⟨a, o, kvs, rfl, h1, h2, rfl, h4⟩ := r2
    have hd : s.heap.DictOf (intKind g.prog g.w) a kvs := Heap.dictOf_iff.mpr ⟨o, M.sub _ _ h1, h2⟩
    refine wpAny_notIn_of (intKind_is _ _ i t) h4 hd.mapOf ⟨_, rfl, S, st, .tok M _, ?_⟩
    rw [valueAt_isSome]; exact q
end
end Mine

namespace Mine
section
variable {g : Gr} {k : Nat} {env : Env} {ρ : Vars} {st : Store}

noncomputable def Wr (env : Env) (x : Str) : Prop := env.kindOf x = some .local ∨ (env.kindOf x = some .cell ∧ ∃ c, env.cells.lookup x = some c)

noncomputable def WrW (W : Addr → Prop) (env : Env) (x : Str) : Prop := (env.kindOf x = some .local ∧ W env.locals) ∨ (env.kindOf x = some .cell ∧ ∃ c, env.cells.lookup x = some c ∧ W c)
theorem Wr.own {env : Env} {x : Str} (h : Wr env x) : WrW (Own env) env x := by
  rcases h with h | ⟨h, c, hc⟩
  · exact .inl ⟨h, .inl rfl⟩
  · exact .inr ⟨h, c, hc, .inr ⟨x, hc⟩⟩

theorem ext_all {S : Fz} {s : Shared} {W : Addr → Prop} {h' : Heap} {tk : Nat} (M : Mod g S st s.heap) (hk : ∀ b o, s.heap.get? b = some o → h'.get? b = some o) : Ext g W S st s S st { s with heap := h', toks := tk } :=
  ⟨⟨_, _, rfl⟩, .refl _, ⟨M.base, fun a o e => hk _ _ (M.sub a o e), fun a xs e => by
    obtain ⟨k1, vs, n, k2, k3⟩ := M.cell a xs e
    exact ⟨k1, vs, n, hk _ _ k2, k3⟩⟩, fun a o e w0 w0 => hk _ _ e, fun w0 h k => absurd k h, fun w0 h k => absurd k h, fun a e => by
    obtain ⟨o, e'⟩ := Option.isSome_iff_exists.mp e
    show (h'.get? a).isSome; rw [hk a o e']; rfl⟩

theorem ext_but {S : Fz} {s : Shared} {W : Addr → Prop} {h' : Heap} {tk : Nat} {b : Addr} (M : Mod g S st s.heap) (hS : S b = none) (hst : st b = none) (hw : W b) (hb : (h'.get? b).isSome)
    (hk : ∀ a o, a ≠ b → s.heap.get? a = some o → h'.get? a = some o) : Ext g W S st s S st { s with heap := h', toks := tk } :=
  ⟨⟨_, _, rfl⟩, .refl _, ⟨M.base, fun a o e => hk _ _ (by rintro rfl; rw [hS] at e; cases e) (M.sub a o e), fun a xs e => by
    obtain ⟨k1, vs, n, k2, k3⟩ := M.cell a xs e
    exact ⟨k1, vs, n, hk _ _ (by rintro rfl; rw [hst] at e; cases e) k2, k3⟩⟩, fun a o e w0 hn => hk _ _ (by rintro rfl; exact hn hw) e, fun w0 h k => absurd k h, fun w0 h k => absurd k h, fun a e => by
    obtain ⟨o, e'⟩ := Option.isSome_iff_exists.mp e
    show (h'.get? a).isSome
    by_cases hab : a = b
    · subst hab; exact hb
    · rw [hk a o hab e']; rfl⟩

theorem store_var {A : Around} {W : Addr → Prop} {S : Fz} {s : Shared} {x : Str} {v : Value} {d : D} {Q : Unit → Shared → Prop} (M : Mod g S st s.heap) (E : EnvM g S st env ρ s.heap) (hw : WrW W env x) (r : Rep g S v d)
    (q : ∀ s', Ext g W S st s S st s' → EnvM g S st env (ρ.set x d) s'.heap → Q () s') : wpAny (model g.prog g.w) A (storeName env x v) Q E0 s := by
  obtain ⟨m, cm, h1, h2, h3⟩ := E.ex
  rcases hw with ⟨hl, hWl⟩ | ⟨hl, c, hc, hWc⟩
  · obtain ⟨oL, esL, epL, hL, _⟩ := id h1
    refine wpAny_storeName_local hl h1 (fun h' hn hs => ?_) (by rw [E.fn]; rfl)
    have al : (h'.get? env.locals).isSome := by obtain ⟨o, es, ep, ho, _⟩ := hn; rw [ho]; rfl
    have X : Ext g W S st s S st { s with heap := h', toks := s.toks + 1 } := ext_but M (E.off _ (.inl rfl)).1 (E.off _ (.inl rfl)).2.1 hWl al (fun a o ha e => (hs.2 a ha).trans e)
    refine q _ X ⟨E.fn, E.glob, E.blt, ⟨_, cm, hn, fun n c e => ?_, fun y d' e => ?_⟩, fun a ha => ?_, E.apart, E.lc⟩
    · exact (h2 n c e).sameBut hs (E.lc n c e)
    · by_cases hy : y = x
      · subst hy
        have : d = d' := by simpa [Vars.set] using e
        subst this
        exact ⟨v, r, .inl ⟨hl, by simp⟩⟩
      · have e' : ρ y = some d' := by simpa [Vars.set, hy] using e
        obtain ⟨w, r', c'⟩ := h3 y d' e'
        refine ⟨w, r', ?_⟩
        rcases c' with ⟨a, b⟩ | c'
        · exact .inl ⟨a, by simpa [hy] using b⟩
        · exact .inr c'
    · obtain ⟨a1, a2, a3⟩ := E.off a ha
      exact ⟨a1, a2, X.alive a a3⟩
  · refine wpAny_storeName_cell E.fn hl hc (h2 x c hc) fun h' hv hs => ?_
    have hcO : Own env c := .inr ⟨x, hc⟩
    have al : (h'.get? c).isSome := by obtain ⟨o, ho, _⟩ := hv; rw [ho]; rfl
    have X : Ext g W S st s S st { s with heap := h' } := ext_but (tk := s.toks) M (E.off _ hcO).1 (E.off _ hcO).2.1 hWc al (fun a o ha e => (hs.2 a ha).trans e)
    refine q _ X ⟨E.fn, E.glob, E.blt, ⟨m, fun y => if y = x then some v else cm y, h1.sameBut hs (Ne.symm (E.lc x c hc)), fun n c' e => ?_, fun y d' e => ?_⟩, fun a ha => ?_, E.apart, E.lc⟩
    · by_cases hn : n = x
      · subst hn; rw [hc] at e; cases e; simpa using hv
      · have hcc : c' ≠ c := fun q => hn (E.apart n x c (q ▸ e) hc)
        simpa [hn] using (h2 n c' e).sameBut hs hcc
    · by_cases hy : y = x
      · subst hy
        have : d = d' := by simpa [Vars.set] using e
        subst this
        exact ⟨v, r, .inr ⟨.inl hl, ⟨c, hc⟩, by simp⟩⟩
      · have e' : ρ y = some d' := by simpa [Vars.set, hy] using e
        obtain ⟨w, r', c'⟩ := h3 y d' e'
        refine ⟨w, r', ?_⟩
        rcases c' with c' | ⟨a, b, e⟩
        · exact .inl c'
        · exact .inr ⟨a, b, by simpa [hy] using e⟩
    · obtain ⟨a1, a2, a3⟩ := E.off a ha
      exact ⟨a1, a2, X.alive a a3⟩

inductive EndA (g : Gr) (W : Addr → Prop) (S : Fz) (st : Store) (env : Env) (s : Shared) (Q : Vars → Store → Prop) (s' : Shared) : Prop
  | mk (S' : Fz) (st' : Store) (ρ' : Vars) (X : Ext g W S st s S' st' s') (E : EnvM g S' st' env ρ' s'.heap) (q : Q ρ' st')
noncomputable def AsJ (g : Gr) (k : Nat) (W : Addr → Prop) (env : Env) (ρ : Vars) (t : Expr) (d : D) (st : Store) (Q : Vars → Store → Prop) : Prop :=
  ∀ A S s v, Lv k A → Mod g S st s.heap → EnvM g S st env ρ s.heap → Rep g S v d → wpAny (model g.prog g.w) A (assign t env v) (fun w0 s' => EndA g W S st env s Q s') E0 s
theorem as_name {W : Addr → Prop} {x : Str} {pos : Pos} {d : D} {Q : Vars → Store → Prop} (hw : WrW W env x) (q : Q (ρ.set x d) st) : AsJ g k W env ρ (.Name x pos) d st Q := by
  intro A S s v L M E r
  exact wpAny_assign_Name (store_var M E hw r fun s' X E' => ⟨S, st, _, X, E', q⟩)

noncomputable def AssJ (g : Gr) (k : Nat) (W : Addr → Prop) (env : Env) (ρ : Vars) (ts : List Expr) (ds : List PyData) (st : Store) (Q : Vars → Store → Prop) : Prop :=
  ∀ A S s vs, Lv k A → Mod g S st s.heap → EnvM g S st env ρ s.heap → RdAll S vs ds → wpAny (model g.prog g.w) A (assignInOrder ((assignEach ts env).map (·.2)) vs) (fun w0 s' => EndA g W S st env s Q s') E0 s
noncomputable abbrev PV := Vars → Store → Prop
noncomputable abbrev kAss (g : Gr) (k : Nat) (W : Addr → Prop) (env : Env) (ts : List Expr) (ds : List PyData) (Q : PV) : PV := fun ρ1 st1 => AssJ g k W env ρ1 ts ds st1 Q
noncomputable abbrev kNext (g : Gr) (k : Nat) (env : Env) (cs : List Stmt) (Q : PS) : PS := fun f ρ1 st1 => match f with | .next => ExJ g k env ρ1 cs st1 Q | f => Q f ρ1 st1
noncomputable abbrev kSet (ρ : Vars) (x : Str) (Q : PS) : PE := fun d st1 => Q .next (ρ.set x d) st1
inductive kAug (ρ : Vars) (x : Str) (i : Int) (Q : PS) (d : D) (st1 : Store) : Prop
  | mk (j : Int) (h : d = .dat (.int j)) (q : Q .next (ρ.set x (.dat (.int (i + j)))) st1)
inductive kAugS (ρ : Vars) (x : Str) (i : Int) (Q : PS) (d : D) (st1 : Store) : Prop
  | mk (j : Int) (h : d = .dat (.int j)) (q : Q .next (ρ.set x (.dat (.int (i - j)))) st1)
noncomputable abbrev kRet (ρ : Vars) (Q : PS) : PE := fun d st1 => Q (.ret d) ρ st1
noncomputable abbrev kIf (g : Gr) (k : Nat) (env : Env) (ρ : Vars) (b o : List Stmt) (Q : PS) : PB := fun c st1 => if c then ExJ g k env ρ b st1 Q else ExJ g k env ρ o st1 Q
noncomputable abbrev kNx (Q : PS) : PV := fun ρ' st2 => Q .next ρ' st2
noncomputable abbrev kTup (g : Gr) (k : Nat) (env : Env) (ρ : Vars) (t : Expr) (Q : PS) : PE := fun d st1 => AsJ g k (Own env) env ρ t d st1 (kNx Q)
theorem ass_nil {W : Addr → Prop} {ds : List PyData} {Q : Vars → Store → Prop} (q : Q ρ st) : AssJ g k W env ρ [] ds st Q := by
  intro A S s vs L M E r
  exact assignInOrder_nil ⟨S, st, ρ, .refl M, E, q⟩
theorem ass_cons {W : Addr → Prop} {t : Expr} {ts : List Expr} {d : PyData} {ds : List PyData} {Q : Vars → Store → Prop} (h : AsJ g k W env ρ t (.dat d) st (kAss g k W env ts ds Q))
    (hs : assignEach (t :: ts) env = (false, assign t env) :: assignEach ts env := by rfl) : AssJ g k W env ρ (t :: ts) (d :: ds) st Q := by
  intro A S s vs L M E r
  cases r with
  | cons r1 r2 =>
    rw [hs]
    refine assignInOrder_cons (wpAny_mono (h A S s _ L M E r1) (fun w0 s1 x => ?_) fun w0 w0 x => x)
    obtain ⟨S1, st1, ρ1, X1, E1, q1⟩ := x
    refine wpAny_mono (q1 A S1 s1 _ L X1.mod E1 (r2.mono X1.ext)) (fun w0 s2 x => ?_) fun w0 w0 x => x
    obtain ⟨S2, st2, ρ2, X2, E2, q2⟩ := x
    exact ⟨S2, st2, ρ2, X1.trans X2, E2, q2⟩
theorem as_tuple {W : Addr → Prop} {ts : List Expr} {kd : Nat} {pos : Pos} {ds : List PyData} {Q : Vars → Store → Prop} (h : AssJ g k W env ρ ts ds st Q) (hn : (assignEach ts env).length = ds.length := by rfl)
    (hs : (assignEach ts env).findIdx? (·.1) = none := by rfl) : AsJ g k W env ρ (.Tuple ts kd pos) (.dat (.tuple ds)) st Q := by
  intro A S s v L M E r
  cases r with
  | tuple h1 r1 =>
    have ht := to_isTup (M.sub _ _ h1)
    refine assign_Tuple_tuple L.1 ht (by rw [List.size_toArray, r1.length]; exact hn) hs fun h' he => ?_
    have hk : ∀ b o, s.heap.get? b = some o → h'.get? b = some o := fun b o e => he b o (Nat.ne_of_lt (Heap.lt_size e)) e
    have X : Ext g W S st s S st { s with heap := h' } := ext_all (tk := s.toks) M hk
    have X0 : Ext g NoW S st s S st { s with heap := h' } := ext_all (tk := s.toks) M hk
    refine wpAny_mono (h A S _ _ L X.mod (E.ext X0 no_nw) r1) (fun w0 s1 x => ?_) fun w0 w0 x => x
    obtain ⟨S1, st1, ρ1, X1, E1, q1⟩ := x
    exact ⟨S1, st1, ρ1, X.trans X1, E1, q1⟩

theorem ex_nil {Q : Fl → Vars → Store → Prop} (q : Q .next ρ st) : ExJ g k env ρ [] st Q := by
  intro A S s L M E
  exact wpAny_execs_nil ⟨S, st, ρ, .next, .refl M, E, trivial, q⟩
theorem ex_cons {c : Stmt} {cs : List Stmt} {Q : Fl → Vars → Store → Prop} (h : SmJ g k env ρ c st (kNext g k env cs Q)) :
    ExJ g k env ρ (c :: cs) st Q := by
  intro A S s L M E
  refine wpAny_execs_cons (wpAny_mono (h A S s L M E) (fun f s1 x => ?_) fun w0 w0 x => x)
  obtain ⟨S1, st1, ρ1, fl, X1, E1, rf, q1⟩ := x
  cases f <;> cases fl <;> first | exact rf.elim | skip
  · exact wpAny_mono (q1 A S1 s1 L X1.mod E1) (fun f s' x => x.after X1) fun w0 w0 x => x
  · exact ⟨S1, st1, ρ1, .brk, X1, E1, rf, q1⟩
  · exact ⟨S1, st1, ρ1, .cont, X1, E1, rf, q1⟩
  · exact ⟨S1, st1, ρ1, .ret _, X1, E1, rf, q1⟩

theorem sm_assign {x : Str} {p pos : Pos} {e : Expr} {Q : Fl → Vars → Store → Prop} (hw : Wr env x) (h : EvJ g k env ρ e st (kSet ρ x Q))
    (hs : swapsWith e (some (.Name x p)) pos.line env = pure false := by rfl) : SmJ g k env ρ (.Assign [.Name x p] e pos) st Q := by
  intro A S s L M E
  refine wpAny_Assign_Name (wpAny_mono (h A S s L M E) (fun v s1 y => ?_) fun w0 w0 x => x) hs
  obtain ⟨S1, st1, d, X1, r1, q1⟩ := y
  refine store_var X1.mod (E.ext X1 no_nw) hw.own r1 fun s2 X2 E2 => ?_
  exact ⟨S1, st1, _, .next, (X1.wider fun w0 f => f.elim).trans X2, E2, trivial, q1⟩

theorem sm_aug {x : Str} {p pos : Pos} {e : Expr} {i : Int} {Q : Fl → Vars → Store → Prop} (hx : ρ x = some (.dat (.int i))) (hw : Wr env x)
    (h : EvJ g k env ρ e st (kAug ρ x i Q)) : SmJ g k env ρ (.AugAssign (.Name x p) .Add e pos) st Q := by
  intro A S s L M E
  obtain ⟨m, cm, h1, h2, h3⟩ := E.ex
  obtain ⟨v, r, c⟩ := h3 x _ hx
  cases r with
  | int i t =>
    have fin : wpAny (model g.prog g.w) A (eval e env) (fun v s₂ => wpAny (model g.prog g.w) A (inplaceOp .Add (.int i t) v) (fun r s₃ => wpAny (model g.prog g.w) A (storeName env x r) (fun w0 => EndS g S st env s Q .next) E0 s₃) E0 s₂) E0 s := by
      refine wpAny_mono (h A S s L M E) (fun v s1 y => ?_) fun w0 w0 x => x
      obtain ⟨S1, st1, d, X1, r1, j, rfl, q1⟩ := y
      cases r1
      have X2 : Ext g NoW S1 st1 s1 S1 st1 { s1 with toks := s1.toks + 1 } := .tok X1.mod _
      refine wpAny_iadd_int ?_
      have X12 := X1.trans X2
      refine store_var X2.mod (E.ext X12 no_nw) hw.own (d := .dat (.int _)) (Rd.int _ _) fun s2 X3 E2 => ?_
      exact ⟨S1, st1, _, .next, (X12.wider fun w0 f => f.elim).trans X3, E2, trivial, q1⟩
    refine wpAny_AugAssign_Name ?_
    rcases c with ⟨a, b⟩ | ⟨a, ⟨c, hc⟩, b⟩
    · exact wpAny_loadName_local E.fn a h1 b fin
    · have hv : s.heap.IsCell c (some (.int i t)) := b ▸ h2 x c hc
      rcases a with a | ⟨a, hcd⟩
      · exact wpAny_loadName_cell E.fn a hc hv fin
      · exact wpAny_loadName_free E.fn a hc hv fin hcd

theorem sm_augSub {x : Str} {p pos : Pos} {e : Expr} {i : Int} {Q : Fl → Vars → Store → Prop} (hx : ρ x = some (.dat (.int i))) (hw : Wr env x)
    (h : EvJ g k env ρ e st (kAugS ρ x i Q)) : SmJ g k env ρ (.AugAssign (.Name x p) .Sub e pos) st Q := by
  intro A S s L M E
  obtain ⟨m, cm, h1, h2, h3⟩ := E.ex
  obtain ⟨v, r, c⟩ := h3 x _ hx
  cases r with
  | int i t =>
    have fin : wpAny (model g.prog g.w) A (eval e env) (fun v s₂ => wpAny (model g.prog g.w) A (inplaceOp .Sub (.int i t) v) (fun r s₃ => wpAny (model g.prog g.w) A (storeName env x r) (fun w0 => EndS g S st env s Q .next) E0 s₃) E0 s₂) E0 s := by
      refine wpAny_mono (h A S s L M E) (fun v s1 y => ?_) fun w0 w0 x => x
      obtain ⟨S1, st1, d, X1, r1, j, rfl, q1⟩ := y
      cases r1
      have X2 : Ext g NoW S1 st1 s1 S1 st1 { s1 with toks := s1.toks + 1 } := .tok X1.mod _
      refine isub_int ?_
      have X12 := X1.trans X2
      refine store_var X2.mod (E.ext X12 no_nw) hw.own (d := .dat (.int _)) (Rd.int _ _) fun s2 X3 E2 => ?_
      exact ⟨S1, st1, _, .next, (X12.wider fun w0 f => f.elim).trans X3, E2, trivial, q1⟩
    refine wpAny_AugAssign_Name ?_
    rcases c with ⟨a, b⟩ | ⟨a, ⟨c, hc⟩, b⟩
    · exact wpAny_loadName_local E.fn a h1 b fin
    · have hv : s.heap.IsCell c (some (.int i t)) := b ▸ h2 x c hc
      rcases a with a | ⟨a, hcd⟩
      · exact wpAny_loadName_cell E.fn a hc hv fin
      · exact wpAny_loadName_free E.fn a hc hv fin hcd

theorem sm_return {e : Expr} {pos : Pos} {Q : Fl → Vars → Store → Prop} (h : EvJ g k env ρ e st (kRet ρ Q)) : SmJ g k env ρ (.Return (some e) pos) st Q := by
  intro A S s L M E
  refine wpAny_Return_some (wpAny_mono (h A S s L M E) (fun v s1 y => ?_) fun w0 w0 x => x)
  obtain ⟨S1, st1, d, X1, r1, q1⟩ := y
  exact ⟨S1, st1, ρ, .ret d, X1.wider fun w0 f => f.elim, E.ext X1 no_nw, r1, q1⟩

theorem sm_if {t : Expr} {b o : List Stmt} {pos : Pos} {Q : Fl → Vars → Store → Prop} (h : TrJ g k env ρ t st (kIf g k env ρ b o Q)) : SmJ g k env ρ (.If t b o pos) st Q := by
  intro A S s L M E
  refine wpAny_If (wpAny_mono (h A S s L M E) (fun c s1 y => ?_) fun w0 w0 x => x)
  obtain ⟨S1, st1, X1, q1⟩ := y
  have Xw : Ext g (Own env) S st s S1 st1 s1 := X1.wider fun w0 f => f.elim
  cases c with
  | true => exact wpAny_mono (q1 A S1 s1 L X1.mod (E.ext X1 no_nw)) (fun f s' x => x.after Xw) fun w0 w0 x => x
  | false => exact wpAny_mono (q1 A S1 s1 L X1.mod (E.ext X1 no_nw)) (fun f s' x => x.after Xw) fun w0 w0 x => x

theorem sm_tuple {ts : List Expr} {kd : Nat} {tp pos : Pos} {e : Expr} {Q : Fl → Vars → Store → Prop} (h : EvJ g k env ρ e st (kTup g k env ρ (.Tuple ts kd tp) Q))
    (hs : swapsWithSole [.Tuple ts kd tp] e pos.line env = pure false := by rfl) (hw : swappedStores [.Tuple ts kd tp] e env = pure none := by rfl) : SmJ g k env ρ (.Assign [.Tuple ts kd tp] e pos) st Q := by
  intro A S s L M E
  refine Assign_Tuple (wpAny_mono (h A S s L M E) (fun v s1 y => ?_) fun w0 w0 x => x) hs hw
  obtain ⟨S1, st1, d, X1, r1, q1⟩ := y
  refine wpAny_mono (q1 A S1 s1 v L X1.mod (E.ext X1 no_nw) r1) (fun w0 s2 y => ?_) fun w0 w0 x => x
  obtain ⟨S2, st2, ρ', X2, E2, q2⟩ := y
  exact ⟨S2, st2, ρ', .next, (X1.wider fun w0 f => f.elim).trans X2, E2, trivial, q2⟩
end
end Mine

namespace Mine
section
variable {g : Gr}

theorem RepAll.get {S : Fz} : ∀ {vs : List Value} {ds : List D} {k : Nat} {d : D}, RepAll g S vs ds → ds[k]? = some d → ∃ v, vs[k]? = some v ∧ Rep g S v d
  | _ :: _, _ :: _, 0, _, h, e => by simp at e; subst e; exact ⟨_, rfl, h.1⟩
  | _ :: _, _ :: _, k + 1, _, h, e => by simpa using RepAll.get h.2 (by simpa using e)
  | [], [], _, _, _, e => by simp at e
  | [], _ :: _, _, _, h, _ => h.elim
  | _ :: _, [], _, _, h, _ => h.elim
theorem RepAll.length {S : Fz} : ∀ {vs : List Value} {ds : List D}, RepAll g S vs ds → vs.length = ds.length
  | [], [], _ => rfl
  | _ :: _, _ :: _, h => by rw [List.length_cons, List.length_cons, RepAll.length h.2]
  | [], _ :: _, h => h.elim
  | _ :: _, [], h => h.elim
theorem repAll_dat {S : Fz} : ∀ {vs : List Value} {xs : List PyData}, RdAll S vs xs → RepAll g S vs (xs.map D.dat)
  | _, _, .nil => trivial
  | _, _, .cons h r => ⟨h, repAll_dat r⟩
theorem repAll_pcs {S : Fz} : ∀ {vs : List Value} {xs : List Pc}, RdPcs g S vs xs → RepAll g S vs (xs.map D.pc)
  | _, _, .nil => trivial
  | _, _, .cons h r => ⟨h, repAll_pcs r⟩

inductive TgName (t : Expr) : Prop
  | mk (x : Str) (p : Pos) (h : t = .Name x p)
inductive TgTup (t : Expr) : Prop
  | mk (ts : List Expr) (kd : Nat) (p : Pos) (h : t = .Tuple ts kd p)

structure Iter (g : Gr) (I : Value) (fp src : List Addr) (tg : Expr → Prop) (R : Fz → Store → Heap → List D → Prop) : Prop where
  stable : ∀ S S' st st' h h' rem, R S st h rem → Sub S S' → (∀ b ∈ fp, ∀ o, h.get? b = some o → h'.get? b = some o) → (∀ a ∈ src, st' a = st a) → R S' st' h' rem
  next : ∀ A k S st s x rem target (Q : Value → Shared → Prop), Lv k A → Mod g S st s.heap → R S st s.heap (x :: rem) → (∀ b ∈ fp, S b = none ∧ st b = none) → tg target →
    (∀ S' s' v, Ext g (fun a => a ∈ fp) S st s S' st s' → Rep g S' v x → R S' st s'.heap rem → Q v s') →
    wpAny (model g.prog g.w) A (pyNext I) (fun r s1 => match r with | none => False | some v => wpAny (model g.prog g.w) A (letOwnedTupleGo target I v) (fun w0 s2 => Q v s2) E0 s1) E0 s
  self : ∀ A S st s rem (Q : Value → Shared → Prop), Mod g S st s.heap → R S st s.heap rem → Q I s → wpAny (model g.prog g.w) A (pyIter I) Q E0 s
  fin : ∀ A k S st s (Q : Shared → Prop), Lv k A → Mod g S st s.heap → R S st s.heap [] →
    (∀ h' tk, (∀ b o, b ∉ fp → s.heap.get? b = some o → h'.get? b = some o) → Q { s with heap := h', toks := tk }) →
    wpAny (model g.prog g.w) A (pyNext I) (fun r s1 => match r with | none => Q s1 | some _ => False) E0 s

inductive SrcA (g : Gr) (S : Fz) (l : Addr) (ds : List D) : Prop
  | mk (vs : List Value) (n : Nat) (h1 : S l = some (Lo vs n)) (h2 : RepAll g S vs ds)
inductive SrcB (st : Store) (l : Addr) (src : List Addr) (ds : List D) : Prop
  | mk (xs : List PyData) (h1 : l ∈ src) (h2 : st l = some xs) (h3 : ds = xs.map D.dat)
inductive SrcOf (g : Gr) (S : Fz) (st : Store) (l : Addr) (src : List Addr) (ds : List D) : Prop
  | inl (h : SrcA g S l ds)
  | inr (h : SrcB st l src ds)

theorem SrcOf.at {S : Fz} {st : Store} {h : Heap} {l : Addr} {src : List Addr} {ds : List D} (M : Mod g S st h) (r : SrcOf g S st l src ds) : ∃ vs n, h.get? l = some (Lo vs n) ∧ RepAll g S vs ds := by
  rcases r with ⟨vs, n, h1, h2⟩ | ⟨xs, _, h1, rfl⟩
  · exact ⟨vs, n, M.sub _ _ h1, h2⟩
  · obtain ⟨_, vs, n, k1, k2⟩ := M.cell _ _ h1
    exact ⟨vs, n, k1, repAll_dat k2⟩
theorem SrcOf.mono {S S' : Fz} {st st' : Store} {l : Addr} {src : List Addr} {ds : List D} (r : SrcOf g S st l src ds) (hs : Sub S S') (hst : ∀ a ∈ src, st' a = st a) : SrcOf g S' st' l src ds := by
  rcases r with ⟨vs, n, h1, h2⟩ | ⟨xs, hl, h1, rfl⟩
  · exact .inl ⟨vs, n, hs _ _ h1, h2.mono hs⟩
  · exact .inr ⟨xs, hl, (hst _ hl).trans h1, rfl⟩

inductive RList (g : Gr) (I l : Addr) (src : List Addr) (S : Fz) (st : Store) (h : Heap) (rem : List D) : Prop
  | mk (i : Nat) (ds : List D) (h1 : h.IsListIter I l i) (h2 : SrcOf g S st l src ds) (h3 : rem = ds.drop i)

theorem drop_cons_get {α : Type} {l : List α} {i : Nat} {x : α} {r : List α} (h : x :: r = l.drop i) : l[i]? = some x ∧ r = l.drop (i + 1) := by
  have h1 : (l.drop i)[0]? = some x := by rw [← h]; rfl
  have h2 : (l.drop i).drop 1 = r := by rw [← h]; rfl
  rw [List.getElem?_drop] at h1
  rw [List.drop_drop] at h2
  exact ⟨by simpa using h1, h2.symm⟩
theorem drop_nil_get {α : Type} {l : List α} {i : Nat} (h : [] = l.drop i) : l[i]? = none := by
  have := List.drop_eq_nil_iff.mp h.symm
  exact List.getElem?_eq_none this

theorem letOwned_name {A : Around} {E : Value → Shared → Prop} {s : Shared} {M : Model} {x : Str} {p : Pos} {I v : Value} {Q : Unit → Shared → Prop} (h : Q () s) : wpAny M A (letOwnedTupleGo (.Name x p) I v) Q E s := wpAny_pure h

theorem ext_but' {st : Store} {S : Fz} {s : Shared} {fp : List Addr} {h' : Heap} {tk : Nat} {b : Addr} (M : Mod g S st s.heap) (ho : ∀ b ∈ fp, S b = none ∧ st b = none) (hb : b ∈ fp) (hbs : (h'.get? b).isSome)
    (hk : ∀ a o, a ≠ b → s.heap.get? a = some o → h'.get? a = some o) : Ext g (fun a => a ∈ fp) S st s S st { s with heap := h', toks := tk } :=
  ext_but M (ho b hb).1 (ho b hb).2 hb hbs hk

theorem iter_list (I l : Addr) (src : List Addr) : Iter g (.ref I) [I] src (fun t => TgName t ∨ TgTup t) (RList g I l src) where
  stable := by
    rintro S S' st st' h h' rem ⟨i, ds, ⟨o, h1, r⟩, h2, rfl⟩ hs hk hst
    exact ⟨i, ds, ⟨o, hk I (.head _) o h1, r⟩, h2.mono hs hst, rfl⟩
  next := by
    rintro A k S st s x rem target Q L M ⟨i, ds, h1, h2, e⟩ ho ht q
    obtain ⟨vs, n, k1, k2⟩ := h2.at M
    obtain ⟨e1, e2⟩ := drop_cons_get e
    obtain ⟨v, hv, rv⟩ := k2.get e1
    refine wpAny_pyNext_list_item h1 (lo_isList k1) (by simpa using hv) fun h' hi hs => ?_
    have hIs : (h'.get? I).isSome := by obtain ⟨o, ho, _⟩ := hi; rw [ho]; rfl
    have X : Ext g (fun a => a ∈ [I]) S st s S st { s with heap := h' } := ext_but' (tk := s.toks) M ho (.head _) hIs (fun a o ha e => (hs.2 a ha).trans e)
    have fin := q S { s with heap := h' } v X rv ⟨i + 1, ds, hi, h2, e2⟩
    rcases ht with ⟨y, p, rfl⟩ | ⟨ts, kd, p, rfl⟩
    · exact letOwned_name fin
    · by_cases hr : ∃ T, v = .ref T
      · obtain ⟨T, rfl⟩ := hr
        exact wpAny_letOwnedTupleGo_listiter hi fin
      · have : letOwnedTupleGo (.Tuple ts kd p) (.ref I) v = pure () := by
          cases v <;> first | rfl | exact absurd ⟨_, rfl⟩ hr
        exact wpAny_of_eq this fin
  self := by
    rintro A S st s rem Q M ⟨i, ds, h1, h2, e⟩ q
    exact wpAny_pyIter_listiter h1 q
  fin := by
    rintro A k S st s Q L M ⟨i, ds, h1, h2, e⟩ q
    obtain ⟨vs, n, k1, k2⟩ := h2.at M
    have hn : vs[i]? = none := by
      have := drop_nil_get e
      rw [List.getElem?_eq_none_iff] at this ⊢
      rw [k2.length]; exact this
    refine wpAny_pyNext_list_end L.1 h1 (lo_isList k1) (by simpa using hn) fun h' he => ?_
    exact q h' s.toks fun b o hb e => he b o (by simpa using hb) e

inductive RTup (g : Gr) (I l : Addr) (S : Fz) (st : Store) (h : Heap) (rem : List D) : Prop
  | mk (i : Nat) (vs : List Value) (n : Nat) (ds : List D) (h1 : IsTupIter h I l i) (h2 : S l = some (To vs n)) (h3 : RepAll g S vs ds) (h4 : rem = ds.drop i)

theorem iter_tup (I l : Addr) (src : List Addr) : Iter g (.ref I) [I] src TgName (RTup g I l) where
  stable := by
    rintro S S' st st' h h' rem ⟨i, vs, n, ds, ⟨o, h1, r⟩, h2, h3, rfl⟩ hs hk hst
    exact ⟨i, vs, n, ds, ⟨o, hk I (.head _) o h1, r⟩, hs _ _ h2, h3.mono hs, rfl⟩
  next := by
    rintro A k S st s x rem target Q L M ⟨i, vs, n, ds, h1, h2, h3, e⟩ ho ht q
    obtain ⟨e1, e2⟩ := drop_cons_get e
    obtain ⟨v, hv, rv⟩ := h3.get e1
    refine next_tuple_item h1 (to_isTup (M.sub _ _ h2)) (by simpa using hv) fun h' hi hs => ?_
    have hIs : (h'.get? I).isSome := by obtain ⟨o, ho, _⟩ := hi; rw [ho]; rfl
    have X : Ext g (fun a => a ∈ [I]) S st s S st { s with heap := h' } := ext_but' (tk := s.toks) M ho (.head _) hIs (fun a o ha e => (hs.2 a ha).trans e)
    have fin := q S { s with heap := h' } v X rv ⟨i + 1, vs, n, ds, hi, h2, h3, e2⟩
    obtain ⟨y, p, rfl⟩ := ht
    exact letOwned_name fin
  self := by
    rintro A S st s rem Q M ⟨i, vs, n, ds, h1, h2, h3, e⟩ q
    exact wpAny_pyIter_tupleiter h1 q
  fin := by
    rintro A k S st s Q L M ⟨i, vs, n, ds, h1, h2, h3, e⟩ q
    have hn : vs[i]? = none := by
      have := drop_nil_get e
      rw [List.getElem?_eq_none_iff] at this ⊢
      rw [h3.length]; exact this
    refine next_tuple_end L.1 h1 (to_isTup (M.sub _ _ h2)) (by simpa using hn) fun h' he => ?_
    exact q h' s.toks fun b o hb e => he b o (by simpa using hb) e

noncomputable def numsD (a : Int) : Nat → List D
  | 0 => []
  | n + 1 => .dat (.int a) :: numsD (a + 1) n

inductive RRange (I : Addr) (S : Fz) (st : Store) (h : Heap) (rem : List D) : Prop
  | mk (a : Int) (n : Nat) (h1 : IsRangeIter h I a n 1) (h2 : rem = numsD a n)

theorem iter_range (I : Addr) (src : List Addr) : Iter g (.ref I) [I] src TgName (RRange I) where
  stable := by
    rintro S S' st st' h h' rem ⟨a, n, h1, rfl⟩ hs hk hst
    exact ⟨a, n, hk I (.head _) _ h1, rfl⟩
  next := by
    rintro A k S st s x rem target Q L M ⟨a, n, h1, e⟩ ho ht q
    cases n with
    | zero => cases e
    | succ n =>
      cases e
      refine wpAny_pyNext_range_item h1 (by omega) fun h' hi hs => ?_
      have hIs : (h'.get? I).isSome := by rw [hi]; rfl
      have X : Ext g (fun a => a ∈ [I]) S st s S st { s with heap := h', toks := s.toks + 1 } := ext_but' M ho (.head _) hIs (fun a o ha e => (hs.2 a ha).trans e)
      have fin := q S { s with heap := h', toks := s.toks + 1 } (.int a s.toks) X (Rd.int a _) ⟨a + 1, n, by rw [show ((n : Nat) : Int) = ((n + 1 : Nat) : Int) - 1 by omega]; exact hi, rfl⟩
      obtain ⟨y, p, rfl⟩ := ht
      exact letOwned_name fin
  self := by
    rintro A S st s rem Q M ⟨a, n, h1, e⟩ q
    exact wpAny_pyIter_rangeiter h1 q
  fin := by
    rintro A k S st s Q L M ⟨a, n, h1, e⟩ q
    cases n with
    | succ n => cases e
    | zero =>
      refine wpAny_pyNext_range_end L.1 h1 (by omega) fun h' he => ?_
      exact q h' s.toks fun b o hb e => he b o (by simpa using hb) e

noncomputable def enums (i : Nat) : List PyData → List D
  | [] => []
  | p :: r => .dat (.tuple [.int i, p]) :: enums (i + 1) r

inductive REnum (g : Gr) (I J l : Addr) (src : List Addr) (S : Fz) (st : Store) (h : Heap) (rem : List D) : Prop
  | mk (i : Nat) (xs : List PyData) (old : Value) (h1 : IsEnum h I J i old) (h2 : h.IsListIter J l i) (h3 : SrcOf g S st l src (xs.map D.dat)) (h4 : rem = enums i (xs.drop i))

theorem enums_cons {i : Nat} {l : List PyData} {x : D} {r : List D} (h : x :: r = enums i (l.drop i)) : ∃ p, l[i]? = some p ∧ x = .dat (.tuple [.int i, p]) ∧ r = enums (i + 1) (l.drop (i + 1)) := by
  cases hd : l.drop i with
  | nil => rw [hd] at h; cases h
  | cons p q =>
    rw [hd] at h
    cases h
    obtain ⟨a, b⟩ := drop_cons_get hd.symm
    exact ⟨p, a, rfl, by rw [b]⟩
theorem enums_nil {i : Nat} {l : List PyData} (h : [] = enums i (l.drop i)) : l[i]? = none := by
  cases hd : l.drop i with
  | nil => exact drop_nil_get hd.symm
  | cons p q => rw [hd] at h; cases h

theorem iter_enum (I J l : Addr) (hIJ : I ≠ J) (src : List Addr) : Iter g (.ref I) [I, J] src TgTup (REnum g I J l src) where
  stable := by
    rintro S S' st st' h h' rem ⟨i, xs, old, h0, ⟨o, h1, r⟩, h2, rfl⟩ hs hk hst
    exact ⟨i, xs, old, hk I (.head _) _ h0, ⟨o, hk J (.tail _ (.head _)) o h1, r⟩, h2.mono hs hst, rfl⟩
  next := by
    rintro A k S st s x rem target Q L M ⟨i, xs, old, h0, h1, h2, e⟩ ho ht q
    obtain ⟨vs, n, k1, k2⟩ := h2.at M
    obtain ⟨p, e1, rfl, e2⟩ := enums_cons e
    obtain ⟨v, hv, rv⟩ := k2.get (d := .dat p) (by rw [List.getElem?_map, e1]; rfl)
    refine wpAny_pyNext_enum_item h0 h1 (lo_isList k1) (by simpa using hv) hIJ fun h' a1 a2 a3 a4 a5 => ?_
    obtain ⟨ts, kd, pp, rfl⟩ := ht
    refine wpAny_letOwnedTupleGo_enum a1 fun h'' b1 b2 => ?_
    have hT : h''.get? s.heap.objs.size = some (To [.int i s.toks, v] 0) := (b2.2 _ (Nat.ne_of_gt (Heap.lt_size h0))).trans a3
    have hJ : h''.IsListIter J l (i + 1) := a2.extBut b2.extBut (Ne.symm hIJ)
    have kp : ∀ b o, b ≠ I → b ≠ J → s.heap.get? b = some o → h''.get? b = some o := fun b o c1 c2 e => (b2.2 b c1).trans (a5 b o c1 c2 e)
    have hno : s.heap.get? s.heap.objs.size = none := Heap.get?_none_of_le (Nat.le_refl _)
    have hSn : S s.heap.objs.size = none := by cases q : S s.heap.objs.size with | none => rfl | some o' => have := M.sub _ o' q; rw [hno] at this; cases this
    let S' : Fz := fun b => if b = s.heap.objs.size then some (To [.int i s.toks, v] 0) else S b
    have hsub : Sub S S' := fun b o' e => by
      show (if b = s.heap.objs.size then _ else S b) = some o'
      by_cases hb : b = s.heap.objs.size
      · subst hb; rw [hSn] at e; cases e
      · rw [if_neg hb]; exact e
    have offI := ho I (.head _)
    have offJ := ho J (.tail _ (.head _))
    have X : Ext g (fun a => a ∈ [I, J]) S st s S' st { s with heap := h'', toks := s.toks + 1 } := by
      refine ⟨⟨_, _, rfl⟩, hsub, ⟨fun b o' e => hsub _ _ (M.base b o' e), fun b o' e => ?_, fun b ys e => ?_⟩, fun b o e w0 hn => ?_, fun b hb hn' => ?_, fun b hb hn' => absurd hn' hb, fun b e => ?_⟩
      · by_cases hb : b = s.heap.objs.size
        · subst hb
          have e' : (if s.heap.objs.size = s.heap.objs.size then some (To [.int i s.toks, v] 0) else S s.heap.objs.size) = some o' := e
          rw [if_pos rfl] at e'; cases e'; exact hT
        · have e' : (if b = s.heap.objs.size then some (To [.int i s.toks, v] 0) else S b) = some o' := e
          rw [if_neg hb] at e'
          exact kp b o' (by rintro rfl; rw [offI.1] at e'; cases e') (by rintro rfl; rw [offJ.1] at e'; cases e') (M.sub b o' e')
      · obtain ⟨c1, vs', n', c2, c3⟩ := M.cell b ys e
        have hb : b ≠ s.heap.objs.size := by rintro rfl; rw [hno] at c2; cases c2
        exact ⟨by show (if b = s.heap.objs.size then _ else S b) = none; rw [if_neg hb]; exact c1, vs', n', kp b _ (by rintro rfl; rw [offI.2] at e; cases e) (by rintro rfl; rw [offJ.2] at e; cases e) c2, c3.mono hsub⟩
      · exact kp b o (by rintro rfl; exact hn (.head _)) (by rintro rfl; exact hn (.tail _ (.head _))) e
      · by_cases hb' : b = s.heap.objs.size
        · subst hb'; exact .inl hno
        · have e' : (if b = s.heap.objs.size then some (To [.int i s.toks, v] 0) else S b) ≠ none := hb
          rw [if_neg hb'] at e'; exact absurd hn' e'
      · obtain ⟨o', e'⟩ := Option.isSome_iff_exists.mp e
        show (h''.get? b).isSome
        by_cases c1 : b = I
        · subst c1; rw [show h''.get? b = _ from b1]; rfl
        · by_cases c2 : b = J
          · subst c2; obtain ⟨o, hh, _⟩ := hJ; rw [hh]; rfl
          · rw [kp b o' c1 c2 e']; rfl
    have rv' : Rd S v p := rv
    exact q S' _ _ X (Rd.tuple (vs := [.int i s.toks, v]) (n := 0) (if_pos rfl) (.cons (.int _ _) (.cons (rv'.mono hsub) .nil))) ⟨i + 1, xs, v, b1, hJ, h2.mono hsub fun w0 w0 => rfl, e2⟩
  self := by
    rintro A S st s rem Q M ⟨i, xs, old, h0, h1, h2, e⟩ q
    exact wpAny_pyIter_enum h0 q
  fin := by
    rintro A k S st s Q L M ⟨i, xs, old, h0, h1, h2, e⟩ q
    obtain ⟨vs, n, k1, k2⟩ := h2.at M
    have hn : vs[i]? = none := by
      have := enums_nil e
      rw [List.getElem?_eq_none_iff] at this ⊢
      rw [k2.length, List.length_map]; exact this
    refine wpAny_pyNext_enum_end L.1 h0 h1 (lo_isList k1) (by simpa using hn) fun h' he => ?_
    exact q h' s.toks fun b o hb e => he b o (fun c => hb (by rw [c]; exact .tail _ (.head _))) e
end
end Mine

namespace Mine
section
variable {g : Gr} {k : Nat} {env : Env} {ρ : Vars} {st : Store}

inductive EndI (g : Gr) (S : Fz) (st : Store) (s : Shared) (tgt : Expr) (Q : List D → List Addr → Store → Prop) (it : Value) (s2 : Shared) : Prop
  | mk (S' : Fz) (st' : Store) (fp src : List Addr) (tg : Expr → Prop) (R : Fz → Store → Heap → List D → Prop) (ds : List D) (IT : Iter g it fp src tg R) (ht : tg tgt) (X : Ext g NoW S st s S' st' s2) (hR : R S' st' s2.heap ds)
      (hf : ∀ b ∈ fp, S' b = none ∧ st' b = none ∧ s.heap.get? b = none ∧ (s2.heap.get? b).isSome) (q : Q ds src st')
noncomputable def ItJ (g : Gr) (k : Nat) (env : Env) (ρ : Vars) (e : Expr) (tgt : Expr) (st : Store) (Q : List D → List Addr → Store → Prop) : Prop :=
  ∀ A S s, Lv k A → Mod g S st s.heap → EnvM g S st env ρ s.heap →
    wpAny (model g.prog g.w) A (eval e env) (fun xv s1 => wpAny (model g.prog g.w) A (pyIter xv) (fun it s2 => EndI g S st s tgt Q it s2) E0 s1) E0 s

theorem Ext.narrow {W : Addr → Prop} {fp : List Addr} {S S' : Fz} {st' : Store} {s s' : Shared} (h : Ext g (fun a => W a ∨ a ∈ fp) S st s S' st' s') (hf : ∀ b ∈ fp, s.heap.get? b = none) : Ext g W S st s S' st' s' :=
  ⟨h.same, h.ext, h.mod, fun a o e hs hn => h.keep a o e hs fun x => x.elim hn fun x => (by rw [hf a x] at e; cases e), h.freshS, h.freshC, h.alive⟩

theorem Ext.drop {W : Addr → Prop} {fp : List Addr} {S S' : Fz} {st' : Store} {s s' : Shared} {h' : Heap} {tk : Nat} (h : Ext g W S st s S' st' s') (hf : ∀ b ∈ fp, S' b = none ∧ st' b = none ∧ s.heap.get? b = none)
    (hk : ∀ b o, b ∉ fp → s'.heap.get? b = some o → h'.get? b = some o) : Ext g W S st s S' st' { s' with heap := h', toks := tk } := by
  obtain ⟨h1, tk1, e1⟩ := h.same
  refine ⟨⟨h', tk, by rw [e1]⟩, h.ext, ⟨h.mod.base, fun a o e => hk a o (fun x => by rw [(hf a x).1] at e; cases e) (h.mod.sub a o e), fun a xs e => ?_⟩, fun a o e hs hn => ?_, h.freshS, h.freshC, fun a e => ?_⟩
  · obtain ⟨c1, vs, n, c2, c3⟩ := h.mod.cell a xs e
    exact ⟨c1, vs, n, hk a _ (fun x => by rw [(hf a x).2.1] at e; cases e) c2, c3⟩
  · exact hk a o (fun x => by rw [(hf a x).2.2] at e; cases e) (h.keep a o e hs hn)
  · obtain ⟨o, e'⟩ := Option.isSome_iff_exists.mp (h.alive a e)
    show (h'.get? a).isSome
    rw [hk a o (fun x => by rw [(hf a x).2.2] at e; cases e) e']; rfl

theorem EnvM.keepAll {S : Fz} {h h' : Heap} (E : EnvM g S st env ρ h) (hk : ∀ a o, Own env a → h.get? a = some o → h'.get? a = some o) : EnvM g S st env ρ h' := by
  obtain ⟨m, cm, h1, h2, h3⟩ := E.ex
  refine ⟨E.fn, E.glob, E.blt, ⟨m, cm, ?_, fun n c e => ?_, h3⟩, fun a ha => ?_, E.apart, E.lc⟩
  · obtain ⟨o, es, ep, ho, r⟩ := h1
    exact ⟨o, es, ep, hk _ _ (.inl rfl) ho, r⟩
  · obtain ⟨o, ho, r⟩ := h2 n c e
    exact ⟨o, hk _ _ (.inr ⟨n, e⟩) ho, r⟩
  · obtain ⟨a1, a2, a3⟩ := E.off a ha
    obtain ⟨o, e⟩ := Option.isSome_iff_exists.mp a3
    exact ⟨a1, a2, by rw [hk a o ha e]; rfl⟩

noncomputable abbrev PI := List D → List Addr → Store → Prop
noncomputable abbrev kFQ (Inv : List D → Vars → Store → Prop) (rem : List D) (src : List Addr) (st' : Store) (Q : PS) : PS := fun f ρ2 st2 => match f with
        | .next => Inv rem ρ2 st2 ∧ ∀ a ∈ src, st2 a = st' a
        | .cont => Inv rem ρ2 st2 ∧ ∀ a ∈ src, st2 a = st' a
        | .brk => Q .next ρ2 st2
        | .ret d => Q (.ret d) ρ2 st2
noncomputable abbrev kEx (g : Gr) (k : Nat) (env : Env) (cs : List Stmt) (Q : PS) : PV := fun ρ1 st1 => ExJ g k env ρ1 cs st1 Q
inductive kFor (g : Gr) (k : Nat) (env : Env) (ρ : Vars) (t : Expr) (body : List Stmt) (Q : PS) (ds : List D) (src : List Addr) (st1 : Store) : Prop
  | mk (Inv : List D → Vars → Store → Prop) (h0 : Inv ds ρ st1)
      (step : ∀ x rem ρ' st', Inv (x :: rem) ρ' st' → AsJ g k (Own env) env ρ' t x st' (kEx g k env body (kFQ Inv rem src st' Q)))
      (fin : ∀ ρ' st', Inv [] ρ' st' → Q .next ρ' st')
noncomputable abbrev kWQ (Inv : Nat → Vars → Store → Prop) (n : Nat) (Q : PS) : PS := fun f ρ2 st2 => match f with
        | .next => ∃ m, m < n ∧ Inv m ρ2 st2
        | .cont => ∃ m, m < n ∧ Inv m ρ2 st2
        | .brk => Q .next ρ2 st2
        | .ret d => Q (.ret d) ρ2 st2
noncomputable abbrev kWh (g : Gr) (k : Nat) (env : Env) (ρ' : Vars) (body : List Stmt) (Inv : Nat → Vars → Store → Prop) (n : Nat) (Q : PS) : PB := fun b st1 => if b then ExJ g k env ρ' body st1 (kWQ Inv n Q) else Q .next ρ' st1
inductive LpF (g : Gr) (S : Fz) (st : Store) (env : Env) (s : Shared) (fp : List Addr) (R : Fz → Store → Heap → List D → Prop) (Inv : List D → Vars → Store → Prop) (n : Nat) (s' : Shared) : Prop
  | mk (S' : Fz) (st' : Store) (ρ' : Vars) (rem : List D) (hn : n = rem.length) (X : Ext g (fun a => Own env a ∨ a ∈ fp) S st s S' st' s') (E : EnvM g S' st' env ρ' s'.heap) (hR : R S' st' s'.heap rem) (hf : ∀ b ∈ fp, S' b = none ∧ st' b = none ∧ (s'.heap.get? b).isSome) (hI : Inv rem ρ' st')
noncomputable abbrev LpN (I : Nat → Shared → Prop) (n : Nat) (s' : Shared) : Prop := ∃ m, m < n ∧ I m s'
inductive LpW (g : Gr) (S : Fz) (st : Store) (env : Env) (s : Shared) (Inv : Nat → Vars → Store → Prop) (n : Nat) (s' : Shared) : Prop
  | mk (S' : Fz) (st' : Store) (ρ' : Vars) (X : Ext g (Own env) S st s S' st' s') (E : EnvM g S' st' env ρ' s'.heap) (hI : Inv n ρ' st')
theorem sm_for {t i : Expr} {body : List Stmt} {pos : Pos} {Q : Fl → Vars → Store → Prop}
    (h : ItJ g k env ρ i t st (kFor g k env ρ t body Q))
    (hs : ∀ x, foldedSetIterable i env x = pure x := by intro _; rfl) : SmJ g k env ρ (.For t i body [] pos) st Q := by
  intro A S s L M E
  refine wpAny_For (wpAny_mono (h A S s L M E) (fun xv s1 y => wpAny_mono y (fun it s2 z => ?_) fun w0 w0 x => x) fun w0 w0 x => x) hs
  obtain ⟨S2, st2, fp, src, tg, R, ds, IT, ht, X2, hR, hf, Inv, hI, step, fin⟩ := z
  have hof : ∀ a, Own env a → a ∉ fp := fun a ha hm => by
    have := (E.off a ha).2.2
    rw [(hf a hm).2.2.1] at this; cases this
  refine codeAny_forLoop_any
    (LpF g S st env s fp R Inv)
    ?_ ds.length ⟨S2, st2, ρ, ds, rfl, X2.wider fun w0 f => f.elim, E.ext X2 no_nw, hR, fun b hb => ⟨(hf b hb).1, (hf b hb).2.1, (hf b hb).2.2.2⟩, hI⟩
  rintro n s' ⟨S', st', ρ', rem, rfl, X, E', hR', hf', hInv⟩
  cases rem with
  | nil =>
    refine wpAny_mono (IT.fin A k S' st' s' (fun s3 => EndS g S st env s Q .next s3) L X.mod hR' fun h' tk hk => ?_) (fun r s3 z => ?_) fun w0 w0 x => x.elim
    · have X' := X.narrow fun b hb => (hf b hb).2.2.1
      have X'' := X'.drop (tk := tk) (fun b hb => ⟨(hf' b hb).1, (hf' b hb).2.1, (hf b hb).2.2.1⟩) hk
      exact ⟨S', st', ρ', .next, X'', E'.keepAll fun a o ha e => hk a o (hof a ha) e, trivial, fin _ _ hInv⟩
    · cases r with
      | none => exact wpAny_execs_nil z
      | some v => exact z.elim
  | cons x rem =>
    refine wpAny_mono (IT.next A k S' st' s' x rem t (fun v s3 => wpAny (model g.prog g.w) A (assign t env v) (fun w0 s4 => wpAny (model g.prog g.w) A (execs body env) (fun f s5 => match f with
        | .next | .cont => LpN (LpF g S st env s fp R Inv) (x :: rem).length s5
        | .brk => EndS g S st env s Q .next s5
        | .ret v => EndS g S st env s Q (.ret v) s5) E0 s4) E0 s3) L X.mod hR' (fun b hb => ⟨(hf' b hb).1, (hf' b hb).2.1⟩) ht ?_) (fun r s3 z => ?_) fun w0 w0 x => x.elim
    · intro S3 s3 v X3 rv hR3
      have E3 : EnvM g S3 st' env ρ' s3.heap := E'.ext X3 fun a ha hm => hof a ha hm
      have f3 : ∀ b ∈ fp, S3 b = none ∧ st' b = none ∧ (s3.heap.get? b).isSome := fun b hb => by
        obtain ⟨c1, c2, c3⟩ := hf' b hb
        obtain ⟨d1, d2⟩ := X3.own c1 c2 c3
        exact ⟨d1, d2, X3.alive b c3⟩
      refine wpAny_mono (step x rem ρ' st' hInv A S3 s3 v L X3.mod E3 rv) (fun w0 s4 z => ?_) fun w0 w0 x => x
      obtain ⟨S4, st4, ρ4, X4, E4, q4⟩ := z
      refine wpAny_mono (q4 A S4 s4 L X4.mod E4) (fun f s5 z => ?_) fun w0 w0 x => x
      obtain ⟨S5, st5, ρ5, fl, X5, E5, rf, q5⟩ := z
      have X345 : Ext g (Own env) S3 st' s3 S5 st5 s5 := X4.trans X5
      have XX : Ext g (fun a => Own env a ∨ a ∈ fp) S st s S5 st5 s5 := (X.trans (X3.wider fun w0 h => .inr h)).trans (X345.wider fun w0 h => .inl h)
      have f5 : ∀ b ∈ fp, S5 b = none ∧ st5 b = none ∧ (s5.heap.get? b).isSome := fun b hb => by
        obtain ⟨c1, c2, c3⟩ := f3 b hb
        obtain ⟨d1, d2⟩ := X345.own c1 c2 c3
        exact ⟨d1, d2, X345.alive b c3⟩
      have nar : Ext g (Own env) S st s S5 st5 s5 := XX.narrow fun b hb => (hf b hb).2.2.1
      have kpf : ∀ b ∈ fp, ∀ o, s3.heap.get? b = some o → s5.heap.get? b = some o := fun b hb o e => X345.keep b o e (f3 b hb).2.1 fun ho => hof b ho hb
      cases f <;> cases fl <;> first | exact rf.elim | skip
      · exact ⟨rem.length, Nat.lt_succ_self _, S5, st5, ρ5, rem, rfl, XX, E5, IT.stable _ _ _ _ _ _ _ hR3 X345.ext kpf q5.2, f5, q5.1⟩
      · exact ⟨S5, st5, ρ5, .next, nar, E5, trivial, q5⟩
      · exact ⟨rem.length, Nat.lt_succ_self _, S5, st5, ρ5, rem, rfl, XX, E5, IT.stable _ _ _ _ _ _ _ hR3 X345.ext kpf q5.2, f5, q5.1⟩
      · exact ⟨S5, st5, ρ5, .ret _, nar, E5, rf, q5⟩
    · cases r with
      | none => exact z.elim
      | some v =>
        refine wpAny_mono z (fun w0 s4 z => wpAny_mono z (fun w0 s5 z => wpAny_mono z (fun f s6 z => ?_) fun w0 w0 x => x.elim) fun w0 w0 x => x.elim) fun w0 w0 x => x.elim
        cases f <;> exact z

theorem sm_while {t : Expr} {body : List Stmt} {pos : Pos} {Q : Fl → Vars → Store → Prop} (Inv : Nat → Vars → Store → Prop) (n0 : Nat) (h0 : Inv n0 ρ st)
    (step : ∀ n ρ' st', Inv n ρ' st' → TrJ g k env ρ' t st' (kWh g k env ρ' body Inv n Q)) : SmJ g k env ρ (.While t body [] pos) st Q := by
  intro A S s L M E
  refine wpAny_While (codeAny_whileLoop
    (LpW g S st env s Inv) ?_ n0 ⟨S, st, ρ, .refl M, E, h0⟩)
  rintro n s' ⟨S', st', ρ', X, E', hI⟩
  refine wpAny_mono (step n ρ' st' hI A S' s' L X.mod E') (fun b s2 z => ?_) fun w0 w0 x => x.elim
  obtain ⟨S2, st2, X2, q2⟩ := z
  have X2' : Ext g (Own env) S' st' s' S2 st2 s2 := X2.wider fun w0 f => f.elim
  cases b with
  | false =>
    simp only [Bool.false_eq_true, if_false] at q2 ⊢
    exact wpAny_execs_nil ⟨S2, st2, ρ', .next, X.trans X2', E'.ext X2 no_nw, trivial, q2⟩
  | true =>
    simp only [if_true] at q2 ⊢
    refine wpAny_mono (q2 A S2 s2 L X2.mod (E'.ext X2 no_nw)) (fun f s3 z => ?_) fun w0 w0 x => x.elim
    obtain ⟨S3, st3, ρ3, fl, X3, E3, rf, q3⟩ := z
    have XX := (X.trans X2').trans X3
    cases f <;> cases fl <;> first | exact rf.elim | skip
    · obtain ⟨m, hm, q⟩ := q3; exact ⟨m, hm, S3, st3, ρ3, XX, E3, q⟩
    · exact ⟨S3, st3, ρ3, .next, XX, E3, trivial, q3⟩
    · obtain ⟨m, hm, q⟩ := q3; exact ⟨m, hm, S3, st3, ρ3, XX, E3, q⟩
    · exact ⟨S3, st3, ρ3, .ret _, XX, E3, rf, q3⟩
end
end Mine

namespace Mine
section
variable {g : Gr} {k : Nat} {env : Env} {ρ : Vars} {st : Store}

noncomputable def Names (g : Gr) (x : Str) (v : Value) : Prop := g.mg x = some v ∨ (g.mg x = none ∧ g.mb x = some v)
noncomputable def CallOk (g : Gr) (f : Value) : Prop := keepIn g.K f = true ∨ (∃ id, f = .builtin id) ∨ ∃ T, f = .type T

theorem ns_at {S : Fz} {h : Heap} (M : Mod g S st h) {a : Addr} {m : Str → Option Value} (n : g.H0.Ns a m) : h.Ns a m := n.keeps fun b o e => M.sub b o (M.base b o e)

theorem name_glob {A : Around} {S : Fz} {s : Shared} {x : Str} {p : Pos} {v : Value} {Q : Value → Shared → Prop} (M : Mod g S st s.heap) (E : EnvM g S st env ρ s.heap) (hx : env.kindOf x = some .globalImplicit) (hn : Names g x v) (q : Q v s)
    (hd : (x == ("__debug__" : Str)) = false := by decide) : wpAny (model g.prog g.w) A (eval (.Name x p) env) Q E0 s := by
  refine Calls.Name_function_global E.fn hx ?_ hd
  rcases hn with h | ⟨h1, h2⟩
  · exact Calls.loadGlobal_global (by rw [E.glob]; exact ns_at M g.hg) h q
  · exact Calls.loadGlobal_builtin (by rw [E.glob]; exact ns_at M g.hg) h1 (by rw [E.blt]; exact ns_at M g.hb) h2 q

theorem keeps_any {M : Model} {f : Value} (hk : CallOk g f) (h : Heap) (X : g.K.In h) : ∃ kp, (kp = Keeper.frame ∨ kp = Keeper.machine ∨ kp = Keeper.boundFrame) ∧ Looks M h (keeperOf f) kp := by
  rcases hk with hk | ⟨id, rfl⟩ | ⟨T, rfl⟩
  · exact keeps_K hk h X
  · exact ⟨.machine, .inr (.inl rfl), Looks.of_pure rfl⟩
  · exact ⟨.machine, .inr (.inl rfl), Looks.of_pure rfl⟩

theorem backTo_cons (pos : Pos) (e : Expr) (es : List Expr) (env : Env) (hs : starEach (e :: es) env = (false, eval e env) :: starEach es env) : backTo pos (starEach (e :: es) env) = (false, eval e env) :: backTo pos (starEach es env) := by rw [hs]; rfl

theorem call_vals {A : Around} {S : Fz} {s : Shared} {pos : Pos} {f : Value} {first : List Value} {e : Expr} {es : List Expr} {Q1 : List D → Store → Prop} {P : Value → Shared → Prop} (L : Lv k A) (M : Mod g S st s.heap) (E : EnvM g S st env ρ s.heap)
    (hk : CallOk g f) (h : EvsJ g k env ρ (e :: es) st Q1)
    (next : ∀ S1 st1 s1 ds vs, Ext g NoW S st s S1 st1 s1 → RepAll g S1 vs ds → Q1 ds st1 → wpAny (model g.prog g.w) A (call f (first ++ vs)) P E0 s1)
    (hs : starEach (e :: es) env = (false, eval e env) :: starEach es env) (hp : (backTo pos (starEach es env)).any (·.1) = false) :
    wpAny (model g.prog g.w) A (callWith pos f first (backTo pos (starEach (e :: es) env)) []) P E0 s := by
  have h' := h pos A S s L M E
  rw [backTo_cons _ _ _ _ hs] at h' ⊢
  refine callWith_of (P := fun h => g.K.In h) (by show ((false || (backTo pos (starEach es env)).any (·.1)) || false) = false; rw [hp]; rfl) (keeps_any hk) (Calls.evalArgs_plain (wpAny_mono h' (fun vs s1 x => ?_) fun w0 w0 x => x))
  obtain ⟨S1, st1, ds, X1, r1, q1⟩ := x
  exact ⟨X1.mod.kin, next _ _ _ _ _ X1 r1 q1⟩

theorem call_to {A : Around} {S : Fz} {s : Shared} {x : Str} {p pos : Pos} {f : Value} {e : Expr} {es : List Expr} {Q1 : List D → Store → Prop} {P : Value → Shared → Prop} (L : Lv k A) (M : Mod g S st s.heap) (E : EnvM g S st env ρ s.heap)
    (hx : env.kindOf x = some .globalImplicit) (hn : Names g x f) (hk : CallOk g f) (h : EvsJ g k env ρ (e :: es) st Q1)
    (next : ∀ S1 st1 s1 ds vs, Ext g NoW S st s S1 st1 s1 → RepAll g S1 vs ds → Q1 ds st1 → wpAny (model g.prog g.w) A (call f vs) P E0 s1)
    (hs : starEach (e :: es) env = (false, eval e env) :: starEach es env) (hp : ∀ pos, (backTo pos (starEach es env)).any (·.1) = false) (hd : (x == ("__debug__" : Str)) = false) :
    wpAny (model g.prog g.w) A (eval (.Call (.Name x p) (e :: es) [] pos) env) P E0 s := by
  refine Call_Name rfl (name_glob M E hx hn ?_ hd)
  exact call_vals L M E hk h (fun S1 st1 s1 ds vs X r q => next S1 st1 s1 ds vs X r q) hs (hp _)

noncomputable abbrev kCall (g : Gr) (k : Nat) (f : Value) (Q : PE) : PL := fun ds st1 => CaJ g k f ds st1 Q
theorem ev_call {x : Str} {p pos : Pos} {f : Value} {e : Expr} {es : List Expr} {Q : D → Store → Prop} (hn : Names g x f) (hk : CallOk g f) (h : EvsJ g k env ρ (e :: es) st (kCall g k f Q))
    (hx : env.kindOf x = some .globalImplicit := by rfl) (hs : starEach (e :: es) env = (false, eval e env) :: starEach es env := by rfl) (hp : ∀ pos, (backTo pos (starEach es env)).any (·.1) = false := by intro _; rfl)
    (hd : (x == ("__debug__" : Str)) = false := by decide) : EvJ g k env ρ (.Call (.Name x p) (e :: es) [] pos) st Q := by
  intro A S s L M E
  refine call_to L M E hx hn hk h (fun S1 st1 s1 ds vs X r q => ?_) hs hp hd
  exact wpAny_mono (q A S1 s1 vs L X.mod r) (fun v s' x => x.after X) fun w0 w0 x => x

theorem ca_len {d : D} {xs : List PyData} {Q : D → Store → Prop} (l : LstOf st d xs) (hl : xs.length ≤ 1000000) (q : Q (.dat (.int xs.length)) st) : CaJ g k (.builtin "len") [d] st Q := by
  intro A S s vs L M r
  obtain ⟨v, hv, r'⟩ := repAll_one r
  clear r; subst hv; have r := r'
  obtain ⟨a, ws, n, rfl, h1, h2⟩ := l.at M r
  refine Calls.call_len_list (lo_isList h1) (by rw [List.size_toArray, h2.length]; (first | with_reducible exact Mine.zy1 (by assumption) (by decide) | omega)) ?_
  rw [List.size_toArray, h2.length]
  exact ⟨S, st, .dat (.int xs.length), .tok M _, Rd.int _ _, q⟩
theorem ca_lenP {ps : List Pc} {Q : D → Store → Prop} (hl : ps.length ≤ 1000000) (q : Q (.dat (.int ps.length)) st) : CaJ g k (.builtin "len") [.pcs ps] st Q := by
  intro A S s vs L M r
  obtain ⟨v, hv, r'⟩ := repAll_one r
  clear r; subst hv; have r := r'
  obtain ⟨a, ws, n, rfl, h1, h2⟩ := r
  refine Calls.call_len_list (lo_isList (M.sub _ _ h1)) (by rw [List.size_toArray, h2.length]; (first | with_reducible exact Mine.zy1 (by assumption) (by decide) | omega)) ?_
  rw [List.size_toArray, h2.length]
  exact ⟨S, st, .dat (.int ps.length), .tok M _, Rd.int _ _, q⟩
theorem ca_max2 {a b : Int} {Q : D → Store → Prop} (q : Q (.dat (.int (max a b))) st) : CaJ g k (.builtin "max") [.dat (.int a), .dat (.int b)] st Q := by
  intro A S s vs L M r
  obtain ⟨v, u, hv, r1, r2⟩ := repAll_two r
  subst hv
  cases r1; cases r2
  refine max_two_ints L.1 fun h' tk hk => ?_
  have X : Ext g NoW S st s S st { s with heap := h', toks := tk } := ext_all M hk
  by_cases hba : b > a
  · rw [if_pos hba]
    exact ⟨S, st, .dat (.int (max a b)), X, by rw [show max a b = b by omega]; exact Rd.int _ _, q⟩
  · rw [if_neg hba]
    exact ⟨S, st, .dat (.int (max a b)), X, by rw [show max a b = a by omega]; exact Rd.int _ _, q⟩
theorem ca_min2 {a b : Int} {Q : D → Store → Prop} (q : Q (.dat (.int (min a b))) st) : CaJ g k (.builtin "min") [.dat (.int a), .dat (.int b)] st Q := by
  intro A S s vs L M r
  obtain ⟨v, u, hv, r1, r2⟩ := repAll_two r
  subst hv
  cases r1; cases r2
  refine min_two_ints L.1 fun h' tk hk => ?_
  have X : Ext g NoW S st s S st { s with heap := h', toks := tk } := ext_all M hk
  by_cases hba : b < a
  · rw [if_pos hba]
    exact ⟨S, st, .dat (.int (min a b)), X, by rw [show min a b = b by omega]; exact Rd.int _ _, q⟩
  · rw [if_neg hba]
    exact ⟨S, st, .dat (.int (min a b)), X, by rw [show min a b = a by omega]; exact Rd.int _ _, q⟩

theorem intsAre_of {S : Fz} {vs : List Value} {ns : List Int} : RdAll S vs (ns.map .int) → IntsAre vs ns := by
  induction ns generalizing vs with
  | nil => intro r; cases r; exact .nil
  | cons n ns ih => intro r; cases r with | cons h r => cases h; exact .cons _ _ (ih r)
theorem ca_maxl {d : D} {ns : List Int} {Q : D → Store → Prop} (l : LstOf st d (ns.map .int)) (hne : 0 < ns.length) (q : ∀ m, m ∈ ns → (∀ a, a ∈ ns → a ≤ m) → Q (.dat (.int m)) st) : CaJ g k (.builtin "max") [d] st Q := by
  intro A S s vs L M r
  obtain ⟨v, hv, r'⟩ := repAll_one r
  clear r; subst hv; have r := r'
  obtain ⟨a, ws, n, rfl, h1, h2⟩ := l.at M r
  have hi := intsAre_of h2
  obtain ⟨xs, e⟩ := hi.allInts.items
  have hns : ns = xs.toList.map (·.1) := by rw [← hi.numsOf, ← nums_intItems, ← e]
  have hsz : 0 < xs.size := by
    have h3 := hne; rw [hns, List.length_map, Array.length_toList] at h3; exact h3
  have hl := lo_isList h1
  rw [e] at hl
  refine max_intList L.1 hl hsz fun v h' tk hv hk => ?_
  obtain ⟨t, rfl⟩ := intItems_at hv
  obtain ⟨b1, b2⟩ := argBest_gt (numAt xs) (xs.size - 1)
  refine ⟨S, st, .dat (.int _), ext_all M hk, Rd.int _ _, q _ ?_ fun a ha => ?_⟩
  · rw [hns, numAt_eq]; exact getD_mem (by rw [List.length_map, Array.length_toList]; (first | with_reducible exact Mine.zw8 (by assumption) (by assumption) | omega))
  · rw [hns] at ha
    obtain ⟨j, hj, rfl⟩ := mem_getD ha
    rw [List.length_map, Array.length_toList] at hj
    rw [← numAt_eq]; exact b2 j (by (first | with_reducible exact Mine.zw7 (by assumption) | omega))
theorem ca_list {d : D} {xs : List PyData} {Q : D → Store → Prop} (l : LstOf st d xs) (hl : xs.length ≤ 1000000) (q : Q (.dat (.list xs)) st) : CaJ g k (.type "list") [d] st Q := by
  intro A S s vs L M r
  obtain ⟨v, hv, r'⟩ := repAll_one r
  clear r; subst hv; have r := r'
  obtain ⟨a, ws, n, rfl, h1, h2⟩ := l.at M r
  refine call_list_seq a (T := "list") (.inl rfl) h1 rfl rfl (fun h' c' hk hn => ?_) (by rw [List.size_toArray, h2.length]; exact sizeLine_big hl)
  have hno : s.heap.get? s.heap.objs.size = none := Heap.get?_none_of_le (Nat.le_refl _)
  have hSn : S s.heap.objs.size = none := by cases q : S s.heap.objs.size with | none => rfl | some o' => have := M.sub _ o' q; rw [hno] at this; cases this
  let S' : Fz := fun b => if b = s.heap.objs.size then some (Lo ws c') else S b
  have hsub : Sub S S' := fun b o' e => by
    show (if b = s.heap.objs.size then _ else S b) = some o'
    by_cases hb : b = s.heap.objs.size
    · subst hb; rw [hSn] at e; cases e
    · rw [if_neg hb]; exact e
  refine ⟨S', st, .dat (.list xs), ⟨⟨h', s.toks, rfl⟩, hsub, ⟨fun b o' e => hsub _ _ (M.base b o' e), fun b o' e => ?_, fun b ys e => ?_⟩, fun b o e w0 w0 => hk b o e, fun b hb hn' => ?_, fun b hb hn' => absurd hn' hb, fun b e => ?_⟩, Rd.list (if_pos rfl) (h2.mono hsub), q⟩
  · by_cases hb : b = s.heap.objs.size
    · subst hb
      have e' : (if s.heap.objs.size = s.heap.objs.size then some (Lo ws c') else S s.heap.objs.size) = some o' := e
      rw [if_pos rfl] at e'; cases e'; exact hn
    · have e' : (if b = s.heap.objs.size then some (Lo ws c') else S b) = some o' := e
      rw [if_neg hb] at e'
      exact hk b o' (M.sub b o' e')
  · obtain ⟨c1, vs', n', c2, c3⟩ := M.cell b ys e
    have hb : b ≠ s.heap.objs.size := by rintro rfl; rw [hno] at c2; cases c2
    exact ⟨by show (if b = s.heap.objs.size then _ else S b) = none; rw [if_neg hb]; exact c1, vs', n', hk b _ c2, c3.mono hsub⟩
  · by_cases hb' : b = s.heap.objs.size
    · subst hb'; exact .inl hno
    · have e' : (if b = s.heap.objs.size then some (Lo ws c') else S b) ≠ none := hb
      rw [if_neg hb'] at e'; exact absurd hn' e'
  · obtain ⟨o', e'⟩ := Option.isSome_iff_exists.mp e
    show (h'.get? b).isSome
    rw [hk b o' e']; rfl

theorem boolAt {S : Fz} {vs : List Value} {bs : List Bool} {i : Nat} {v : Value} (r : RdAll S vs (bs.map .bool)) (h : vs[i]? = some v) : v = .bool (bs.getD i true) := by
  have hi : i < bs.length := by
    have h1 := (List.getElem?_eq_some_iff.mp h).1
    rw [r.length, List.length_map] at h1; exact h1
  obtain ⟨u, h1, h2⟩ := r.get (show (bs.map PyData.bool)[i]? = some (.bool bs[i]) by rw [List.getElem?_map, List.getElem?_eq_getElem hi]; rfl)
  rw [h] at h1; cases h1; cases h2
  rw [List.getD_eq_getElem?_getD, List.getElem?_eq_getElem hi]; rfl
theorem all_range (bs : List Bool) : (List.range bs.length).all (fun i => bs.getD i true) = bs.all id := by
  rw [Bool.eq_iff_iff, List.all_eq_true, List.all_eq_true]
  constructor
  · intro h x hx
    obtain ⟨i, hi, rfl⟩ := List.getElem_of_mem hx
    have := h i (List.mem_range.mpr hi)
    rw [List.getD_eq_getElem?_getD, List.getElem?_eq_getElem hi] at this
    exact this
  · intro h i hi
    have hi := List.mem_range.mp hi
    rw [List.getD_eq_getElem?_getD, List.getElem?_eq_getElem hi]
    exact h _ (List.getElem_mem hi)
theorem ca_all {d : D} {bs : List Bool} {Q : D → Store → Prop} (l : LstOf st d (bs.map .bool)) (q : Q (.dat (.bool (bs.all id))) st) : CaJ g k (.builtin "all") [d] st Q := by
  intro A S s vs L M r
  obtain ⟨v, hv, r'⟩ := repAll_one r
  clear r; subst hv; have r := r'
  obtain ⟨a, ws, n, rfl, h1, h2⟩ := l.at M r
  have hl := lo_isList h1
  have hlen : ws.length = bs.length := by rw [h2.length, List.length_map]
  have hne : a ≠ s.heap.objs.size := Nat.ne_of_lt (Heap.lt_size h1)
  refine call_all_walk (wpAny_pyIter_list hl ?_)
  refine ⟨s.heap.objs.size, _, _, ws.toArray.size, _, _, fun i => bs.getD i true, rfl, Walks.list (A := A.in1) L.1 _ a hne ws.toArray, ⟨⟨_, Heap.get?_push_size _ rfl, rfl, rfl⟩, hl.push _⟩, fun i v s Q E hP hQ => ?_, fun h' tk hk => ?_⟩
  · have e := boolAt h2 (show ws[i]? = some v by simpa using hP)
    subst e
    exact wpAny_truthy_bool hQ
  · have hk' : ∀ b o, s.heap.get? b = some o → h'.get? b = some o := fun b o e => hk b o (by rw [List.mem_singleton]; exact Nat.ne_of_lt (Heap.lt_size e)) (Heap.get?_push_of_some _ e)
    rw [List.size_toArray, hlen, all_range]
    exact ⟨S, st, .dat (.bool _), ext_all M hk', Rd.bool _, q⟩
theorem ca_reprB {b : Bool} {Q : D → Store → Prop} (q : Q (.dat (.str (if b then "True" else "False"))) st) : CaJ g k (.builtin "repr") [.dat (.bool b)] st Q := by
  intro A S s vs L M r
  obtain ⟨v, hv, r'⟩ := repAll_one r
  clear r; subst hv; have r := r'
  cases r
  exact P.repr_of_bool ⟨S, st, .dat (.str _), .tok M _, Rd.str _ _, q⟩

inductive ListA (d : D) (src : List Addr) (ds : List D) : Prop
  | mk (xs : List PyData) (h1 : d = .dat (.list xs)) (h2 : src = []) (h3 : ds = xs.map .dat)
inductive ListB (st : Store) (d : D) (src : List Addr) (ds : List D) : Prop
  | mk (a : Addr) (xs : List PyData) (h1 : d = .cell a) (h2 : st a = some xs) (h3 : src = [a]) (h4 : ds = xs.map .dat)
inductive ListC (d : D) (src : List Addr) (ds : List D) : Prop
  | mk (ps : List Pc) (h1 : d = .pcs ps) (h2 : src = []) (h3 : ds = ps.map .pc)
inductive ListBC (st : Store) (d : D) (src : List Addr) (ds : List D) : Prop
  | inl (h : ListB st d src ds)
  | inr (h : ListC d src ds)
inductive ListD (st : Store) (d : D) (src : List Addr) (ds : List D) : Prop
  | inl (h : ListA d src ds)
  | inr (h : ListBC st d src ds)
theorem ListD.at {S : Fz} {h : Heap} {v : Value} {d : D} {src : List Addr} {ds : List D} (M : Mod g S st h) (r : Rep g S v d) (l : ListD st d src ds) : ∃ a, v = .ref a ∧ SrcOf g S st a src ds := by
  rcases l with ⟨xs, rfl, rfl, rfl⟩ | ⟨a, xs, rfl, e, rfl, rfl⟩ | ⟨ps, rfl, rfl, rfl⟩
  · cases r with
    | list h1 h2 => exact ⟨_, rfl, .inl ⟨_, _, h1, repAll_dat h2⟩⟩
  · exact ⟨a, r, .inr ⟨xs, .head _, e, rfl⟩⟩
  · obtain ⟨a, vs, n, rfl, h1, h2⟩ := r
    exact ⟨a, rfl, .inl ⟨vs, n, h1, repAll_pcs h2⟩⟩

theorem fresh_off {S : Fz} {s : Shared} (M : Mod g S st s.heap) {b : Addr} (h : s.heap.get? b = none) : S b = none ∧ st b = none := by
  constructor
  · cases q : S b with
    | none => rfl
    | some o' => have := M.sub b o' q; rw [h] at this; cases this
  · cases q : st b with
    | none => rfl
    | some ys => obtain ⟨_, _, _, k2, _⟩ := M.cell b ys q; rw [h] at k2; cases k2

inductive kIt (Q : PI) (d : D) (st1 : Store) : Prop
  | mk (ds : List D) (src : List Addr) (l : ListD st1 d src ds) (q : Q ds src st1)
structure Sml (b : Int) : Prop where
  lo : -1000000 ≤ b
  hi : b ≤ 1000000
theorem Sml.nat {n : Nat} (h : n ≤ 1000) : Sml (n : Int) := ⟨by (first | with_reducible exact Mine.zi3 | omega), by (first | with_reducible exact Mine.zi4 (by assumption) (by decide) | omega)⟩
inductive kR1 (Q : PI) (d : D) (st1 : Store) : Prop
  | mk (b : Int) (h : d = .dat (.int b)) (hs : Sml b) (q : Q (numsD 0 b.toNat) [] st1)
inductive kR22 (d1 : D) (Q : PI) (d2 : D) (st2 : Store) : Prop
  | mk (a b : Int) (h1 : d1 = .dat (.int a)) (h2 : d2 = .dat (.int b)) (hs1 : Sml a) (hs2 : Sml b) (q : Q (numsD a (b - a).toNat) [] st2)
noncomputable abbrev kR2 (g : Gr) (k : Nat) (env : Env) (ρ : Vars) (e2 : Expr) (Q : PI) : PE := fun d1 st1 => EvJ g k env ρ e2 st1 (kR22 d1 Q)
inductive kEn (Q : PI) (d : D) (st1 : Store) : Prop
  | mk (xs : List PyData) (src : List Addr) (l : ListD st1 d src (xs.map .dat)) (q : Q (enums 0 xs) src st1)
theorem it_list {e tgt : Expr} {Q : List D → List Addr → Store → Prop} (h : EvJ g k env ρ e st (kIt Q)) (ht : TgName tgt ∨ TgTup tgt) : ItJ g k env ρ e tgt st Q := by
  intro A S s L M E
  refine wpAny_mono (h A S s L M E) (fun xv s1 y => ?_) fun w0 w0 x => x
  obtain ⟨S1, st1, d, X1, r1, ds, src, hl, q⟩ := y
  obtain ⟨a, rfl, hs⟩ := hl.at X1.mod r1
  obtain ⟨vs, n, k1, k2⟩ := hs.at X1.mod
  refine wpAny_pyIter_list (lo_isList k1) ?_
  have hno : s1.heap.get? s1.heap.objs.size = none := Heap.get?_none_of_le (Nat.le_refl _)
  have X2 : Ext g NoW S1 st1 s1 S1 st1 { s1 with heap := s1.heap.push { cls := .type "list_iterator", data := .fields #[.ref a, .int 0 0] } } := ext_all (tk := s1.toks) X1.mod fun b o e => Heap.get?_push_of_some _ e
  refine ⟨S1, st1, [s1.heap.objs.size], src, _, _, ds, iter_list s1.heap.objs.size a src, ht, X1.trans X2, ⟨0, ds, ⟨_, Heap.get?_push_size _ rfl, rfl, rfl⟩, hs, by simp⟩, fun b hb => ?_, q⟩
  rw [List.mem_singleton] at hb
  subst hb
  obtain ⟨o1, o2⟩ := fresh_off X1.mod hno
  exact ⟨o1, o2, none_of_alive X1.alive hno, by show ((s1.heap.push _).get? _).isSome; rw [Heap.get?_push_size _ rfl]; rfl⟩

theorem ext_pushU {W : Addr → Prop} {S : Fz} {s : Shared} (M : Mod g S st s.heap) (o : Obj) (tk : Nat) : Ext g W S st s S st { s with heap := s.heap.push o, toks := tk } := ext_all M fun w0 w0 e => Heap.get?_push_of_some _ e

theorem it_range_core {A : Around} {S S1 : Fz} {st1 : Store} {s s1 : Shared} {r : Addr} {a b : Int} {t u v : Tok} {tgt : Expr} {Q : List D → List Addr → Store → Prop} (X1 : Ext g NoW S st s S1 st1 s1) (hr : IsRange s1.heap r a b 1 t u v)
    (ha : -1000000 ≤ a) (ha' : a ≤ 1000000) (hb : -1000000 ≤ b) (hb' : b ≤ 1000000) (ht : TgName tgt) (q : Q (numsD a (b - a).toNat) [] st1) :
    wpAny (model g.prog g.w) A (pyIter (.ref r)) (fun it s2 => EndI g S st s tgt Q it s2) E0 s1 := by
  refine wpAny_pyIter_range hr (small_one (by omega) (by (first | with_reducible exact Int.lt_of_le_of_lt (by assumption) (by decide) | omega)) (by omega) (by (first | with_reducible exact Int.lt_of_le_of_lt (by assumption) (by decide) | omega))) ?_
  have hno : s1.heap.get? s1.heap.objs.size = none := Heap.get?_none_of_le (Nat.le_refl _)
  have X2 : Ext g NoW S1 st1 s1 S1 st1 { s1 with heap := s1.heap.push { cls := .type "range_iterator", data := .fields #[rawInt a, rawInt (Builtin.Range.rangeSize a b 1), rawInt 1] } } := ext_all (tk := s1.toks) X1.mod fun b o e => Heap.get?_push_of_some _ e
  refine ⟨S1, st1, [s1.heap.objs.size], [], _, _, _, iter_range s1.heap.objs.size [], ht, X1.trans X2, ⟨a, (b - a).toNat, ?_, rfl⟩, fun b hb => ?_, q⟩
  · have e : Builtin.Range.rangeSize a b 1 = ((b - a).toNat : Int) := by rw [rangeSize_one]; split <;> (first | with_reducible exact Mine.zy6b (by assumption) | omega)
    show (s1.heap.push _).get? _ = _
    rw [Heap.get?_push_size _ rfl, e]
  · rw [List.mem_singleton] at hb
    subst hb
    obtain ⟨o1, o2⟩ := fresh_off X1.mod hno
    exact ⟨o1, o2, none_of_alive X1.alive hno, by show ((s1.heap.push _).get? _).isSome; rw [Heap.get?_push_size _ rfl]; rfl⟩

theorem it_range1 {x : Str} {p pos : Pos} {e tgt : Expr} {Q : List D → List Addr → Store → Prop} (hn : Names g x (.type "range"))
    (h : EvJ g k env ρ e st (kR1 Q)) (ht : TgName tgt := by exact ⟨_, _, rfl⟩)
    (hx : env.kindOf x = some .globalImplicit := by rfl) (hs : starEach [e] env = [(false, eval e env)] := by rfl)
    (hd : (x == ("__debug__" : Str)) = false := by decide) : ItJ g k env ρ (.Call (.Name x p) [e] [] pos) tgt st Q := by
  intro A S s L M E
  refine call_to L M E hx hn (.inr (.inr ⟨_, rfl⟩)) (evs_cons (Q := fun ds st1 => ∃ b, ds = [.dat (.int b)] ∧ -1000000 ≤ b ∧ b ≤ 1000000 ∧ Q (numsD 0 b.toNat) [] st1)
    (h.mono fun d st1 ⟨b, e, hs, q⟩ => evs_nil ⟨b, by rw [e], hs.lo, hs.hi, q⟩) hs) (fun S1 st1 s1 ds vs X r q => ?_) hs (fun w0 => rfl) hd
  obtain ⟨b, rfl, h1, h2, q⟩ := q
  obtain ⟨v, hv, r'⟩ := repAll_one r
  clear r; subst hv; have r := r'
  cases r
  refine call_range_1 ?_
  refine it_range_core (X.trans (ext_pushU X.mod _ _)) (IsRange.new ..) (by omega) (by omega) h1 h2 ht ?_
  rw [Int.sub_zero]; exact q
theorem it_range2 {x : Str} {p pos : Pos} {e1 e2 tgt : Expr} {Q : List D → List Addr → Store → Prop} (hn : Names g x (.type "range"))
    (h : EvJ g k env ρ e1 st (kR2 g k env ρ e2 Q)) (ht : TgName tgt := by exact ⟨_, _, rfl⟩)
    (hx : env.kindOf x = some .globalImplicit := by rfl) (hs : starEach [e1, e2] env = (false, eval e1 env) :: starEach [e2] env := by rfl) (hs2 : starEach [e2] env = [(false, eval e2 env)] := by rfl)
    (hd : (x == ("__debug__" : Str)) = false := by decide) : ItJ g k env ρ (.Call (.Name x p) [e1, e2] [] pos) tgt st Q := by
  intro A S s L M E
  refine call_to L M E hx hn (.inr (.inr ⟨_, rfl⟩)) (evs_cons (Q := fun ds st2 => ∃ a b, ds = [.dat (.int a), .dat (.int b)] ∧ -1000000 ≤ a ∧ a ≤ 1000000 ∧ -1000000 ≤ b ∧ b ≤ 1000000 ∧ Q (numsD a (b - a).toNat) [] st2)
    (h.mono fun d1 st1 h1 => evs_cons (h1.mono fun d2 st2 ⟨a, b, x1, x2, y1, y2, q⟩ => evs_nil ⟨a, b, by rw [x1, x2], y1.lo, y1.hi, y2.lo, y2.hi, q⟩) hs2) hs) (fun S1 st1 s1 ds vs X r q => ?_) hs (fun w0 => by rw [hs2]; rfl) hd
  obtain ⟨a, b, rfl, h1, h2, h3, h4, q⟩ := q
  match vs, r with
  | [v, u], ⟨r, r', _⟩ =>
    cases r; cases r'
    refine call_range_2 ?_
    exact it_range_core (X.trans (ext_pushU X.mod _ _)) (IsRange.new ..) h1 h2 h3 h4 ht q

theorem it_enum {x : Str} {p pos : Pos} {e tgt : Expr} {Q : List D → List Addr → Store → Prop} (hn : Names g x (.type "enumerate"))
    (h : EvJ g k env ρ e st (kEn Q)) (ht : TgTup tgt := by exact ⟨_, _, _, rfl⟩)
    (hx : env.kindOf x = some .globalImplicit := by rfl) (hs : starEach [e] env = [(false, eval e env)] := by rfl)
    (hd : (x == ("__debug__" : Str)) = false := by decide) : ItJ g k env ρ (.Call (.Name x p) [e] [] pos) tgt st Q := by
  intro A S s L M E
  refine call_to L M E hx hn (.inr (.inr ⟨_, rfl⟩)) (evs_cons (Q := fun ds st1 => ∃ d xs src, ds = [d] ∧ ListD st1 d src (xs.map .dat) ∧ Q (enums 0 xs) src st1)
    (h.mono fun d st1 ⟨xs, src, e, q⟩ => evs_nil ⟨d, xs, src, rfl, e, q⟩) hs) (fun S1 st1 s1 ds vs X r q => ?_) hs (fun w0 => rfl) hd
  obtain ⟨d, xs, src, rfl, hl, q⟩ := q
  obtain ⟨v, hv, r'⟩ := repAll_one r
  clear r; subst hv; have r := r'
  obtain ⟨a, rfl, hs⟩ := hl.at X.mod r
  obtain ⟨vs, n, k1, k2⟩ := hs.at X.mod
  refine call_enumerate_list (lo_isList k1) fun h' a1 a2 a3 a4 => ?_
  refine wpAny_pyIter_enum a1 ?_
  have hno : ∀ b, s1.heap.objs.size ≤ b → s1.heap.get? b = none := fun b hb => Heap.get?_none_of_le hb
  have X2 : Ext g NoW S1 st1 s1 S1 st1 { s1 with heap := h' } := ext_all (tk := s1.toks) X.mod a4
  refine ⟨S1, st1, [s1.heap.objs.size + 1, s1.heap.objs.size], src, _, _, _, iter_enum (s1.heap.objs.size + 1) s1.heap.objs.size a (Nat.succ_ne_self _) src, ht, X.trans X2, ⟨0, xs, .none, a1, a2, hs, by simp⟩, fun b hb => ?_, q⟩
  have hb' : s1.heap.objs.size ≤ b ∧ (h'.get? b).isSome := by
    rcases List.mem_cons.mp hb with rfl | hb
    · exact ⟨Nat.le_succ _, by rw [show h'.get? _ = _ from a1]; rfl⟩
    · rw [List.mem_singleton] at hb
      subst hb
      exact ⟨Nat.le_refl _, by obtain ⟨o, e, _⟩ := a2; rw [e]; rfl⟩
  obtain ⟨o1, o2⟩ := fresh_off X.mod (hno b hb'.1)
  exact ⟨o1, o2, none_of_alive X.alive (hno b hb'.1), hb'.2⟩
end
end Mine

namespace Mine
section
variable {g : Gr} {k : Nat} {env : Env} {ρ : Vars} {st : Store}

theorem append_raw {A : Around} {s : Shared} {a : Addr} {vs : List Value} {n : Nat} {v : Value} {Q : Value → Shared → Prop} (h : s.heap.get? a = some (Lo vs n)) (hl : vs.length ≤ 1000000)
    (q : ∀ h' n', h'.get? a = some (Lo (vs ++ [v]) n') → (∀ b o, b ≠ a → s.heap.get? b = some o → h'.get? b = some o) → Q .none { s with heap := h' }) :
    wpAny (model g.prog g.w) A (call (.builtin "list.append") [.ref a, v]) Q E0 s := by
  refine wpAny_call_entry slot_list_append (lo_isList h).typeIs entry_list_append ?_ (args_list_append _ _)
  show wpAny _ _ (updateSeq a (·.push v) >>= fun w0 => ret .none) _ _ s
  refine wpAny_bind ?_
  have hz : vs.toArray.size ≤ sizeLine := by rw [List.size_toArray]; exact sizeLine_big hl
  refine wpAny_updateSeq h rfl (wpAny_pure ⟨.none, rfl, ?_⟩) hz (by rw [Array.size_push]; (first | with_reducible exact Nat.succ_le_succ (by assumption) | omega))
  have e := Heap.get?_update_self (Obj.mapSeq (·.push v)) h rfl
  refine q _ (if (vs.toArray.push v).size == vs.toArray.size then n else n + 1) ?_ (fun b o hb e => (Heap.get?_update_other _ _ (Ne.symm hb)).trans e)
  rw [e]
  show some (Obj.mapSeq (·.push v) (Lo vs n)) = _
  unfold Lo Obj.mapSeq
  simp

inductive kApp (ρ : Vars) (a : Addr) (Q : PS) (d : D) (st1 : Store) : Prop
  | mk (p : PyData) (xs : List PyData) (h : d = .dat p) (h1 : st1 a = some xs) (hl : xs.length ≤ 1000000) (q : Q .next ρ (st1.set a (xs ++ [p])))
inductive kSw (ρ : Vars) (x y : Str) (Q : PS) (ds : List D) (st1 : Store) : Prop
  | mk (d1 d2 : D) (h : ds = [d1, d2]) (q : Q .next ((ρ.set y d2).set x d1) st1)
inductive kSI2 (ρ : Vars) (a : Addr) (d : D) (Q : PS) (d2 : D) (st2 : Store) : Prop
  | mk (p : PyData) (n : Int) (j : Nat) (xs : List PyData) (h1 : d = .dat p) (h2 : d2 = .dat (.int n)) (h3 : st2 a = some xs) (hl : xs.length ≤ 1000000)
      (hj : 0 ≤ n ∧ n.toNat = j ∨ n < 0 ∧ (n + xs.length).toNat = j ∧ -(xs.length : Int) ≤ n) (hlt : j < xs.length) (q : Q .next ρ (st2.set a (xs.set j p)))
noncomputable abbrev kSI (g : Gr) (k : Nat) (env : Env) (ρ : Vars) (i : Expr) (a : Addr) (Q : PS) : PE := fun d st1 => EvJ g k env ρ i st1 (kSI2 ρ a d Q)
inductive kId (g : Gr) (k : Nat) (Q : PE) (d : D) (st1 : Store) : Prop
  | mk (p : Pc) (h : d = .pc p) (q : CaJ g k (.ref g.idl) [.pc p] st1 Q)
inductive kIT (Q : PI) (ds : List D) (st1 : Store) : Prop
  | mk (hl : ds.length ≤ 1000000) (q : Q ds [] st1)
theorem sm_append {x : Str} {xp apos cpos pos : Pos} {e : Expr} {a : Addr} {xs0 : List PyData} {Q : Fl → Vars → Store → Prop} (hx : ρ x = some (.cell a)) (h0 : st a = some xs0)
    (h : EvJ g k env ρ e st (kApp ρ a Q))
    (hd : (x == ("__debug__" : Str)) = false := by decide)
    (hi : interactive env = false := by rfl) (hs : swapsWith (.Call (.Attribute (.Name x xp) "append" apos) [e] [] cpos) none pos.line env = pure false := by rfl)
    (hbase : attributeBase (.Name x xp) "append" env (eval (.Name x xp) env) = eval (.Name x xp) env := by rfl)
    (hfew : ((backTo cpos (starEach [e] env)).all (fun x => !x.1) && (backToKw cpos (keywordEach [] env)).all (fun x => x.1.isSome)
      && decide (([e] : List Expr).length + ([] : List Keyword).length + (if ([] : List Keyword).isEmpty then 0 else 1) < 30)) = true := by rfl)
    (hline : (apos.endLine == cpos.line) = true := by rfl)
    (htrees : backTo cpos (starEach [e] env) = [(false, eval e env)] := by rfl) :
    SmJ g k env ρ (.Expr (.Call (.Attribute (.Name x xp) "append" apos) [e] [] cpos) pos) st Q := by
  intro A S s L M E
  refine wpAny_Expr ?_ hi hs
  refine wpAny_Call_append hbase hfew hline htrees ?_
  refine wpAny_mono (ev_name (Q := fun d st1 => d = .cell a ∧ st1 = st) hx ⟨rfl, rfl⟩ hd A S s L M E) (fun ov s1 y => ?_) fun w0 w0 x => x
  obtain ⟨S1, st1, d, X1, r1, rfl, rfl⟩ := y
  have hov : ov = .ref a := r1
  obtain ⟨_, vs0, n0, k0, _⟩ := X1.mod.cell a xs0 h0
  refine ⟨a, vs0.toArray, hov, ⟨_, n0, k0, rfl, rfl, rfl⟩, ?_⟩
  refine wpAny_mono (h A S1 s1 L X1.mod (E.ext X1 no_nw)) (fun v s2 y => ?_) fun w0 w0 x => x
  obtain ⟨S2, st2, d, X2, r2, p, xs, rfl, h2, hl, q⟩ := y
  obtain ⟨hSn, vs, n, k1, k2⟩ := X2.mod.cell a xs h2
  refine append_raw k1 (by rw [k2.length]; exact hl) fun h' n' e1 e2 => ?_
  have X3 := ext_turn (tk := s2.toks) X2.mod h2 e1 e2 (k2.append (.cons r2 .nil))
  have X := (X1.trans X2).trans X3
  exact ⟨S2, _, ρ, .next, X.wider fun w0 f => f.elim, E.ext X no_nw, trivial, q⟩

theorem sm_swap2 {x y : Str} {xp yp tp vp pos : Pos} {kd kd' : Nat} {e1 e2 : Expr} {Q : Fl → Vars → Store → Prop} (hwx : Wr env x) (hwy : Wr env y)
    (h : EvsJ g k env ρ [e1, e2] st (kSw ρ x y Q))
    (hs : swapsWithSole [.Tuple [.Name x xp, .Name y yp] kd tp] (.Tuple [e1, e2] kd' vp) pos.line env = pure false := by rfl)
    (hw : swappedStores [.Tuple [.Name x xp, .Name y yp] kd tp] (.Tuple [e1, e2] kd' vp) env = pure (some [x, y]) := by rfl) :
    SmJ g k env ρ (.Assign [.Tuple [.Name x xp, .Name y yp] kd tp] (.Tuple [e1, e2] kd' vp) pos) st Q := by
  intro A S s L M E
  refine Assign_Tuple_swapped (names := [x, y]) (Tuple_ (wpAny_mono (h vp A S s L M E) (fun vs s1 z => ?_) fun w0 w0 x => x)) hs hw
  obtain ⟨S1, st1, ds, X1, r1, d1, d2, rfl, q⟩ := z
  obtain ⟨S2, X2, hn⟩ := ext_push X1.mod (To vs 0) rfl
  refine wpAny_newObj_type ?_ (by show vs.toArray.size ≤ sizeLine; rw [List.size_toArray, r1.length]; exact sizeLine_big (by simp))
  have ht := to_isTup (X2.mod.sub _ _ hn)
  obtain ⟨v1, v2, hv, ra, rb⟩ := repAll_two r1
  subst hv
  refine unpackItems_tuple (items := #[v1, v2]) L.1 ht fun h' he => ?_
  have hk : ∀ b o, (s1.heap.push (To [v1, v2] 0)).get? b = some o → h'.get? b = some o := fun b o e => he b o (Nat.ne_of_lt (Heap.lt_size e)) e
  have X3 : Ext g NoW S2 st1 { s1 with heap := s1.heap.push (To [v1, v2] 0) } S2 st1 { s1 with heap := h' } := ext_all (tk := s1.toks) X2.mod hk
  have X13 := (X1.trans X2).trans X3
  show wpAny _ _ (assignInOrder [fun v => bindName env y v, fun v => bindName env x v] [v2, v1]) _ _ _
  have E3 := E.ext X13 no_nw
  refine assignInOrder_cons (wpAny_bindName (store_var X3.mod E3 hwy.own (rb.mono X2.ext) fun s4 X4 E4 => ?_))
  refine assignInOrder_cons (wpAny_bindName (store_var X4.mod E4 hwx.own (ra.mono X2.ext) fun s5 X5 E5 => ?_))
  refine assignInOrder_nil ?_
  exact ⟨S2, st1, _, .next, ((X13.wider fun w0 f => f.elim).trans X4).trans X5, E5, trivial, q⟩

theorem setItem_exact {A : Around} {s : Shared} {a : Addr} {vs : List Value} {n : Nat} {i : Int} {t : Tok} {j : Nat} {v : Value} {Q : Unit → Shared → Prop} (h : s.heap.get? a = some (Lo vs n)) (hl : vs.length ≤ 1000000)
    (hj : (0 ≤ i ∧ i.toNat = j ∨ i < 0 ∧ (i + vs.length).toNat = j ∧ -(vs.length : Int) ≤ i)) (hlt : j < vs.length)
    (q : ∀ h' n', h'.get? a = some (Lo (vs.set j v) n') → (∀ b o, b ≠ a → s.heap.get? b = some o → h'.get? b = some o) → Q () { s with heap := h' }) :
    wpAny (model g.prog g.w) A (setItem (.ref a) (.int i t) v) Q E0 s := by
  have hl' := lo_isList h
  have hfit : Builtin.List.listFitsIndex i = true := by
    unfold Builtin.List.listFitsIndex
    simp only [Bool.and_eq_true, decide_eq_true_eq]
    omega
  unfold setItem
  try with_reducible refine wpAny_holding ?_
  first | refine wpAny_bind (wpAny_pure ?_) | skip
  refine wpAny_bind (wpAny_sequenceKey hl'.typeIs (by decide) ?_)
  refine wpAny_bind (wpAny_callSpecial?_slot (name := Str.ofString "__setitem__") hl'.typeIs slot_list_setitem
    (wpAny_call_entry slot_list_setitem hl'.typeIs entry_list_setitem ?_ (args_list_setitem _ _ _)))
  show wpAny _ _ (Builtin.List.listSubscript? (.int i t) >>= _) _ _ s
  refine wpAny_bind (wpAny_listSubscript_int hfit ?_)
  have fin : wpAny (model g.prog g.w) A.in1 (setSeqItemAt a j v) (fun w0 s' => Q () s') E0 s := by
    refine wpAny_setSeqItemAt h rfl ?_
    have e := Heap.get?_update_self (Obj.mapSeq (·.setIfInBounds j v)) h rfl
    refine q _ (if (vs.toArray.setIfInBounds j v).size == vs.toArray.size then n else n + 1) ?_ (fun b o hb e => (Heap.get?_update_other _ _ (Ne.symm hb)).trans e)
    rw [e]
    show some (Obj.mapSeq (·.setIfInBounds j v) (Lo vs n)) = _
    unfold Lo Obj.mapSeq
    simp
  have tail : wpAny (model g.prog g.w) A.in1 (setSeqItemAt a j v >>= fun w0 => ret .none) (fun fin s' => ∃ v, fin = .done (.ret v) ∧ wpAny (model g.prog g.w) A (pure ()) Q E0 s') E0 s :=
    wpAny_bind (wpAny_mono fin (fun w0 s' h => wpAny_pure ⟨.none, rfl, wpAny_pure h⟩) fun w0 w0 x => x)
  rcases hj with ⟨h0, hj⟩ | ⟨h0, hj, hlo⟩
  · obtain ⟨m, rfl⟩ := Int.eq_ofNat_of_zero_le h0
    have hm : m = j := by simpa using hj
    subst hm
    show wpAny _ _ ((seqItemAt a m >>= fun r => pure (r.map (m, ·))) >>= _) _ _ s
    refine wpAny_bind (wpAny_bind (wpAny_seqItemAt h rfl (wpAny_pure ?_)))
    have hx : vs.toArray[m]? = some vs[m] := by simp [hlt]
    rw [hx]
    exact tail
  · obtain ⟨m, rfl⟩ : ∃ m : Nat, i = Int.negSucc m := by
      cases i with
      | ofNat n => exact absurd h0 (Int.not_lt.mpr (Int.natCast_nonneg n))
      | negSucc n => exact ⟨n, rfl⟩
    show wpAny _ _ ((Builtin.List.listItems (.ref a) >>= fun xs => pure ((seqIndex? (Int.negSucc m) xs.size).bind fun i => xs[i]?.map (i, ·))) >>= _) _ _ s
    refine wpAny_bind (wpAny_bind ?_)
    show wpAny _ _ (seqItems? (.ref a) >>= _) _ _ s
    refine wpAny_bind (wpAny_seqItems h rfl (wpAny_pure (wpAny_pure ?_)))
    have hidx : seqIndex? (Int.negSucc m) vs.toArray.size = some j := by
      rw [List.size_toArray, seqIndex_neg h0 hlo, hj]
    have hx : vs.toArray[j]? = some vs[j] := by simp [hlt]
    simp only [Option.getD_some, hidx, Option.bind_some, hx, Option.map_some]
    exact tail

theorem sm_setitem {x : Str} {xp sp pos : Pos} {i e : Expr} {a : Addr} {Q : Fl → Vars → Store → Prop} (hx : ρ x = some (.cell a))
    (h : EvJ g k env ρ e st (kSI g k env ρ i a Q))
    (hd : (x == ("__debug__" : Str)) = false := by decide)
    (hs : swapsWith e (some (.Subscript (.Name x xp) i sp)) pos.line env = pure false := by rfl) : SmJ g k env ρ (.Assign [.Subscript (.Name x xp) i sp] e pos) st Q := by
  intro A S s L M E
  refine wpAny_Assign_Subscript (wpAny_mono (h A S s L M E) (fun v s1 y => ?_) fun w0 w0 x => x) hs
  obtain ⟨S1, st1, d, X1, r1, q1⟩ := y
  have E1 := E.ext X1 no_nw
  refine wpAny_mono (ev_name (Q := fun d st' => d = .cell a ∧ st' = st1) hx ⟨rfl, rfl⟩ hd A S1 s1 L X1.mod E1) (fun ov s2 y => ?_) fun w0 w0 x => x
  obtain ⟨S2, st2, d', X2, r2, rfl, rfl⟩ := y
  have hov : ov = .ref a := r2
  subst hov
  refine wpAny_mono (q1 A S2 s2 L X2.mod (E1.ext X2 no_nw)) (fun iv s3 y => ?_) fun w0 w0 x => x
  obtain ⟨S3, st3, d2, X3, r3, p, n, j, xs, rfl, rfl, h3, hl, hj, hlt, q⟩ := y
  cases r3
  obtain ⟨hSn, vs, n', k1, k2⟩ := X3.mod.cell a xs h3
  have hlen := k2.length
  refine setItem_exact k1 (by (first | with_reducible exact Nat.le_trans (Nat.le_of_eq (by assumption)) (Nat.le_trans (by assumption) (by decide)) | omega)) (by rw [hlen]; exact hj) (by (first | with_reducible exact Mine.zu3 (by assumption) (by assumption) | omega)) fun h' n'' e1 e2 => ?_
  have X4 := ext_turn (tk := s3.toks) X3.mod h3 e1 e2 (k2.set j ((Rd.mono (X2.ext.trans X3.ext)) (r1 : Rd S1 v p)))
  have X := ((X1.trans X2).trans X3).trans X4
  exact ⟨S3, _, ρ, .next, X.wider fun w0 f => f.elim, E.ext X no_nw, trivial, q⟩

theorem ev_idle {o : Expr} {apos pos : Pos} {Q : D → Store → Prop} (C : Cls g) (h : EvJ g k env ρ o st (kId g k Q))
    {pl : Sem Bool} (he : eval (.Call (.Attribute o "is_idle" apos) [] [] pos) env = (do
      let ov ← eval o env
      standAt apos.atName
      let (f, first) ← holding [ov] (getMethod ov "is_idle" pl)
      callWith pos f first (backTo pos (starEach [] env)) []) := by rfl) :
    EvJ g k env ρ (.Call (.Attribute o "is_idle" apos) [] [] pos) st Q := by
  intro A S s L M E
  refine MethodCall_ (pl := pl) (wpAny_mono (h A S s L M E) (fun ov s1 y => ?_) fun w0 w0 x => x) he
  obtain ⟨S1, st1, d, X1, r1, p, rfl, q⟩ := y
  have r1' := r1
  obtain ⟨x, dx, v1, v2, v3, od, mm, rfl, h1, h2, h0, h3, h4, h5, h6, h7, h8, h9⟩ := r1
  have I := RdPc.inst X1.mod h1 h2
  refine method_fn X1.mod.kin I (plainGet_of (C.get "is_idle")).1 (plainGet_of (C.get "is_idle")).2 C.idle C.fn (by show (lookIn _ od).map _ = _; rw [h0.look, h6]; rfl) ?_
  refine callWith_K0 X1.mod.kin C.keepI ?_
  exact wpAny_mono (q A S1 s1 [.ref x] L X1.mod ⟨r1', trivial⟩) (fun v s' y => y.after X1) fun w0 w0 x => x

theorem it_tup {es : List Expr} {kd : Nat} {tp : Pos} {tgt : Expr} {Q : List D → List Addr → Store → Prop} (h : EvsJ g k env ρ es st (kIT Q)) (ht : TgName tgt := by exact ⟨_, _, rfl⟩) :
    ItJ g k env ρ (.Tuple es kd tp) tgt st Q := by
  intro A S s L M E
  refine Tuple_ (wpAny_mono (h tp A S s L M E) (fun vs s1 z => ?_) fun w0 w0 x => x)
  obtain ⟨S1, st1, ds, X1, r1, hl, q⟩ := z
  obtain ⟨S2, X2, hn⟩ := ext_push X1.mod (To vs 0) rfl
  refine wpAny_newObj_type ?_ (by show vs.toArray.size ≤ sizeLine; rw [List.size_toArray, r1.length]; exact sizeLine_big hl)
  refine iter_tuple (to_isTup (X2.mod.sub _ _ hn)) ?_
  have hno : (s1.heap.push (To vs 0)).get? (s1.heap.push (To vs 0)).objs.size = none := Heap.get?_none_of_le (Nat.le_refl _)
  have X3 := ext_pushU (W := NoW) X2.mod { cls := .type "tuple_iterator", data := .fields #[.ref s1.heap.objs.size, .int 0 0] } s1.toks
  have X12 := X1.trans X2
  refine ⟨S2, st1, [(s1.heap.push (To vs 0)).objs.size], [], _, _, ds, iter_tup (s1.heap.push (To vs 0)).objs.size s1.heap.objs.size [], ht, X12.trans X3, ⟨0, vs, 0, ds, ⟨_, Heap.get?_push_size _ rfl, rfl, rfl⟩, hn, r1.mono X2.ext, by simp⟩, fun b hb => ?_, q⟩
  rw [List.mem_singleton] at hb
  subst hb
  obtain ⟨o1, o2⟩ := fresh_off X2.mod hno
  exact ⟨o1, o2, none_of_alive X12.alive hno, by show (((s1.heap.push (To vs 0)).push _).get? _).isSome; rw [Heap.get?_push_size _ rfl]; rfl⟩
end
end Mine

namespace Mine

noncomputable def clOf (scope : Scope) (env : Env) : List (Str × Addr) := scope.names.foldl (fun cs x => if x.2 == .free then (x.1, (env.cells.lookup x.1).getD 0) :: cs else cs) []
noncomputable def closOk (scope : Scope) (env : Env) : Bool := scope.names.all fun x => x.2 != .free || (env.kindOf x.1 == some .cell && (env.cells.lookup x.1).isSome)

theorem closureFor_go (env : Env) (f : Str × NameKind → List (Str × Addr) → Sem (ForInStep (List (Str × Addr))))
    (hf : ∀ n kd cs, f (n, kd) cs = if kd == .free then (do let c ← cellOf env n; pure (.yield ((n, c) :: cs))) else pure (.yield cs)) :
    ∀ (names : List (Str × NameKind)) (acc : List (Str × Addr)), (names.all fun x => x.2 != .free || (env.cells.lookup x.1).isSome) = true →
      forIn names acc f = pure (names.foldl (fun cs x => if x.2 == .free then (x.1, (env.cells.lookup x.1).getD 0) :: cs else cs) acc) := by
  intro xx
  induction xx with
  | nil =>
    intro acc _
    rw [List.forIn_nil]; rfl
  | cons hd0 r ih =>
    obtain ⟨n, kd⟩ := hd0
    intro acc h
    rw [List.all_cons, Bool.and_eq_true] at h
    rw [List.forIn_cons, hf, List.foldl_cons]
    cases hk : (kd == NameKind.free) with
    | false => exact ih acc h.2
    | true =>
      have h1 : (env.cells.lookup n).isSome = true := by
        have := h.1
        have hk' : (kd != NameKind.free) = false := by show (!(kd == NameKind.free)) = false; rw [hk]; rfl
        rw [Bool.or_eq_true] at this
        exact this.elim (fun e => by rw [hk'] at e; cases e) id
      obtain ⟨c, hc⟩ := Option.isSome_iff_exists.mp h1
      have e : cellOf env n = pure c := by unfold cellOf; rw [hc]
      simp only [if_true, e, pure_bind, hc, Option.getD_some]
      exact ih _ h.2

theorem closureFor_clOf {scope : Scope} {env : Env} (h : closOk scope env = true) : closureFor scope env = pure (clOf scope env) := by
  have h' : (scope.names.all fun x => x.2 != .free || (env.cells.lookup x.1).isSome) = true := by
    unfold closOk at h
    rw [List.all_eq_true] at h ⊢
    intro x hx
    have := h x hx
    rw [Bool.or_eq_true] at this ⊢
    exact this.imp id fun e => (Bool.and_eq_true_iff.mp e).2
  unfold closureFor clOf
  have e := closureFor_go env (fun x cs => if x.2 == .free then (do let c ← cellOf env x.1; pure (.yield ((x.1, c) :: cs))) else pure (.yield cs)) (fun n kd cs => rfl) scope.names [] h'
  exact (bind_pure _).trans e

theorem clOf_mem_go (env : Env) : ∀ (names : List (Str × NameKind)) (acc : List (Str × Addr)), (names.all fun x => x.2 != .free || (env.cells.lookup x.1).isSome) = true → (∀ n c, (n, c) ∈ acc → env.cells.lookup n = some c) →
    ∀ n c, (n, c) ∈ names.foldl (fun cs x => if x.2 == .free then (x.1, (env.cells.lookup x.1).getD 0) :: cs else cs) acc → env.cells.lookup n = some c := by
  intro xx
  induction xx with
  | nil =>
    intro acc _ ha n c h
    exact ha n c h
  | cons hd0 r ih =>
    obtain ⟨m, kd⟩ := hd0
    intro acc hh ha n c h
    rw [List.all_cons, Bool.and_eq_true] at hh
    rw [List.foldl_cons] at h
    refine ih _ hh.2 (fun n' c' hm => ?_) n c h
    cases hk : (kd == NameKind.free) with
    | false => rw [hk] at hm; exact ha n' c' hm
    | true =>
      rw [hk] at hm
      rcases List.mem_cons.mp hm with e | hm
      · cases e
        have h1 : (env.cells.lookup m).isSome = true := by
          have := hh.1
          have hk' : (kd != NameKind.free) = false := by show (!(kd == NameKind.free)) = false; rw [hk]; rfl
          rw [Bool.or_eq_true] at this
          exact this.elim (fun e => by rw [hk'] at e; cases e) id
        obtain ⟨c, hc⟩ := Option.isSome_iff_exists.mp h1
        rw [hc]; rfl
      · exact ha n' c' hm
theorem closOk_plain {scope : Scope} {env : Env} (h : closOk scope env = true) : (scope.names.all fun x => x.2 != .free || (env.cells.lookup x.1).isSome) = true := by
  unfold closOk at h
  rw [List.all_eq_true] at h ⊢
  intro x hx
  have := h x hx
  rw [Bool.or_eq_true] at this ⊢
  exact this.imp id fun e => (Bool.and_eq_true_iff.mp e).2
theorem clOf_mem {scope : Scope} {env : Env} (h : closOk scope env = true) {n : Str} {c : Addr} (hm : (n, c) ∈ clOf scope env) : env.cells.lookup n = some c :=
  clOf_mem_go env scope.names [] (closOk_plain h) (fun w0 w0 h => nomatch h) n c hm

theorem clOf_has_go (env : Env) : ∀ (names : List (Str × NameKind)) (acc : List (Str × Addr)) (n : Str), ((∃ c, (n, c) ∈ acc) ∨ (n, NameKind.free) ∈ names) →
    ∃ c, (n, c) ∈ names.foldl (fun cs x => if x.2 == .free then (x.1, (env.cells.lookup x.1).getD 0) :: cs else cs) acc := by
  intro xx
  induction xx with
  | nil =>
    intro acc n h
    exact h.elim id fun h => nomatch h
  | cons hd0 r ih =>
    obtain ⟨m, kd⟩ := hd0
    intro acc n h
    rw [List.foldl_cons]
    refine ih _ n ?_
    rcases h with ⟨c, h⟩ | h
    · left
      cases hk : (kd == NameKind.free) with
      | false => exact ⟨c, h⟩
      | true => exact ⟨c, .tail _ h⟩
    · rcases List.mem_cons.mp h with e | h
      · cases e; exact .inl ⟨_, .head _⟩
      · exact .inr h

theorem lookup_of_mem {α : Type} : ∀ {l : List (Str × α)} {n : Str} {c : α}, (n, c) ∈ l → ∃ c', l.lookup n = some c'
  | (k, v) :: r, n, c, h => by
    rw [List.lookup_cons]
    cases hb : n == k with
    | true => exact ⟨v, rfl⟩
    | false =>
      rcases List.mem_cons.mp h with e | h
      · cases e; rw [beq_self_eq_true] at hb; cases hb
      · exact lookup_of_mem h
theorem clOf_lookup {scope : Scope} {env : Env} (h : closOk scope env = true) {n : Str} (hn : scope.names.lookup n = some .free) : ∃ c, (clOf scope env).lookup n = some c ∧ env.cells.lookup n = some c := by
  obtain ⟨c, hc⟩ := clOf_has_go env scope.names [] n (.inr (mem_of_lookup hn))
  obtain ⟨c', hc'⟩ := lookup_of_mem hc
  exact ⟨c', hc', clOf_mem h (mem_of_lookup hc')⟩

noncomputable def compVars (scope : Scope) (ρ : Vars) : Vars := fun x => if scope.names.lookup x = some .free then ρ x else none

theorem lookup_relabel {env : Env} (x : Str) : ∀ (names : List (Str × NameKind)),
    (names.map fun (n, k) => if (k == NameKind.free && env.scope.kind == .function && env.kindOf n == some .cell) then (n, NameKind.cell) else (n, k)).lookup x =
      (names.lookup x).map fun k => if (k == NameKind.free && env.scope.kind == .function && env.kindOf x == some .cell) then NameKind.cell else k := by
  intro xx
  induction xx with
  | nil =>
    exact rfl
  | cons hd0 r ih =>
    obtain ⟨n, k⟩ := hd0
    have ih := ih
    rw [List.map_cons]
    show List.lookup x ((if (k == NameKind.free && env.scope.kind == .function && env.kindOf n == some .cell) = true then (n, NameKind.cell) else (n, k)) :: _) = _
    by_cases hc : (k == NameKind.free && env.scope.kind == .function && env.kindOf n == some .cell) = true
    · rw [if_pos hc, List.lookup_cons, List.lookup_cons]
      cases hx : x == n with
      | true =>
        have e : x = n := beq_iff_eq.mp hx
        subst e
        simp only [Option.map_some]
        rw [if_pos hc]
      | false => exact ih
    · rw [if_neg hc, List.lookup_cons, List.lookup_cons]
      cases hx : x == n with
      | true =>
        have e : x = n := beq_iff_eq.mp hx
        subst e
        simp only [Option.map_some]
        rw [if_neg hc]
      | false => exact ih

section
variable {g : Gr} {k : Nat} {env : Env} {ρ : Vars} {st : Store}

theorem env_comp {S : Fz} {h : Heap} {scope : Scope} {C : Addr} {m' : Str → Option Value} (E : EnvM g S st env ρ h) (hc : closOk scope env = true) (hk : scope.kind = .function) (hn : h.Ns C m') (hS : S C = none) (hst : st C = none)
    (hne : ∀ a, Own env a → a ≠ C) : EnvM g S st (compEnvC scope (clOf scope env) C env) (compVars scope ρ) h := by
  obtain ⟨m, cm, h1, h2, h3⟩ := E.ex
  have hmem : ∀ n c, (n, c) ∈ clOf scope env → env.cells.lookup n = some c := fun n c hm => clOf_mem hc hm
  refine ⟨hk, E.glob, E.blt, ⟨m', cm, hn, fun n c e => h2 n c (hmem n c (mem_of_lookup e)), fun x d e => ?_⟩, fun a ha => ?_, fun n n' c e e' => E.apart n n' c (hmem _ _ (mem_of_lookup e)) (hmem _ _ (mem_of_lookup e')), fun n c hm => ?_⟩
  · unfold compVars at e
    by_cases hx : scope.names.lookup x = some .free
    · rw [if_pos hx] at e
      obtain ⟨v, r, q⟩ := h3 x d e
      obtain ⟨c, l1, l2⟩ := clOf_lookup hc hx
      have hcell : env.kindOf x = some .cell := by
        unfold closOk at hc
        rw [List.all_eq_true] at hc
        have := hc _ (mem_of_lookup hx)
        rw [Bool.or_eq_true] at this
        rcases this with t | t
        · simp at t
        · exact beq_iff_eq.mp (Bool.and_eq_true_iff.mp t).1
      have hv : cm x = some v := by
        rcases q with ⟨q, _⟩ | ⟨_, _, q⟩
        · rw [hcell] at q; cases q
        · exact q
      refine ⟨v, r, .inr ⟨.inl ?_, ⟨c, l1⟩, hv⟩⟩
      show (relabel scope env).names.lookup x = some .cell
      unfold relabel
      have hcond : ((NameKind.free == NameKind.free) && env.scope.kind == .function && env.kindOf x == some .cell) = true := by rw [E.fn, hcell]; rfl
      exact (lookup_relabel x scope.names).trans (by rw [hx]; simp only [Option.map_some]; rw [if_pos hcond])
    · rw [if_neg hx] at e; cases e
  · rcases ha with ha | ⟨n, hm⟩
    · have e : a = C := ha
      rw [e]
      exact ⟨hS, hst, by obtain ⟨o, es, ep, ho, _⟩ := hn; rw [ho]; rfl⟩
    · exact E.off a (.inr ⟨n, hmem n a (mem_of_lookup hm)⟩)
  · exact hne c (.inr ⟨n, hmem n c (mem_of_lookup hm)⟩)

noncomputable def IfsJ (g : Gr) (k : Nat) (env : Env) (ρ : Vars) (ifs : List Expr) (st : Store) (Q : Bool → Store → Prop) : Prop :=
  ∀ A S s, Lv k A → Mod g S st s.heap → EnvM g S st env ρ s.heap →
    wpAny (model g.prog g.w) A (forIn ifs true fun c r => if r = true then do let ok ← isTrue c env (eval c env); pure (ForInStep.yield ok) else pure (ForInStep.yield r)) (EndB g S st s Q) E0 s
theorem ifs_nil {Q : Bool → Store → Prop} (q : Q true st) : IfsJ g k env ρ [] st Q := by
  intro A S s L M E
  exact wpAny_tests_nil ⟨S, st, .refl M, q⟩
theorem ifs_one {c : Expr} {Q : Bool → Store → Prop} (h : TrJ g k env ρ c st Q) : IfsJ g k env ρ [c] st Q := by
  intro A S s L M E
  exact wpAny_tests_one (h A S s L M E)

theorem compLoop_any {A : Around} {R : Result → Shared → Prop} {s : Shared} {elt target iter : Expr} {ifs : List Expr} {scope : Scope} {pos : Pos} {it acc : Value} {cenv : Env} (I : Nat → Shared → Prop)
    (turn : ∀ n s, I n s → wpAny (model g.prog g.w) A (pyNext it) (fun r s₁ => match r with
      | none => R (.ok .next) s₁
      | some v => wpAny (model g.prog g.w) A (letOwnedTupleGo target it v) (fun w0 s₁' => wpAny (model g.prog g.w) A (assign target cenv v) (fun w0 s₂ =>
          wpAny (model g.prog g.w) A (forIn ifs true fun c r => if r = true then do let ok ← isTrue c cenv (eval c cenv); pure (ForInStep.yield ok) else pure (ForInStep.yield r)) (fun ok s₃ =>
            if ok = true then wpAny (model g.prog g.w) A (eval elt cenv) (fun x s₄ => wpAny (model g.prog g.w) A (call (.builtin "list.append") [acc, x]) (fun w0 s₅ => ∃ m, m < n ∧ I m s₅) E0 s₄) E0 s₃
            else ∃ m, m < n ∧ I m s₃) E0 s₂) E0 s₁') E0 s₁) E0 s)
    (n : Nat) (h : I n s) : codeAny (model g.prog g.w) A (.compLoop (.ListComp elt [⟨target, iter, ifs, 0⟩] scope pos) 0 it acc cenv) R s := by
  refine codeAny_loop rfl I (fun n s hI => ?_) n h
  show wpAny _ A ((compTurn (.ListComp elt [⟨target, iter, ifs, 0⟩] scope pos) 0 it acc cenv).onRaise (fun x => do noteFrame x cenv; theTreesLotGoes x)) _ _ s
  refine wpAny_noted ?_
  rw [compTurn_list]
  refine wpAny_bind (wpAny_standAt (wpAny_bind (wpAny_mono (turn n s hI) (fun r s₁ h₁ => ?_) fun w0 w0 h' => h'.elim)))
  cases r with
  | none => exact wpAny_pure h₁
  | some v =>
    refine wpAny_bind (wpAny_mono h₁ (fun w0 s₁' h₁' => ?_) fun w0 w0 h' => h'.elim)
    refine wpAny_bind (wpAny_mono h₁' (fun w0 s₂ h₂ => wpAny_bind (wpAny_mono h₂ (fun ok s₃ h₃ => ?_) fun w0 w0 h' => h'.elim)) fun w0 w0 h' => h'.elim)
    cases ok with
    | false => exact wpAny_pure ⟨rfl, h₃⟩
    | true =>
      exact wpAny_bind (wpAny_bind (wpAny_mono h₃ (fun x s₄ h₄ => wpAny_bind (wpAny_mono h₄ (fun w0 s₅ h₅ => wpAny_pure (wpAny_pure ⟨rfl, h₅⟩)) fun w0 w0 h' => h'.elim)) fun w0 w0 h' => h'.elim))

theorem RepAll.snoc {S : Fz} {v : Value} {d : D} : ∀ {vs : List Value} {ds : List D}, RepAll g S vs ds → Rep g S v d → RepAll g S (vs ++ [v]) (ds ++ [d])
  | [], [], _, h => ⟨h, trivial⟩
  | _ :: _, _ :: _, r, h => ⟨r.1, RepAll.snoc r.2 h⟩
  | [], _ :: _, r, _ => r.elim
  | _ :: _, [], r, _ => r.elim
theorem Ns.look {h : Heap} {C : Addr} {m : Str → Option Value} (n : h.Ns C m) : ∃ o, h.get? C = some o := let ⟨o, _, _, ho, _⟩ := n; ⟨o, ho⟩

inductive kC3 (Inv : List D → List D → Store → Prop) (rem acc : List D) (src : List Addr) (st' : Store) (d : D) (st3 : Store) : Prop
  | mk (hl : acc.length ≤ 1000000) (h : Inv rem (acc ++ [d]) st3) (hs : ∀ a ∈ src, st3 a = st' a)
noncomputable abbrev kC2 (g : Gr) (k : Nat) (ce : Env) (ρ1 : Vars) (elt : Expr) (Inv : List D → List D → Store → Prop) (rem acc : List D) (src : List Addr) (st' : Store) : PB := fun b st2 =>
      if b = true then EvJ g k ce ρ1 elt st2 (kC3 Inv rem acc src st') else Inv rem acc st2 ∧ ∀ a ∈ src, st2 a = st' a
noncomputable abbrev kC1 (g : Gr) (k : Nat) (ce : Env) (ifs : List Expr) (elt : Expr) (Inv : List D → List D → Store → Prop) (rem acc : List D) (src : List Addr) (st' : Store) : PV := fun ρ1 st1 => IfsJ g k ce ρ1 ifs st1 (kC2 g k ce ρ1 elt Inv rem acc src st')
inductive LpI (g : Gr) (S : Fz) (st : Store) (s : Shared) (Ca Da : Addr) (fp : List Addr) (R : Fz → Store → Heap → List D → Prop) (Inv : List D → List D → Store → Prop) (n : Nat) (s' : Shared) : Prop
  | mk (S' : Fz) (st' : Store) (rem acc : List D) (ws : List Value) (nn : Nat) (m : Str → Option Value) (hn : n = rem.length) (X : Ext g (fun a => a = Ca ∨ a = Da ∨ a ∈ fp) S st s S' st' s') (hR : R S' st' s'.heap rem)
    (hf : ∀ b ∈ fp, S' b = none ∧ st' b = none ∧ (s'.heap.get? b).isSome) (c1 : S' Ca = none) (c2 : st' Ca = none) (d1 : S' Da = none) (d2 : st' Da = none) (hN : s'.heap.Ns Ca m) (hL : s'.heap.get? Da = some (Lo ws nn)) (hA : RepAll g S' ws acc) (hI : Inv rem acc st')
theorem comp_core {A : Around} {elt target iter : Expr} {ifs : List Expr} {scope : Scope} {pos : Pos} {S S2 : Fz} {st2 : Store} {s s2 : Shared} {fp src : List Addr} {tg : Expr → Prop} {R : Fz → Store → Heap → List D → Prop} {ds : List D} {it : Value}
    {RR : Value → Addr → Result → Shared → Prop}
    (hcl : closOk scope env = true) (hkind : scope.kind = .function) (hcell : ∀ y ∈ scope.names, y.2 ≠ .cell)
    (L : Lv k A) (E : EnvM g S st env ρ s.heap) (IT : Iter g it fp src tg R) (ht : tg target) (X2 : Ext g NoW S st s S2 st2 s2) (hR : R S2 st2 s2.heap ds)
    (hf : ∀ b ∈ fp, S2 b = none ∧ st2 b = none ∧ s.heap.get? b = none ∧ (s2.heap.get? b).isSome)
    (Inv : List D → List D → Store → Prop) (hI : Inv ds [] st2)
    (step : ∀ C x rem acc st', Inv (x :: rem) acc st' → AsJ g k (fun a => a = C) (compEnvC scope (clOf scope env) C env) (compVars scope ρ) target x st' (kC1 g k (compEnvC scope (clOf scope env) C env) ifs elt Inv rem acc src st'))
    (fin : ∀ S' st' s' D C ws n acc m, Ext g (fun a => a = C ∨ a = D) S st s S' st' s' → s.heap.get? C = none → s.heap.get? D = none → C ≠ D → S' C = none → st' C = none → S' D = none → st' D = none →
      s'.heap.Ns C m → s'.heap.get? D = some (Lo ws n) → RepAll g S' ws acc → Inv [] acc st' → RR (.ref D) C (.ok .next) s') :
    wpAny (model g.prog g.w) A (newList []) (fun acc s3 => wpAny (model g.prog g.w) A (newFunctionEnv scope env.globals (clOf scope env) [] env.qual none .none (some env)) (fun cenv s4 =>
      codeAny (model g.prog g.w) A (.compStart (.ListComp elt [⟨target, iter, ifs, 0⟩] scope pos) 0 it acc { cenv with scope := relabel scope env }) (RR acc cenv.locals) s4) E0 s3) E0 s2 := by
  refine wpAny_newObj_type (wpAny_newFunctionEnv hcell (by intro y hy; simp at hy) (fun h₁ hns₁ hsb₁ => ?_) hkind)
  dsimp only at hns₁ hsb₁ ⊢
  generalize hDd : s2.heap.objs.size = D
  have hD2 : s2.heap.get? D = none := by rw [← hDd]; exact Heap.get?_none_of_le (Nat.le_refl _)
  have hHD : (s2.heap.push { cls := .type "list", dict := none, data := .seq ([] : List Value).toArray }).get? D = some (Lo [] 0) := by rw [← hDd]; exact Heap.get?_push_size _ rfl
  have hHk : ∀ b o, s2.heap.get? b = some o → (s2.heap.push { cls := .type "list", dict := none, data := .seq ([] : List Value).toArray }).get? b = some o := fun b o e => Heap.get?_push_of_some _ e
  have hCsz : (s2.heap.push { cls := .type "list", dict := none, data := .seq ([] : List Value).toArray }).objs.size = D + 1 := by rw [Heap.size_push, hDd]
  generalize hH2 : s2.heap.push { cls := .type "list", dict := none, data := .seq ([] : List Value).toArray } = H2 at hns₁ hsb₁ hHD hHk hCsz ⊢
  generalize hCd : H2.objs.size = C at hns₁ hsb₁ hCsz ⊢
  have hCD : C ≠ D := by rw [hCsz]; exact Nat.succ_ne_self _
  have hH2C : H2.get? C = none := by rw [← hCd]; exact Heap.get?_none_of_le (Nat.le_refl _)
  have hC2 : s2.heap.get? C = none := by
    cases q : s2.heap.get? C with
    | none => rfl
    | some o => have := hHk _ _ q; rw [hH2C] at this; cases this
  have k1 : ∀ b o, b ≠ C → H2.get? b = some o → h₁.get? b = some o := fun b o hb e => (hsb₁.2 b hb).trans (Heap.get?_push_of_some _ e)
  have hD1 : h₁.get? D = some (Lo [] 0) := k1 D _ (Ne.symm hCD) hHD
  have kall : ∀ b o, s2.heap.get? b = some o → h₁.get? b = some o := fun b o e => k1 b o (by rintro rfl; rw [hC2] at e; cases e) (hHk b o e)
  obtain ⟨oD1, oD2⟩ := fresh_off X2.mod hD2
  obtain ⟨oC1, oC2⟩ := fresh_off X2.mod hC2
  have fD := none_of_alive X2.alive hD2
  have fC := none_of_alive X2.alive hC2
  have hCf : C ∉ fp := fun hm => by have := (hf C hm).2.2.2; rw [hC2] at this; cases this
  have hDf : D ∉ fp := fun hm => by have := (hf D hm).2.2.2; rw [hD2] at this; cases this
  have hown : ∀ a, Own env a → a ≠ C ∧ a ≠ D ∧ a ∉ fp := fun a ha => by
    have al := (E.off a ha).2.2
    exact ⟨(by rintro rfl; rw [fC] at al; cases al), (by rintro rfl; rw [fD] at al; cases al), fun hm => (by rw [(hf a hm).2.2.1] at al; cases al)⟩
  -- the loop
  have loop : ∀ tk, codeAny (model g.prog g.w) A (.compLoop (.ListComp elt [⟨target, iter, ifs, 0⟩] scope pos) 0 it (.ref D) (compEnvC scope (clOf scope env) C env)) (RR (.ref D) C) { s2 with heap := h₁, toks := tk } := by
    intro tk0
    refine compLoop_any (LpI g S st s C D fp R Inv) ?_ ds.length ?_
    · rintro n s' ⟨S', st', rem, acc, ws, nn, m, rfl, X, hR', hf', c1, c2, d1, d2, hN, hL, hA, hInv⟩
      have E' : EnvM g S' st' env ρ s'.heap := E.ext X fun a ha hw => by
        obtain ⟨e1, e2, e3⟩ := hown a ha
        rcases hw with hw | hw | hw
        · exact e1 hw
        · exact e2 hw
        · exact e3 hw
      cases rem with
      | nil =>
        refine wpAny_mono (IT.fin A k S' st' s' (fun s3 => RR (.ref D) C (.ok .next) s3) L X.mod hR' fun h' tk hk => ?_) (fun r s3 z => ?_) fun w0 w0 x => x.elim
        · have X' : Ext g (fun a => a = C ∨ a = D) S st s S' st' s' := Ext.narrow (fp := fp) (X.wider fun a h => h.elim (fun h => .inl (.inl h)) fun h => h.elim (fun h => .inl (.inr h)) .inr) fun b hb => (hf b hb).2.2.1
          have X'' := X'.drop (tk := tk) (fun b hb => ⟨(hf' b hb).1, (hf' b hb).2.1, (hf b hb).2.2.1⟩) hk
          exact fin S' st' _ D C ws nn acc m X'' fC fD hCD c1 c2 d1 d2 (hN.at' fun o e => hk C o hCf e) (hk D _ hDf hL) hA hInv
        · cases r with
          | none => exact z
          | some v => exact z.elim
      | cons x rem =>
        refine wpAny_mono (IT.next A k S' st' s' x rem target (fun v s3 => wpAny (model g.prog g.w) A (assign target (compEnvC scope (clOf scope env) C env) v) (fun w0 s₂ =>
          wpAny (model g.prog g.w) A (forIn ifs true fun c r => if r = true then do let ok ← isTrue c (compEnvC scope (clOf scope env) C env) (eval c (compEnvC scope (clOf scope env) C env)); pure (ForInStep.yield ok) else pure (ForInStep.yield r)) (fun ok s₃ =>
            if ok = true then wpAny (model g.prog g.w) A (eval elt (compEnvC scope (clOf scope env) C env)) (fun x s₄ => wpAny (model g.prog g.w) A (call (.builtin "list.append") [.ref D, x]) (fun w0 s₅ => LpN (LpI g S st s C D fp R Inv) (rem.length + 1) s₅) E0 s₄) E0 s₃
            else LpN (LpI g S st s C D fp R Inv) (rem.length + 1) s₃) E0 s₂) E0 s3) L X.mod hR' (fun b hb => ⟨(hf' b hb).1, (hf' b hb).2.1⟩) ht ?_) (fun r s3 z => ?_) fun w0 w0 x => x.elim
        · intro S3 s3 v X3 rv hR3
          have XX3 : Ext g (fun a => a = C ∨ a = D ∨ a ∈ fp) S st s S3 st' s3 := X.trans (X3.wider fun w0 h => .inr (.inr h))
          have E3 : EnvM g S3 st' env ρ s3.heap := E'.ext X3 fun a ha hm => (hown a ha).2.2 hm
          obtain ⟨oC, hoC⟩ := Ns.look hN
          obtain ⟨c1', c2'⟩ := X3.own c1 c2 (by rw [hoC]; rfl)
          obtain ⟨d1', d2'⟩ := X3.own d1 d2 (by rw [hL]; rfl)
          have hN3 : s3.heap.Ns C m := hN.at' fun o e => X3.keep C o e c2 hCf
          have hL3 : s3.heap.get? D = some (Lo ws nn) := X3.keep D _ hL d2 hDf
          have f3 : ∀ b ∈ fp, S3 b = none ∧ st' b = none ∧ (s3.heap.get? b).isSome := fun b hb => by
            obtain ⟨e1, e2, e3⟩ := hf' b hb
            obtain ⟨g1, g2⟩ := X3.own e1 e2 e3
            exact ⟨g1, g2, X3.alive b e3⟩
          have EC : EnvM g S3 st' (compEnvC scope (clOf scope env) C env) (compVars scope ρ) s3.heap := env_comp E3 hcl hkind hN3 c1' c2' fun a ha => (hown a ha).1
          refine wpAny_mono (step C x rem acc st' hInv A S3 s3 v L X3.mod EC rv) (fun w0 s4 z => ?_) fun w0 w0 x => x
          obtain ⟨S4, st4, ρ4, X4, E4, q4⟩ := z
          refine wpAny_mono (q4 A S4 s4 L X4.mod E4) (fun ok s5 z => ?_) fun w0 w0 x => x
          obtain ⟨S5, st5, X5, q5⟩ := z
          have X45 : Ext g (fun a => a = C) S3 st' s3 S5 st5 s5 := X4.trans (X5.wider fun w0 f => f.elim)
          have E5 := E4.ext X5 no_nw
          cases ok with
          | false =>
            simp only [Bool.false_eq_true, if_false] at q5 ⊢
            obtain ⟨mC, _, hNC, _⟩ := E5.ex
            obtain ⟨c1'', c2''⟩ := X45.own c1' c2' (by obtain ⟨o, e⟩ := Ns.look hN3; rw [e]; rfl)
            obtain ⟨d1'', d2''⟩ := X45.own d1' d2' (by rw [hL3]; rfl)
            refine ⟨rem.length, Nat.lt_succ_self _, S5, st5, rem, acc, ws, nn, mC, rfl, XX3.trans (X45.wider fun w0 h => .inl h), IT.stable _ _ _ _ _ _ _ hR3 X45.ext (fun b hb o e => X45.keep b o e (f3 b hb).2.1 fun h => hCf (h ▸ hb)) q5.2,
              fun b hb => ?_, c1'', c2'', d1'', d2'', hNC, X45.keep D _ hL3 d2' (Ne.symm hCD), hA.mono (X3.ext.trans X45.ext), q5.1⟩
            obtain ⟨e1, e2, e3⟩ := f3 b hb
            obtain ⟨g1, g2⟩ := X45.own e1 e2 e3
            exact ⟨g1, g2, X45.alive b e3⟩
          | true =>
            simp only [if_true] at q5 ⊢
            refine wpAny_mono (q5 A S5 s5 L X5.mod E5) (fun y s6 z => ?_) fun w0 w0 x => x
            obtain ⟨S6, st6, d, X6, r6, hlen, hInv6, hsrc⟩ := z
            have X46 : Ext g (fun a => a = C) S3 st' s3 S6 st6 s6 := X45.trans (X6.wider fun w0 f => f.elim)
            have E6 := E5.ext X6 no_nw
            obtain ⟨c1'', c2''⟩ := X46.own c1' c2' (by obtain ⟨o, e⟩ := Ns.look hN3; rw [e]; rfl)
            obtain ⟨d1'', d2''⟩ := X46.own d1' d2' (by rw [hL3]; rfl)
            have hL6 := X46.keep D _ hL3 d2' (Ne.symm hCD)
            have hA6 := hA.mono (X3.ext.trans X46.ext)
            refine append_raw hL6 (by rw [hA6.length]; exact hlen) fun h' n' a1 a2 => ?_
            have X7 : Ext g (fun a => a = D) S6 st6 s6 S6 st6 { s6 with heap := h' } := ext_but (tk := s6.toks) X46.mod d1'' d2'' rfl (by rw [a1]; rfl) a2
            obtain ⟨mC, _, hNC, _⟩ := E6.ex
            have hRA : RepAll g S6 (ws ++ [y]) (acc ++ [d]) := RepAll.snoc hA6 r6
            refine ⟨rem.length, Nat.lt_succ_self _, S6, st6, rem, acc ++ [d], ws ++ [y], n', mC, rfl, (XX3.trans (X46.wider fun w0 h => .inl h)).trans (X7.wider fun w0 h => .inr (.inl h)),
              IT.stable _ _ _ _ _ _ _ hR3 X46.ext (fun b hb o e => a2 b o (fun h => hDf (h ▸ hb)) (X46.keep b o e (f3 b hb).2.1 fun h => hCf (h ▸ hb))) hsrc,
              fun b hb => ?_, c1'', c2'', d1'', d2'', hNC.at' fun o e => a2 C o hCD e, a1, hRA, hInv6⟩
            obtain ⟨e1, e2, e3⟩ := f3 b hb
            obtain ⟨g1, g2⟩ := X46.own e1 e2 e3
            exact ⟨g1, g2, X7.alive b (X46.alive b e3)⟩
        · cases r with
          | none => exact z.elim
          | some v => exact z
    · refine ⟨S2, st2, ds, [], [], 0, _, rfl, ?_, IT.stable _ _ _ _ _ _ _ hR (.refl _) (fun b hb o e => kall b o e) fun w0 w0 => rfl, fun b hb => ?_, oC1, oC2, oD1, oD2, hns₁, hD1, trivial, hI⟩
      · exact (X2.wider fun w0 f => f.elim).trans (ext_all X2.mod kall)
      · obtain ⟨a1, a2, _, a4⟩ := hf b hb
        obtain ⟨o, e⟩ := Option.isSome_iff_exists.mp a4
        exact ⟨a1, a2, by show (h₁.get? b).isSome; rw [kall b o e]; rfl⟩
  have M1 : Mod g S2 st2 h₁ := (ext_all (W := NoW) (tk := s2.toks) X2.mod kall).mod
  have hR1 : R S2 st2 h₁ ds := IT.stable _ _ _ _ _ _ _ hR (.refl _) (fun b hb o e => kall b o e) fun w0 w0 => rfl
  refine codeAny_compStart_list (loop _) (wpAny_mono (IT.self A S2 st2 { s2 with heap := h₁, toks := _ } ds (fun it' s' => it' = it ∧ s' = { s2 with heap := h₁, toks := _ }) M1 hR1 ⟨rfl, rfl⟩) (fun it' s' z => ?_) fun w0 w0 x => x.elim)
  obtain ⟨rfl, rfl⟩ := z
  exact loop _
end
end Mine

namespace Mine
section
variable {g : Gr} {k : Nat} {env : Env} {ρ : Vars} {st : Store}

inductive FinA (acc : List D) (st : Store) (Q : D → Store → Prop) : Prop
  | mk (xs : List PyData) (h : acc = xs.map D.dat) (q : Q (.dat (.list xs)) st)
inductive FinB (acc : List D) (st : Store) (Q : D → Store → Prop) : Prop
  | mk (xs : List PyData) (h : acc = xs.map D.dat) (q : ∀ a, st a = none → Q (.cell a) (st.set a xs))
inductive FinP (acc : List D) (st : Store) (Q : D → Store → Prop) : Prop
  | mk (ps : List Pc) (h : acc = ps.map D.pc) (q : Q (.pcs ps) st)
inductive FinBP (acc : List D) (st : Store) (Q : D → Store → Prop) : Prop
  | inl (h : FinB acc st Q)
  | inr (h : FinP acc st Q)
inductive FinC (acc : List D) (st : Store) (Q : D → Store → Prop) : Prop
  | inl (h : FinA acc st Q)
  | inr (h : FinBP acc st Q)

theorem rdPcs_of {S : Fz} : ∀ {vs : List Value} {ps : List Pc}, RepAll g S vs (ps.map D.pc) → RdPcs g S vs ps
  | [], [], _ => .nil
  | _ :: _, _ :: _, h => .cons h.1 (rdPcs_of h.2)
  | [], _ :: _, h => h.elim
  | _ :: _, [], h => h.elim

theorem ext_take {W : Addr → Prop} {S S' : Fz} {st' : Store} {s s' : Shared} {D : Addr} {o : Obj} (X : Ext g W S st s S' st' s') (hs : s.heap.get? D = none) (hS : S' D = none) (hst : st' D = none) (ho : s'.heap.get? D = some o) :
    ∃ S'', Ext g W S st s S'' st' s' ∧ S'' D = some o ∧ Sub S' S'' ∧ ∀ a, a ≠ D → S'' a = S' a := by
  let S'' : Fz := fun b => if b = D then some o else S' b
  have hsub : Sub S' S'' := fun b o' e => by
    show (if b = D then some o else S' b) = some o'
    by_cases hb : b = D
    · subst hb; rw [hS] at e; cases e
    · rw [if_neg hb]; exact e
  refine ⟨S'', ⟨X.same, X.ext.trans hsub, ⟨fun b o' e => hsub _ _ (X.mod.base b o' e), fun b o' e => ?_, fun b ys e => ?_⟩, X.keep, fun b hb hn => ?_, X.freshC, X.alive⟩, if_pos rfl, hsub, fun a ha => if_neg ha⟩
  · by_cases hb : b = D
    · subst hb
      have e' : (if b = b then some o else S' b) = some o' := e
      rw [if_pos rfl] at e'; rw [← e']; exact ho
    · have e' : (if b = D then some o else S' b) = some o' := e
      rw [if_neg hb] at e'; exact X.mod.sub b o' e'
  · obtain ⟨k1, vs', n', k2, k3⟩ := X.mod.cell b ys e
    have hb : b ≠ D := by rintro rfl; rw [hst] at e; cases e
    exact ⟨by show (if b = D then _ else S' b) = none; rw [if_neg hb]; exact k1, vs', n', k2, k3.mono hsub⟩
  · by_cases hb' : b = D
    · subst hb'; exact .inl hs
    · have e' : (if b = D then some o else S' b) ≠ none := hb
      rw [if_neg hb'] at e'; exact X.freshS b e' hn
theorem ext_takeC {W : Addr → Prop} {S S' : Fz} {st' : Store} {s s' : Shared} {D : Addr} {vs : List Value} {n : Nat} {xs : List PyData} (X : Ext g W S st s S' st' s') (hs : s.heap.get? D = none) (hS : S' D = none)
    (ho : s'.heap.get? D = some (Lo vs n)) (r : RdAll S' vs xs) : Ext g W S st s S' (st'.set D xs) s' := by
  refine ⟨X.same, X.ext, ⟨X.mod.base, X.mod.sub, fun b ys e => ?_⟩, X.keep, X.freshS, fun b hb hn => ?_, X.alive⟩
  · by_cases hb : b = D
    · subst hb
      have e' : xs = ys := by simpa [Store.set] using e
      subst e'
      exact ⟨hS, vs, n, ho, r⟩
    · have e' : st' b = some ys := by simpa [Store.set, hb] using e
      exact X.mod.cell b ys e'
  · by_cases hb' : b = D
    · subst hb'; exact hs
    · rw [Store.set_ne _ _ hb'] at hb; exact X.freshC b hb hn

theorem fin_comp {W : Addr → Prop} {S S' : Fz} {st' : Store} {s s' : Shared} {D C : Addr} {ws : List Value} {n : Nat} {acc : List Mine.D} {Q : Mine.D → Store → Prop} (X : Ext g W S st s S' st' s') (hs : s.heap.get? D = none) (hCD : C ≠ D)
    (c1 : S' C = none) (c2 : st' C = none) (d1 : S' D = none) (d2 : st' D = none) (hL : s'.heap.get? D = some (Lo ws n)) (hA : RepAll g S' ws acc) (hQ : FinC acc st' Q) :
    ∃ S'' st'' d, Ext g W S st s S'' st'' s' ∧ Rep g S'' (.ref D) d ∧ Q d st'' ∧ S'' C = none ∧ st'' C = none := by
  rcases hQ with ⟨xs, rfl, q⟩ | ⟨xs, rfl, q⟩ | ⟨ps, rfl, q⟩
  · obtain ⟨S'', X', e, hsub, hne⟩ := ext_take X hs d1 d2 hL
    exact ⟨S'', st', .dat (.list xs), X', Rd.list e ((rd_of_rep hA).mono hsub), q, (hne C hCD).trans c1, c2⟩
  · have X' := ext_takeC X hs d1 hL (rd_of_rep hA)
    exact ⟨S', _, .cell D, X', rfl, q D d2, c1, by rw [Store.set_ne _ _ hCD]; exact c2⟩
  · obtain ⟨S'', X', e, hsub, hne⟩ := ext_take X hs d1 d2 hL
    exact ⟨S'', st', .pcs ps, X', ⟨D, ws, n, rfl, e, (rdPcs_of hA).mono hsub⟩, q, (hne C hCD).trans c1, c2⟩

inductive kComp (g : Gr) (k : Nat) (env : Env) (ρ : Vars) (scope : Scope) (target elt : Expr) (ifs : List Expr) (Q : PE) (ds : List D) (src : List Addr) (st1 : Store) : Prop
  | mk (Inv : List D → List D → Store → Prop) (h0 : Inv ds [] st1)
      (step : ∀ C x rem acc st', Inv (x :: rem) acc st' → AsJ g k (fun a => a = C) (compEnvC scope (clOf scope env) C env) (compVars scope ρ) target x st' (kC1 g k (compEnvC scope (clOf scope env) C env) ifs elt Inv rem acc src st'))
      (fin : ∀ acc st', Inv [] acc st' → FinC acc st' Q)
theorem ev_comp {elt target iter : Expr} {ifs : List Expr} {scope : Scope} {pos : Pos} {Q : D → Store → Prop}
    (h : ItJ g k env ρ iter target st (kComp g k env ρ scope target elt ifs Q))
    (hcl : closOk scope env = true := by rfl) (hkind : scope.kind = .function := by rfl) (hcell : ∀ y ∈ scope.names, y.2 ≠ .cell := by decide)
    (hnames : ∀ x ∈ scope.names, x.2 = .local → scope.names.lookup x.1 = some .local := by decide)
    (hs : ∀ x, foldedSetIterable iter env x = pure x := by intro _; rfl) : EvJ g k env ρ (.ListComp elt [⟨target, iter, ifs, 0⟩] scope pos) st Q := by
  intro A S s L M E
  rw [eval_ListComp]
  refine wpAny_comprehension_free (use := none) rfl hs (closureFor_clOf hcl) hkind hnames (wpAny_mono (h A S s L M E) (fun xv s1 y => wpAny_mono y (fun it s2 z => ?_) fun w0 w0 x => x) fun w0 w0 x => x)
  obtain ⟨S2, st2, fp, src, tg, R, ds, IT, ht, X2, hR, hf, Inv, hI, step, fin⟩ := z
  refine comp_core (RR := fun acc C => compPost (model g.prog g.w) A E0 none (EndE g S st s Q) acc C) hcl hkind hcell L E IT ht X2 hR hf Inv hI step ?_
  intro S' st' s' D C ws n acc m X fC fD hCD c1 c2 d1 d2 hN hL hA hInv
  obtain ⟨S'', st'', d, X', r, q, c1', c2'⟩ := fin_comp X fD hCD c1 c2 d1 d2 hL hA (fin _ _ hInv)
  refine ⟨m, hN, fun h' hs' => ?_⟩
  have X0 : Ext g NoW S st s S'' st'' s' := Ext.narrow (fp := [C, D]) (X'.wider fun a h => .inr (by rcases h with rfl | rfl <;> simp)) fun b hb => by
    rcases List.mem_cons.mp hb with rfl | hb
    · exact fC
    · rw [List.mem_singleton] at hb; subst hb; exact fD
  have X1 := X0.drop (h' := h') (tk := s'.toks) (fp := [C]) (fun b hb => by rw [List.mem_singleton] at hb; subst hb; exact ⟨c1', c2', fC⟩) fun b o hb e => (hs'.2 b (by simpa using hb)).trans e
  exact ⟨S'', st'', d, X1, r, q⟩

theorem sm_comp {elt target iter : Expr} {ifs : List Expr} {scope : Scope} {pos py spos : Pos} {y : Str} {Q : Fl → Vars → Store → Prop} (hw : Wr env y)
    (h : ItJ g k env ρ iter target st (kComp g k env ρ scope target elt ifs (kSet ρ y Q)))
    (hsw : swapsWith (.ListComp elt [⟨target, iter, ifs, 0⟩] scope pos) (some (.Name y py)) spos.line env = pure true := by rfl)
    (hcl : closOk scope env = true := by rfl) (hkind : scope.kind = .function := by rfl) (hcell : ∀ y ∈ scope.names, y.2 ≠ .cell := by decide)
    (hnames : ∀ x ∈ scope.names, x.2 = .local → scope.names.lookup x.1 = some .local := by decide)
    (hs : ∀ x, foldedSetIterable iter env x = pure x := by intro _; rfl) : SmJ g k env ρ (.Assign [.Name y py] (.ListComp elt [⟨target, iter, ifs, 0⟩] scope pos) spos) st Q := by
  intro A S s L M E
  rw [exec_Assign_Name_used _ _ _ _ hsw]
  refine wpAny_bind (wpAny_standAt (wpAny_bind ?_))
  show wpAny _ A (do let _ ← comprehension (.ListComp elt [⟨target, iter, ifs, 0⟩] scope pos) scope env _ (newList []) false (eval iter env) (some (assign (.Name y py) env))) _ _ s
  refine wpAny_bind (wpAny_mono (wpAny_comprehension_free (use := some (assign (.Name y py) env)) (Q := fun w0 s' => EndS g S st env s Q .next s') rfl hs (closureFor_clOf hcl) hkind hnames (wpAny_mono (h A S s L M E) (fun xv s1 yy => wpAny_mono yy (fun it s2 z => ?_) fun w0 w0 x => x) fun w0 w0 x => x)) (fun w0 s' hq => wpAny_pure (wpAny_pure hq)) fun w0 w0 e => e)
  obtain ⟨S2, st2, fp, src, tg, R, ds, IT, ht, X2, hR, hf, Inv, hI, step, fin⟩ := z
  refine comp_core (RR := fun acc C => compPost (model g.prog g.w) A E0 (some (assign (.Name y py) env)) (fun w0 s' => EndS g S st env s Q .next s') acc C) hcl hkind hcell L E IT ht X2 hR hf Inv hI step ?_
  intro S' st' s' D C ws n acc m X fC fD hCD c1 c2 d1 d2 hN hL hA hInv
  obtain ⟨S'', st'', d, X', r, q, c1', c2'⟩ := fin_comp X fD hCD c1 c2 d1 d2 hL hA (fin _ _ hInv)
  have hCo : ∀ a, Own env a → a ≠ C := fun a ha => by rintro rfl; have al := (E.off a ha).2.2; rw [fC] at al; cases al
  have X0 : Ext g NoW S st s S'' st'' s' := Ext.narrow (fp := [C, D]) (X'.wider fun a h => .inr (by rcases h with rfl | rfl <;> simp)) fun b hb => by
    rcases List.mem_cons.mp hb with rfl | hb
    · exact fC
    · rw [List.mem_singleton] at hb; subst hb; exact fD
  show wpAny _ A (assign (.Name y py) env (.ref D)) _ _ _
  refine wpAny_assign_Name (store_var X0.mod (E.ext X0 no_nw) hw.own r fun s5 X5 E5 => ?_)
  have hN5 : s5.heap.Ns C m := hN.at' fun o e => X5.keep C o e c2' fun ho => hCo C ho rfl
  refine ⟨m, hN5, fun h' hs' => ?_⟩
  have X05 : Ext g (Own env) S st s S'' st'' s5 := (X0.wider fun w0 f => f.elim).trans X5
  have X1 := X05.drop (h' := h') (tk := s5.toks) (fp := [C]) (fun b hb => by rw [List.mem_singleton] at hb; subst hb; exact ⟨c1', c2', fC⟩) fun b o hb e => (hs'.2 b (by simpa using hb)).trans e
  exact ⟨S'', st'', _, .next, X1, E5.keepAll fun a o ha e => (hs'.2 a (hCo a ha)).trans e, trivial, q⟩
end
end Mine

namespace Mine
section
variable {g : Gr} {k : Nat} {env : Env} {ρ : Vars} {st : Store}

noncomputable def StLe (st st' : Store) : Prop := ∀ a xs, st a = some xs → st' a = some xs
theorem StLe.refl (st : Store) : StLe st st := fun w0 w0 h => h
theorem StLe.trans {st st' st'' : Store} (h : StLe st st') (k : StLe st' st'') : StLe st st'' := fun a xs e => k a xs (h a xs e)
theorem StLe.setN {st st' : Store} (h : StLe st st') {a : Addr} (xs : List PyData) (ha : st a = none) : StLe st (st'.set a xs) := fun b ys e => by
  have hb : b ≠ a := by rintro rfl; rw [ha] at e; cases e
  rw [Store.set_ne _ _ hb]; exact h b ys e
theorem StLe.set {st st' : Store} (h : StLe st st') (a : Addr) (xs : List PyData) : StLe (st.set a xs) (st'.set a xs) := fun b ys e => by
  by_cases hb : b = a
  · subst hb; rw [Store.set_same] at e ⊢; exact e
  · rw [Store.set_ne _ _ hb] at e ⊢; exact h b ys e

noncomputable def envF (sc : Scope) (q : Str) (cd : Value) (L a : Addr) : Env := newEnv sc L mainGlobals (cellsFrom (L + 1) sc.names []) (q ++ ".<locals>.") (some a) cd none builtinsNs

noncomputable def argVars : List Str → List D → Vars → Vars
  | n :: ns, d :: ds, ρ => argVars ns ds (ρ.set n d)
  | _, _, ρ => ρ

theorem bind_vars {S : Fz} {env : Env} : ∀ (ns : List Str) (vs : List Value) (ds : List D) (m cm : Str → Option Value) (ρ : Vars), RepAll g S vs ds → 
    (∀ x ∈ ns, env.kindOf x = some .local ∨ (env.kindOf x = some .cell ∧ ∃ c, env.cells.lookup x = some c)) → (∀ x d, ρ x = some d → ∃ v, Rep g S v d ∧ Reads1 env m cm x v) →
    ∀ x d, argVars ns ds ρ x = some d → ∃ v, Rep g S v d ∧ Reads1 env (bindL env.kindOf (ns.zip vs) m) (bindC env.kindOf (ns.zip vs) cm) x v
  | [], vs, ds, m, cm, ρ, _, _, h, x, d, e => by
    have e' : ρ x = some d := by cases ds <;> exact e
    have := h x d e'
    cases vs <;> exact this
  | n :: ns, [], [], m, cm, ρ, _, _, h, x, d, e => h x d e
  | n :: ns, [], _ :: _, m, cm, ρ, r, _, _, _, _, _ => r.elim
  | n :: ns, _ :: _, [], m, cm, ρ, r, _, _, _, _, _ => r.elim
  | n :: ns, v :: vs, d0 :: ds, m, cm, ρ, r, hk, h, x, d, e => by
    refine bind_vars ns vs ds _ _ (ρ.set n d0) r.2 (fun y hy => hk y (.tail _ hy)) (fun y d' e' => ?_) x d e
    by_cases hy : y = n
    · subst hy
      have e2 : d0 = d' := by simpa [Vars.set] using e'
      subst e2
      refine ⟨v, r.1, ?_⟩
      rcases hk y (.head _) with hl | ⟨hl, hc⟩
      · exact .inl ⟨hl, by rw [if_pos hl]; simp⟩
      · exact .inr ⟨.inl hl, hc, by rw [if_neg (by rw [hl]; decide)]; simp⟩
    · have e2 : ρ y = some d' := by simpa [Vars.set, hy] using e'
      obtain ⟨w, rw', c⟩ := h y d' e2
      refine ⟨w, rw', ?_⟩
      rcases c with ⟨c1, c2⟩ | ⟨c1, c2, c3⟩
      · refine .inl ⟨c1, ?_⟩
        by_cases hl : env.kindOf n = some .local
        · rw [if_pos hl]; simpa [hy] using c2
        · rw [if_neg hl]; exact c2
      · refine .inr ⟨c1, c2, ?_⟩
        by_cases hl : env.kindOf n = some .local
        · rw [if_pos hl]; exact c3
        · rw [if_neg hl]; simpa [hy] using c3

theorem ca_fn {f : Addr} {fd : FuncData} {body : List Stmt} {ns : List Str} {ds : List D} {Q : D → Store → Prop} (hat : ∃ o, g.H0.get? f = some o ∧ o.data = .func fd) (hb : fd.body = .stmts body) (hcode : g.H0.CodeRec fd.code fd.qualname)
    (hr : fd.closure = [] ∧ fd.globals = mainGlobals ∧ fd.builtins = builtinsNs ∧ fd.scope.isCoroutine = false ∧ fd.scope.isGenerator = false ∧ fd.scope.kind = .function)
    (h : ∀ L a, ExJ g k (envF fd.scope fd.qualname fd.code L a) (argVars ns ds fun w0 => none) body st fun fl w0 st' => match fl with
      | .ret d => ∃ st2, StLe st2 st' ∧ Q d st2
      | .next => ∃ st2, StLe st2 st' ∧ Q (.dat .none) st2
      | .brk => ∃ st2, StLe st2 st' ∧ Q (.dat .none) st2
      | .cont => ∃ st2, StLe st2 st' ∧ Q (.dat .none) st2)
    (hbind : ∀ vs : List Value, vs.length = ds.length → bindArgs fd ⟨vs, []⟩ = pure (ns.zip vs))
    (hkind : ∀ n, (ns.all fun x => fd.scope.names.lookup x == some .local || (fd.scope.names.lookup x == some .cell && ((cellsFrom n fd.scope.names []).lookup x).isSome)) = true) : CaJ g (k + 1) (.ref f) ds st Q := by
  intro A S s vs Lv' M r
  obtain ⟨o, ho, hd⟩ := hat
  obtain ⟨hcl, hgl, hbl, hco, hgen, hk⟩ := hr
  have hlen : vs.length = ds.length := by
    clear h hbind hkind hd
    induction vs generalizing ds with
    | nil => cases ds with | nil => rfl | cons => exact r.elim
    | cons v vs ih => cases ds with | nil => exact r.elim | cons d ds => rw [List.length_cons, List.length_cons, ih r.2]
  have hk0 : ∀ b o, g.H0.get? b = some o → s.heap.get? b = some o := fun b o e => M.sub _ _ (M.base _ _ e)
  have henv : callEnvC fd s.heap.objs.size f = envF fd.scope fd.qualname fd.code s.heap.objs.size f := by unfold callEnvC envF; rw [hgl, hbl]
  have hkin : ∀ x ∈ ns, fd.scope.names.lookup x = some .local ∨ (fd.scope.names.lookup x = some .cell ∧ ((cellsFrom (s.heap.objs.size + 1) fd.scope.names []).lookup x).isSome = true) := fun x hx => by
    have := List.all_eq_true.mp (hkind (s.heap.objs.size + 1)) x hx
    simpa [Bool.or_eq_true, Bool.and_eq_true, beq_iff_eq] using this
  refine wpAny_call (codeAny_call_cells (fd := fd) (body := body) (binds := ns.zip vs) (by have := Lv'.2.1; show A.depth < 1000; (first | with_reducible exact Mine.zx9b (by assumption) | omega)) (hk0 _ _ ho) hd (g.hnl.keeps hk0) (hcode.keeps hk0) hb (hbind vs hlen) hcl (fun x hx => hkin x.1 (List.of_mem_zip hx).1) (fun s1 X => ?_) hco hgen hk)
  · rw [henv] at X ⊢
    obtain ⟨h1, tk, e1, _⟩ := X.done
    have X1 : Ext g NoW S st s S st s1 := by rw [e1]; exact ext_all M (by have := X.toInCall.keep; rw [e1] at this; exact this)
    have hfresh : ∀ a, Own (envF fd.scope fd.qualname fd.code s.heap.objs.size f) a → s.heap.get? a = none := fun a ha => Heap.get?_none_of_le (by
      rcases ha with rfl | ⟨n, hn⟩
      · exact Nat.le_refl _
      · exact Nat.le_of_lt (X.above n a (mem_of_lookup hn)))
    have hal : ∀ a, Own (envF fd.scope fd.qualname fd.code s.heap.objs.size f) a → (s1.heap.get? a).isSome := fun a ha => by
      rcases ha with rfl | ⟨n, hn⟩
      · obtain ⟨o, es, ep, ho, _⟩ := X.toInCall.ns; rw [ho]; rfl
      · obtain ⟨o, ho, _⟩ := X.cell n a hn; rw [ho]; rfl
    have E : EnvM g S st (envF fd.scope fd.qualname fd.code s.heap.objs.size f) (argVars ns ds fun w0 => none) s1.heap := by
      refine ⟨hk, rfl, rfl, ⟨_, _, X.toInCall.ns, X.cell, ?_⟩, fun a ha => ?_, fun n n' c h1 h2 => name_of_addr X.apart (mem_of_lookup h1) (mem_of_lookup h2), fun n c hn => Nat.ne_of_gt (X.above n c (mem_of_lookup hn))⟩
      · refine bind_vars ns vs ds _ _ _ r (fun x hx => ?_) (fun x d e => by cases e)
        rcases hkin x hx with a | ⟨a, b⟩
        · exact .inl a
        · exact .inr ⟨a, Option.isSome_iff_exists.mp b⟩
      · obtain ⟨o1, o2⟩ := fresh_off M (hfresh a ha)
        exact ⟨o1, o2, hal a ha⟩
    refine wpAny_mono (h _ _ _ S s1 (Lv'.deeper _) X1.mod E) (fun fl s' z => ?_) fun w0 w0 x => x.elim
    obtain ⟨S', st', ρ', fl', X2, E2, rf, q'⟩ := z
    have X3 : Ext g (Own (envF fd.scope fd.qualname fd.code s.heap.objs.size f)) S st s S' st' s' := (X1.wider fun w0 f => f.elim).trans X2
    have X4 : ∀ st2, StLe st2 st' → Ext g NoW S st s S' st2 s' := fun st2 hle =>
      ⟨X3.same, X3.ext, ⟨X3.mod.base, X3.mod.sub, fun a xs e => X3.mod.cell a xs (hle a xs e)⟩, fun a o e hs w0 => X3.keep a o e hs fun ho => (by rw [hfresh a ho] at e; cases e), X3.freshS, fun a ha hn => X3.freshC a (fun e => by
        cases q : st2 a with
        | none => exact ha q
        | some xs => rw [hle a xs q] at e; cases e) hn, X3.alive⟩
    cases fl <;> cases fl' <;> first | exact rf.elim | skip
    · obtain ⟨st2, hle, qq⟩ := q'; exact ⟨S', st2, .dat .none, X4 st2 hle, Rd.none, qq⟩
    · obtain ⟨st2, hle, qq⟩ := q'; exact ⟨S', st2, .dat .none, X4 st2 hle, Rd.none, qq⟩
    · obtain ⟨st2, hle, qq⟩ := q'; exact ⟨S', st2, .dat .none, X4 st2 hle, Rd.none, qq⟩
    · obtain ⟨st2, hle, qq⟩ := q'; exact ⟨S', st2, _, X4 st2 hle, rf, qq⟩

noncomputable def fdOf (K : Frag) (f : Addr) : Option FuncData := match K.lookup f with
  | some ⟨_, _, .func fd, _⟩ => some fd
  | _ => none
noncomputable def bodyOf (fd : Option FuncData) : List Stmt := match fd with
  | some ⟨_, _, _, .stmts b, _, _, _, _, _, _, _, _, _, _, _⟩ => b
  | _ => []
end
end Mine

namespace Mine
section
variable {g : Gr} {k : Nat} {env : Env} {ρ : Vars} {st : Store}


theorem fdOf_get {K : Frag} {h : Heap} (X : K.In h) {f : Addr} {fd : FuncData} (e : fdOf K f = some fd) : ∃ o, h.get? f = some o ∧ o.data = .func fd := by
  unfold fdOf at e
  split at e
  · rename_i q; cases e; exact ⟨_, X _ _ q, rfl⟩
  · cases e

noncomputable abbrev FnPost (Q : D → Store → Prop) : Fl → Vars → Store → Prop := fun fl w0 st' => ∃ st2, StLe st2 st' ∧ Q (match fl with | .ret d => d | _ => .dat .none) st2

theorem ca_own {P : Params} (hK : g.K = Kx P) {f : Addr} {body : List Stmt} {sc : Scope} {nm q : Str} {cd df kd dc pm ct : Value} {pr : Arguments} {gl bl : Addr} {cl : List (Str × Addr)} {an : Option Addr} (ns : List Str) {ds : List D} {Q : D → Store → Prop}
    (e : fdOf (Kx P) f = some ⟨nm, q, pr, .stmts body, sc, gl, cl, df, kd, dc, pm, an, cd, ct, bl⟩)
    (h : ∀ L a, ExJ g k (envF sc q cd L a) (argVars ns ds fun w0 => none) body st (FnPost Q))
    (hcd : codeIn (Kx P) cd q = true)
    (hbind : ∀ vs : List Value, vs.length = ds.length → bindArgs ⟨nm, q, pr, .stmts body, sc, gl, cl, df, kd, dc, pm, an, cd, ct, bl⟩ ⟨vs, []⟩ = pure (ns.zip vs))
    (hkind : ∀ n, (ns.all fun x => sc.names.lookup x == some .local || (sc.names.lookup x == some .cell && ((cellsFrom n sc.names []).lookup x).isSome)) = true)
    (hr : cl = [] ∧ gl = mainGlobals ∧ bl = builtinsNs ∧ sc.isCoroutine = false ∧ sc.isGenerator = false ∧ sc.kind = .function) : CaJ g (k + 1) (.ref f) ds st Q := by
  obtain ⟨o, ho, hd'⟩ := fdOf_get (hK ▸ g.kin) e
  refine ca_fn ⟨o, ho, hd'⟩ rfl (codeRec_of (hK ▸ g.kin) hcd) hr (fun L a => (h L a).mono fun fl ρ' st' z => ?_) hbind hkind
  cases fl <;> exact z

theorem nm_own {P : Params} (hK : g.K = Kx P) {x : Str} {v : Value} (e : nsIn (Kx P) mainGlobals x = some (some v)) : Names g x v := .inl (mg_of g.kin g.hg (hK ▸ e))
set_option tactic.hygienic true in
theorem mg_none {K : Frag} {h : Heap} {mg : Str → Option Value} {n : Str} (X : K.In h) (G : h.Ns mainGlobals mg) (e : nsIn K mainGlobals n = some none) : mg n = none := by
  obtain ⟨o, es, ep, ho, hd, _, hf⟩ := G
  unfold nsIn at e
  split at e
  · rename_i c d es' n' sl q
    have := X _ _ q
    rw [ho] at this
    cases this
    cases hd
    split at e
    · cases e
    · rename_i hq
      rw [← hf n]
      unfold nsFind findBy
      rw [← Array.find?_toList, hq]; rfl
  · cases e
theorem nm_built {P : Params} (hK : g.K = Kx P) {x : Str} {v : Value} (e : nsIn (Kx P) mainGlobals x = some none) (hb : bootBuiltins x = some v) (hx : x ≠ Str.ofString "__name__") : Names g x v :=
  .inr ⟨mg_none g.kin g.hg (hK ▸ e), (g.hbt x hx).trans hb⟩

theorem uncons {α : Type} {n : Nat} {l : List α} (h : l.length = n + 1) : ∃ x r, l = x :: r ∧ r.length = n := by
  cases l with
  | nil => cases h
  | cons x r => exact ⟨x, r, rfl, Nat.succ.inj h⟩
theorem hb1 {fd : FuncData} {x : Str} (h : ∀ v, bindArgs fd ⟨[v], []⟩ = pure [(x, v)]) (vs : List Value) (hl : vs.length = 1) : bindArgs fd ⟨vs, []⟩ = pure ([x].zip vs) := by
  obtain ⟨v, l0, rfl, k0⟩ := uncons hl
  rw [List.eq_nil_of_length_eq_zero k0]; exact h v
theorem hb2 {fd : FuncData} {x y : Str} (h : ∀ v w, bindArgs fd ⟨[v, w], []⟩ = pure [(x, v), (y, w)]) (vs : List Value) (hl : vs.length = 2) : bindArgs fd ⟨vs, []⟩ = pure ([x, y].zip vs) := by
  obtain ⟨v, l0, rfl, k0⟩ := uncons hl
  obtain ⟨w, l1, rfl, k1⟩ := uncons k0
  rw [List.eq_nil_of_length_eq_zero k1]; exact h v w
theorem hb3 {fd : FuncData} {x y z : Str} (h : ∀ v w u, bindArgs fd ⟨[v, w, u], []⟩ = pure [(x, v), (y, w), (z, u)]) (vs : List Value) (hl : vs.length = 3) : bindArgs fd ⟨vs, []⟩ = pure ([x, y, z].zip vs) := by
  obtain ⟨v, l0, rfl, k0⟩ := uncons hl
  obtain ⟨w, l1, rfl, k1⟩ := uncons k0
  obtain ⟨u, l2, rfl, k2⟩ := uncons k1
  rw [List.eq_nil_of_length_eq_zero k2]; exact h v w u
theorem hb4 {fd : FuncData} {x y z t : Str} (h : ∀ v w u r, bindArgs fd ⟨[v, w, u, r], []⟩ = pure [(x, v), (y, w), (z, u), (t, r)]) (vs : List Value) (hl : vs.length = 4) : bindArgs fd ⟨vs, []⟩ = pure ([x, y, z, t].zip vs) := by
  obtain ⟨v, l0, rfl, k0⟩ := uncons hl
  obtain ⟨w, l1, rfl, k1⟩ := uncons k0
  obtain ⟨u, l2, rfl, k2⟩ := uncons k1
  obtain ⟨r, l3, rfl, k3⟩ := uncons k2
  rw [List.eq_nil_of_length_eq_zero k3]; exact h v w u r
theorem hb5 {fd : FuncData} {x y z t i : Str} (h : ∀ v w u r q, bindArgs fd ⟨[v, w, u, r, q], []⟩ = pure [(x, v), (y, w), (z, u), (t, r), (i, q)]) (vs : List Value) (hl : vs.length = 5) : bindArgs fd ⟨vs, []⟩ = pure ([x, y, z, t, i].zip vs) := by
  obtain ⟨v, l0, rfl, k0⟩ := uncons hl
  obtain ⟨w, l1, rfl, k1⟩ := uncons k0
  obtain ⟨u, l2, rfl, k2⟩ := uncons k1
  obtain ⟨r, l3, rfl, k3⟩ := uncons k2
  obtain ⟨q, l4, rfl, k4⟩ := uncons k3
  rw [List.eq_nil_of_length_eq_zero k4]; exact h v w u r q

structure Tx (g : Gr) (P : Params) : Prop where
  K : g.K = Kx P
  cls : Cls g
  len : Names g "len" (.builtin "len")
  max : Names g "max" (.builtin "max")
  min : Names g "min" (.builtin "min")
  all : Names g "all" (.builtin "all")
  repr : Names g "repr" (.builtin "repr")
  sorted : Names g "sorted" (.builtin "sorted")
  range : Names g "range" (.type "range")
  enumerate : Names g "enumerate" (.type "enumerate")
  list : Names g "list" (.type "list")
  C : g.C = 36
  ini : g.ini = 28
  idl : g.idl = 33

theorem Tx.of {P : Params} (hK : g.K = Kx P) (h1 : g.C = 36) (h2 : g.ini = 28) (h3 : g.idl = 33) : Tx g P where
  K := hK
  C := h1
  ini := h2
  idl := h3
  cls := ⟨fun n => by rw [hK, h1]; rfl, by rw [hK, h1]; rfl, by rw [hK, h1]; rfl, by rw [hK, h1]; rfl, by rw [hK, h1]; rfl, by rw [hK, h1, h3]; rfl, by rw [hK, h3]; rfl, by rw [hK, h3]; rfl⟩
  len := nm_built hK rfl rfl (by decide)
  max := nm_built hK rfl rfl (by decide)
  min := nm_built hK rfl rfl (by decide)
  all := nm_built hK rfl rfl (by decide)
  repr := nm_built hK rfl rfl (by decide)
  sorted := nm_built hK rfl rfl (by decide)
  range := nm_built hK rfl rfl (by decide)
  enumerate := nm_built hK rfl rfl (by decide)
  list := nm_built hK rfl rfl (by decide)

theorem Tx.nm {P : Params} (T : Tx g P) {x : Str} {v : Value} (e : nsIn (Kx P) mainGlobals x = some (some v) := by rfl) : Names g x v := nm_own T.K e
theorem Tx.ok {P : Params} (T : Tx g P) {v : Value} (e : keepIn (Kx P) v = true := by rfl) : CallOk g v := .inl (T.K ▸ e)
theorem okB {id : String} : CallOk g (.builtin id) := .inr (.inl ⟨_, rfl⟩)
theorem okT {id : String} : CallOk g (.type id) := .inr (.inr ⟨_, rfl⟩)
end

end Mine

namespace Mine

noncomputable def iL (l : List Int) : PyData := .list (l.map .int)
theorem lvD_eq (lv : List (List Int)) : lvD lv = .list (lv.map iL) := rfl
noncomputable def prD (p : Int × Int) : PyData := .tuple [.int p.1, .int p.2]
noncomputable def prsL (l : List (Int × Int)) : List PyData := l.map prD
noncomputable def pcD (p : Pc) : PyData := .tuple [.int p.a, .int p.b, lvD p.lv]
noncomputable def opD {α : Type} (f : α → PyData) : Option α → PyData
  | none => .none
  | some x => f x

noncomputable def Sh (n : Nat) (p : PyData) : Prop := p.canLay0 = true ∧ p.depth ≤ n
theorem canLayAll0_of : ∀ {xs : List PyData}, (∀ x ∈ xs, x.canLay0 = true) → PyData.canLayAll0 xs = true
  | [], _ => by simp only [PyData.canLayAll0]
  | x :: xs, h => by simp only [PyData.canLayAll0, h x (.head _), canLayAll0_of (fun y hy => h y (.tail _ hy)), Bool.and_true]
theorem depthAll_of {n : Nat} : ∀ {xs : List PyData}, (∀ x ∈ xs, x.depth ≤ n) → PyData.depthAll xs ≤ n
  | [], _ => by simp only [PyData.depthAll]; (first | with_reducible exact Nat.zero_le _ | omega)
  | x :: xs, h => by
    have h1 := h x (.head _)
    have h2 := depthAll_of (xs := xs) (fun y hy => h y (.tail _ hy))
    simp only [PyData.depthAll]; omega
theorem Sh.int (i : Int) : Sh 0 (.int i) := ⟨by simp only [PyData.canLay0], by simp only [PyData.depth]; (first | with_reducible exact Nat.zero_le _ | omega)⟩
theorem Sh.bool (i : Bool) : Sh 0 (.bool i) := ⟨by simp only [PyData.canLay0], by simp only [PyData.depth]; (first | with_reducible exact Nat.zero_le _ | omega)⟩
theorem Sh.none : Sh 0 .none := ⟨by simp only [PyData.canLay0], by simp only [PyData.depth]; (first | with_reducible exact Nat.zero_le _ | omega)⟩
theorem Sh.list {n : Nat} {xs : List PyData} (h : ∀ x ∈ xs, Sh n x) : Sh (n + 1) (.list xs) :=
  ⟨by simp only [PyData.canLay0]; exact canLayAll0_of fun x hx => (h x hx).1, by
    have := depthAll_of (xs := xs) (n := n) fun x hx => (h x hx).2
    simp only [PyData.depth]; (first | with_reducible exact Nat.succ_le_succ (by assumption) | omega)⟩
theorem Sh.tuple {n : Nat} {xs : List PyData} (h : ∀ x ∈ xs, Sh n x) : Sh (n + 1) (.tuple xs) :=
  ⟨by simp only [PyData.canLay0]; exact canLayAll0_of fun x hx => (h x hx).1, by
    have := depthAll_of (xs := xs) (n := n) fun x hx => (h x hx).2
    simp only [PyData.depth]; (first | with_reducible exact Nat.succ_le_succ (by assumption) | omega)⟩
theorem Sh.ok {n : Nat} {p : PyData} (h : Sh n p) (hn : n ≤ 64 := by decide) : SeqAt.shaped p = true := by
  unfold SeqAt.shaped; rw [h.1, Bool.true_and]; exact decide_eq_true (Nat.le_trans h.2 hn)
theorem sh_iL (l : List Int) : Sh 1 (iL l) := Sh.list fun x hx => by
  obtain ⟨i, _, rfl⟩ := List.mem_map.mp hx; exact Sh.int i
theorem sh_lvD (lv : List (List Int)) : Sh 2 (lvD lv) := Sh.list fun x hx => by
  obtain ⟨l, _, rfl⟩ := List.mem_map.mp hx; exact sh_iL l
theorem sh_prD (p : Int × Int) : Sh 1 (prD p) := Sh.tuple fun x hx => by
  simp only [List.mem_cons, List.not_mem_nil, or_false] at hx
  rcases hx with rfl | rfl <;> exact Sh.int _
theorem sh_prsL (l : List (Int × Int)) : Sh 2 (.list (prsL l)) := Sh.list fun x hx => by
  obtain ⟨i, _, rfl⟩ := List.mem_map.mp hx; exact sh_prD i
theorem sh_bools (l : List Bool) : Sh 1 (.list (l.map .bool)) := Sh.list fun x hx => by
  obtain ⟨i, _, rfl⟩ := List.mem_map.mp hx; exact Sh.bool i
theorem sh_opI (o : Option Int) : Sh 0 (opD .int o) := by cases o <;> first | exact Sh.none | exact Sh.int _
theorem sh_opP (o1 o2 : Option Int) : Sh 1 (.tuple [opD .int o1, opD .int o2]) := Sh.tuple fun x hx => by
  simp only [List.mem_cons, List.not_mem_nil, or_false] at hx
  rcases hx with rfl | rfl <;> exact sh_opI _

theorem eqvAll_map {α : Type} [DecidableEq α] {f : α → PyData} (h : ∀ a b, PyData.eqv (f a) (f b) = decide (a = b)) : ∀ (xs ys : List α), PyData.eqvAll (xs.map f) (ys.map f) = decide (xs = ys)
  | [], [] => by simp [PyData.eqvAll]
  | [], _ :: _ => by simp [PyData.eqvAll]
  | _ :: _, [] => by simp [PyData.eqvAll]
  | x :: xs, y :: ys => by simp [PyData.eqvAll, h x y, eqvAll_map h xs ys, Bool.decide_and]
theorem eqv_int (a b : Int) : PyData.eqv (.int a) (.int b) = decide (a = b) := by
  simp only [PyData.eqv]; exact Bool.eq_iff_iff.mpr (by simp)
theorem eqv_bool (a b : Bool) : PyData.eqv (.bool a) (.bool b) = decide (a = b) := by cases a <;> cases b <;> rfl
theorem eqv_iL (a b : List Int) : PyData.eqv (iL a) (iL b) = decide (a = b) := by
  unfold iL; simp only [PyData.eqv]; exact eqvAll_map eqv_int a b
theorem eqv_lvD (a b : List (List Int)) : PyData.eqv (lvD a) (lvD b) = decide (a = b) := by
  rw [lvD_eq, lvD_eq]; simp only [PyData.eqv]; exact eqvAll_map eqv_iL a b
theorem eqv_bools (a b : List Bool) : PyData.eqv (.list (a.map .bool)) (.list (b.map .bool)) = decide (a = b) := by
  simp only [PyData.eqv]; exact eqvAll_map eqv_bool a b
theorem eqv_prD (a b : Int × Int) : PyData.eqv (prD a) (prD b) = decide (a = b) := by
  obtain ⟨a1, a2⟩ := a; obtain ⟨b1, b2⟩ := b
  apply Bool.eq_iff_iff.mpr; simp [prD, PyData.eqv, PyData.eqvAll]
theorem eqv_prsL (a b : List (Int × Int)) : PyData.eqv (.list (prsL a)) (.list (prsL b)) = decide (a = b) := by
  simp only [PyData.eqv]; exact eqvAll_map eqv_prD a b
theorem iL_nil : (PyData.list [] : PyData) = iL [] := rfl
theorem lvD_nil : (PyData.list [] : PyData) = lvD [] := rfl
theorem prsL_nil : (PyData.list [] : PyData) = .list (prsL []) := rfl
end Mine

namespace Mine
section
variable {g : Gr} {k : Nat} {env : Env} {ρ : Vars} {st : Store} {P : Params}

theorem clip_nat {n b : Nat} : clipAt n (b : Int) = min b n := by
  unfold clipAt
  rw [if_neg (Int.not_lt.mpr (Int.natCast_nonneg b))]
  rcases Nat.le_total b n with h | h
  · rw [Int.min_eq_left (Int.ofNat_le.mpr h), Int.max_eq_right (Int.natCast_nonneg b), Int.toNat_natCast, Nat.min_eq_left h]
  · rw [Int.min_eq_right (Int.ofNat_le.mpr h), Int.max_eq_right (Int.natCast_nonneg n), Int.toNat_natCast, Nat.min_eq_right h]
theorem take_clip {xs : List PyData} {b : Nat} : (xs.drop ((none : Option Int).elim 0 (clipAt xs.length))).take ((some (b : Int)).elim xs.length (clipAt xs.length) - (none : Option Int).elim 0 (clipAt xs.length)) = xs.take b := by
  simp only [Option.elim, List.drop_zero, Nat.sub_zero]
  rw [clip_nat, List.take_eq_take_iff, Nat.min_assoc, Nat.min_self]
theorem ite_t {b : Bool} {p q : Prop} (hb : b = true) (h : p) : if b = true then p else q := by rw [if_pos hb]; exact h
theorem ite_f {b : Bool} {p q : Prop} (hb : b = false) (h : q) : if b = true then p else q := by rw [hb]; exact h
theorem of_t {p q : Prop} (h : if true = true then p else q) : p := by rw [if_pos rfl] at h; exact h
theorem of_f {p q : Prop} (h : if false = true then p else q) : q := by rw [if_neg (by decide)] at h; exact h
theorem op_fdiv_int {a b : Int} {Q : D → Store → Prop} (hb : b ≠ 0) (hs : b.natAbs < 1073741824) (q : Q (.dat (.int (a.fdiv b))) st) : OpJ g k (binaryOp .FloorDiv) (.dat (.int a)) (.dat (.int b)) st Q := by
  intro A S s v1 v2 L M r1 r2
  cases r1; cases r2
  exact floordiv_int hb ⟨S, st, .dat (.int _), .tok M _, Rd.int _ _, q⟩ (.inl (PyProof.noPylong_small hs))
theorem mulOk {a b : Int} (h0 : 0 ≤ a) (h : a < 9000000000) : IntMulOk a b := by
  refine IntMulOk.of_left ?_
  unfold Builtin.Int.intBits
  split
  · (first | with_reducible exact Nat.zero_le _ | omega)
  · rename_i hne
    have h1 : a.natAbs ≠ 0 := by simp at hne; omega
    have h2 : a.natAbs.log2 < 40 := (Nat.log2_lt h1).mpr (by omega)
    omega
theorem fmod_bounds {a b : Int} (hb : 0 < b) : 0 ≤ a.fmod b ∧ a.fmod b < b := ⟨Int.fmod_nonneg_of_pos _ hb, Int.fmod_lt_of_pos _ hb⟩
theorem pick_ints {cs : List Int} {i : Int} (h0 : 0 ≤ i) (h : i < cs.length) (h3 : cs.length ≤ 1000) : ∃ c, c ∈ cs ∧ PickOk (cs.map .int) i (.int c) := by
  have hl : i.toNat < cs.length := by omega
  exact ⟨cs[i.toNat], List.getElem_mem hl, .map (f := .int) (n := i.toNat) (by (first | with_reducible exact Mine.zi7 (by assumption) | omega)) (List.getElem?_eq_getElem hl) h3⟩

inductive WellOk (xs : List PyData) : Prop
  | mk (cs : List Int) (sp tt : Int) (h : xs = [iL cs, .int sp, .int tt]) (h1 : ∀ c ∈ cs, 0 ≤ c ∧ c < 1000003) (h2 : cs.length ≤ 60) (h3 : 0 ≤ sp) (h4 : 0 ≤ tt) (h5 : tt < 2147483648)

theorem c_draw (T : Tx g P) {w : Addr} {xs : List PyData} {below : Int} {Q : D → Store → Prop} (h0 : st w = some xs) (hw : WellOk xs) (hb : 0 < below)
    (q : ∀ r ys, 0 ≤ r → r < below → WellOk ys → Q (.dat (.int r)) (st.set w ys)) : CaJ g (k + 1) (.ref 113) [.cell w, .dat (.int below)] st Q := by
  obtain ⟨cs, sp, tt, rfl, h1, h2, h3, h4, h5⟩ := hw
  refine ca_own T.K ["well", "below"] rfl (fun L a => ?_) rfl (hb2 fun w0 w0 => rfl) (fun w0 => rfl) ⟨rfl, rfl, rfl, rfl, rfl, rfl⟩
  refine ex_cons <| sm_swap2 (.inl rfl) (.inl rfl) <| evs_cons <| ev_item <| ev_name rfl <| ev_int ⟨_, _, _, .inr ⟨_, rfl, h0⟩, rfl, .at rfl rfl (Nat.le_of_ble_eq_true rfl), ?_⟩
  refine evs_cons <| ev_item <| ev_name rfl <| ev_int ⟨_, _, _, .inr ⟨_, rfl, h0⟩, rfl, .at rfl rfl (Nat.le_of_ble_eq_true rfl), ?_⟩
  refine evs_nil ⟨_, _, rfl, ?_⟩
  refine ex_cons <| sm_setitem rfl <| ev_bin <| ev_name rfl <| ev_int <| op_add_int <| ev_int ⟨_, _, 1, _, rfl, rfl, h0, by simp, .inl ⟨by decide, rfl⟩, by simp, ?_⟩
  refine ex_cons <| sm_if <| tr_cmp <| ev_name rfl <| ev_call T.len okB <| evs_cons <| ev_name rfl <| evs_nil <| ca_len .dat (len_map (Nat.le_trans h2 (by decide))) <| cm_lt ?_
  by_cases hlt : sp < ((cs.map PyData.int).length : Int)
  · refine ite_t (decide_eq_true hlt) ?_
    rw [List.length_map] at hlt
    obtain ⟨c, hc, hp⟩ := pick_ints h3 hlt (Nat.le_trans h2 (by decide))
    have hcb := h1 c hc
    have hpk : ∀ st1 : Store, LstOf st1 (.dat (iL cs)) (cs.map .int) := fun w0 => .dat
    refine ex_cons <| sm_setitem rfl <| ev_bin <| ev_bin <| ev_bin <| ev_item <| ev_name rfl <| ev_int ⟨_, _, _, .inr ⟨_, rfl, Store.set_same ..⟩, rfl, .at rfl rfl (Nat.le_of_ble_eq_true rfl), ?_⟩
    refine ev_int <| op_mul_int ?_ (mulOk h4 (by omega))
    refine ev_item <| ev_name rfl <| ev_name rfl ⟨_, _, _, hpk _, rfl, hp, ?_⟩
    refine op_add_int <| ev_int <| op_mod_int (by decide) <| ev_int ⟨_, _, 2, _, rfl, rfl, Store.set_same .., by simp, .inl ⟨by decide, rfl⟩, by simp, ?_⟩
    refine ex_cons <| sm_return <| ev_bin <| ev_item <| ev_name rfl <| ev_name rfl ⟨_, _, _, hpk _, rfl, hp, ?_⟩
    refine ev_name rfl <| op_mod_int (by omega) ⟨_, .refl _, ?_⟩
    have hm := fmod_bounds (a := c) hb
    have hm2 := fmod_bounds (a := tt * 31 + c) (b := 1000003) (by decide)
    rw [Store.set_set]
    exact q _ _ hm.1 hm.2 ⟨cs, sp + 1, _, rfl, h1, h2, by (first | with_reducible exact Mine.zi14 (by assumption) | omega), hm2.1, by omega⟩
  · refine ite_f (decide_eq_false hlt) <| ex_nil ?_
    refine ex_cons <| sm_setitem rfl <| ev_bin <| ev_bin <| ev_bin <| ev_item <| ev_name rfl <| ev_int ⟨_, _, _, .inr ⟨_, rfl, Store.set_same ..⟩, rfl, .at rfl rfl (Nat.le_of_ble_eq_true rfl), ?_⟩
    refine ev_int <| op_mul_int ?_ (mulOk h4 (by omega))
    refine ev_int <| op_add_int <| ev_int <| op_mod_int (by decide) <| ev_int ⟨_, _, 2, _, rfl, rfl, Store.set_same .., by simp, .inl ⟨by decide, rfl⟩, by simp, ?_⟩
    refine ex_cons <| sm_return <| ev_bin <| ev_bin <| ev_item <| ev_name rfl <| ev_int ⟨_, _, _, .inr ⟨_, rfl, Store.set_same ..⟩, rfl, .at rfl rfl (Nat.le_of_ble_eq_true rfl), ?_⟩
    refine ev_int <| op_fdiv_int (by decide) (by decide) <| ev_name rfl <| op_mod_int (by omega) ⟨_, .refl _, ?_⟩
    have hm2 := fmod_bounds (a := tt * 16807 + 148) (b := 2147483647) (by decide)
    have hm := fmod_bounds (a := ((tt * 16807 + 148).fmod 2147483647).fdiv 64) hb
    rw [Store.set_set]
    exact q _ _ hm.1 hm.2 ⟨cs, sp + 1, _, rfl, h1, h2, by (first | with_reducible exact Mine.zi14 (by assumption) | omega), hm2.1, by omega⟩
end
end Mine

namespace Mine
section
variable {g : Gr} {k : Nat} {env : Env} {ρ : Vars} {st : Store} {P : Params}


inductive kP3 {α : Type} (F : α → Option PyData) (x : α) (st1 : Store) (d : D) (st4 : Store) : Prop
  | mk (hs : st4 = st1) (p : PyData) (h : d = .dat p) (hF : F x = some p)
noncomputable abbrev kP2 {α : Type} (g : Gr) (k : Nat) (ce : Env) (ρ1 : Vars) (elt : Expr) (F : α → Option PyData) (x : α) (st1 : Store) : PB := fun b st3 =>
        if b = true then EvJ g k ce ρ1 elt st3 (kP3 F x st1) else st3 = st1 ∧ F x = none
noncomputable abbrev kP1 {α : Type} (g : Gr) (k : Nat) (ce : Env) (ifs : List Expr) (elt : Expr) (F : α → Option PyData) (x : α) (st1 : Store) : PV := fun ρ1 st2 => IfsJ g k ce ρ1 ifs st2 (kP2 g k ce ρ1 elt F x st1)
inductive kCP {α : Type} (g : Gr) (k : Nat) (env : Env) (ρ : Vars) (scope : Scope) (target elt : Expr) (ifs : List Expr) (f : α → D) (F : α → Option PyData) (xs : List α) (Q : PE) (ds : List D) (src : List Addr) (st1 : Store) : Prop
  | mk (h : ds = xs.map f) (hl : xs.length ≤ 1000000)
      (hx : ∀ C x, x ∈ xs → AsJ g k (fun a => a = C) (compEnvC scope (clOf scope env) C env) (compVars scope ρ) target (f x) st1 (kP1 g k (compEnvC scope (clOf scope env) C env) ifs elt F x st1))
      (q : Q (.dat (.list (xs.filterMap F))) st1 ∨ ∀ a, st1 a = none → Q (.cell a) (st1.set a (xs.filterMap F)))
theorem comp_h {α : Type} {f : α → D} {F : α → Option PyData} {xs : List α} {elt target iter : Expr} {ifs : List Expr} {scope : Scope} {Q : D → Store → Prop}
    (h : ItJ g k env ρ iter target st (kCP g k env ρ scope target elt ifs f F xs Q)) : ItJ g k env ρ iter target st (kComp g k env ρ scope target elt ifs Q) := by
  refine fun A S s L M E => wpAny_mono (h A S s L M E) (fun xv s1 y => wpAny_mono y (fun it s2 z => ?_) fun w0 w0 x => x) fun w0 w0 x => x
  obtain ⟨S', st1, fp, src, tg, R, ds, h1, h2, h3, h4, h5, rfl, hl, hx, hq⟩ := z
  refine ⟨S', st1, fp, src, tg, R, _, h1, h2, h3, h4, h5, fun rem acc st' => st' = st1 ∧ ∃ (rest : List α) (accL : List PyData), rem = rest.map f ∧ acc = accL.map D.dat ∧ accL ++ rest.filterMap F = xs.filterMap F ∧ accL.length + rest.length ≤ xs.length ∧ (∀ x ∈ rest, x ∈ xs), ?_, ?_, ?_⟩
  · exact ⟨rfl, xs, [], rfl, rfl, rfl, by simp, fun w0 h => h⟩
  · rintro C x rem acc st' ⟨rfl, rest, accL, e1, rfl, e2, e3, e4⟩
    cases rest with
    | nil => cases e1
    | cons y rest =>
      injection e1 with e1 e1'
      subst e1 e1'
      have hy := hx C y (e4 y (.head _))
      intro A S s v L M E r
      refine wpAny_mono (hy A S s v L M E r) (fun w0 s' z => ?_) fun w0 w0 x => x
      obtain ⟨S2, st2, ρ', X2, E2, q2⟩ := z
      refine ⟨S2, st2, ρ', X2, E2, ?_⟩
      intro A S s L M E
      refine wpAny_mono (q2 A S s L M E) (fun b s' z => ?_) fun w0 w0 x => x
      obtain ⟨S3, st3, X3, q3⟩ := z
      refine ⟨S3, st3, X3, ?_⟩
      cases b with
      | true =>
        refine ite_t rfl <| EvJ.mono (of_t q3) fun d st4 q => ?_
        obtain ⟨rfl, p, rfl, hF⟩ := q
        rw [List.length_cons] at e3
        refine ⟨by rw [List.length_map]; (first | with_reducible exact Mine.za7 (by assumption) (by assumption) (by decide) | omega), ⟨rfl, rest, accL ++ [p], rfl, by simp, ?_, by rw [List.length_append]; simp; (first | with_reducible exact Mine.za1 (by assumption) | omega), fun x hx => e4 x (.tail _ hx)⟩, fun w0 w0 => rfl⟩
        rw [← e2, List.filterMap_cons_some hF, List.append_assoc]; rfl
      | false =>
        obtain ⟨rfl, hF⟩ := of_f q3
        rw [List.length_cons] at e3
        refine ite_f rfl ⟨⟨rfl, rest, accL, rfl, rfl, ?_, by (first | with_reducible exact Mine.za2 (by assumption) | omega), fun x hx => e4 x (.tail _ hx)⟩, fun w0 w0 => rfl⟩
        rw [← e2, List.filterMap_cons_none hF]
  · rintro acc st' ⟨rfl, rest, accL, e1, rfl, e2, e3, e4⟩
    cases rest with
    | cons y rest => cases e1
    | nil =>
      have e2' : accL = xs.filterMap F := by simpa using e2
      subst e2'
      rcases hq with q | q
      · exact .inl ⟨_, rfl, q⟩
      · exact .inr (.inl ⟨_, rfl, q⟩)

theorem ev_compP {α : Type} {f : α → D} {F : α → Option PyData} {xs : List α} {elt target iter : Expr} {ifs : List Expr} {scope : Scope} {pos : Pos} {Q : D → Store → Prop}
    (h : ItJ g k env ρ iter target st (kCP g k env ρ scope target elt ifs f F xs Q))
    (hcl : closOk scope env = true := by rfl) (hkind : scope.kind = .function := by rfl) (hcell : ∀ y ∈ scope.names, y.2 ≠ .cell := by decide)
    (hnames : ∀ x ∈ scope.names, x.2 = .local → scope.names.lookup x.1 = some .local := by decide)
    (hs : ∀ x, foldedSetIterable iter env x = pure x := by intro _; rfl) : EvJ g k env ρ (.ListComp elt [⟨target, iter, ifs, 0⟩] scope pos) st Q := ev_comp (comp_h h) hcl hkind hcell hnames hs
theorem sm_compP {α : Type} {f : α → D} {F : α → Option PyData} {xs : List α} {elt target iter : Expr} {ifs : List Expr} {scope : Scope} {pos py spos : Pos} {y : Str} {Q : Fl → Vars → Store → Prop} (hw : Wr env y)
    (h : ItJ g k env ρ iter target st (kCP g k env ρ scope target elt ifs f F xs (kSet ρ y Q)))
    (hsw : swapsWith (.ListComp elt [⟨target, iter, ifs, 0⟩] scope pos) (some (.Name y py)) spos.line env = pure true := by rfl)
    (hcl : closOk scope env = true := by rfl) (hkind : scope.kind = .function := by rfl) (hcell : ∀ y ∈ scope.names, y.2 ≠ .cell := by decide)
    (hnames : ∀ x ∈ scope.names, x.2 = .local → scope.names.lookup x.1 = some .local := by decide)
    (hs : ∀ x, foldedSetIterable iter env x = pure x := by intro _; rfl) : SmJ g k env ρ (.Assign [.Name y py] (.ListComp elt [⟨target, iter, ifs, 0⟩] scope pos) spos) st Q := by
  refine sm_comp hw (comp_h h) hsw hcl hkind hcell hnames hs

noncomputable def idle (lv : List (List Int)) : Bool := lv.all fun l => l.isEmpty
noncomputable def nonE (l : List Int) : Option PyData := if l = [] then none else some (iL l)
theorem maps {α : Type} {f : α → PyData} {l : List α} : (l.map fun x => D.dat (f x)) = (l.map f).map D.dat := by rw [List.map_map]; rfl
theorem nil_ok {n : Nat} : ([] : List PyData).length ≤ n := Nat.zero_le _
theorem eqv_nil (xs : List PyData) : PyData.eqv (.list xs) (.list []) = xs.isEmpty := by
  cases xs <;> simp [PyData.eqv, PyData.eqvAll]
theorem filterMap_nonE : ∀ lv : List (List Int), lv.filterMap nonE = (lv.filter fun l => !l.isEmpty).map iL
  | [] => rfl
  | l :: lv => by
    cases l with
    | nil => rw [List.filterMap_cons_none rfl, filterMap_nonE lv]; rfl
    | cons x l => rw [List.filterMap_cons_some (f := nonE) (b := iL (x :: l)) rfl, filterMap_nonE lv]; rfl
theorem nonE_empty : ∀ lv : List (List Int), (lv.filterMap nonE).isEmpty = idle lv
  | [] => rfl
  | l :: lv => by
    cases l with
    | nil => rw [List.filterMap_cons_none rfl, nonE_empty lv]; rfl
    | cons x l => rw [List.filterMap_cons_some (f := nonE) (b := iL (x :: l)) rfl]; rfl

theorem c_idle (T : Tx g P) {p : Pc} {Q : D → Store → Prop} (hl : p.lv.length ≤ 1000) (q : Q (.dat (.bool (idle p.lv))) st) : CaJ g (k + 1) (.ref 33) [.pc p] st Q := by
  refine ca_own T.K ["self"] rfl (fun L a => ?_) rfl (hb1 fun w0 => rfl) (fun w0 => rfl) ⟨rfl, rfl, rfl, rfl, rfl, rfl⟩
  refine ex_cons <| sm_return <| ev_cmp <| ev_compP (f := fun l => .dat (iL l)) (F := nonE) (xs := p.lv) <| it_list (ht := .inl ⟨_, _, rfl⟩) <| ev_attr T.cls _ (.inr (.inr ⟨rfl, rfl⟩)) <| ev_name rfl ⟨p, rfl, p.lv.map fun l => .dat (iL l), [], .inl ⟨_, rfl, rfl, maps⟩, rfl, le_mil hl, fun C l hl => ?_, .inl ?_⟩
  · refine as_name (.inl ⟨rfl, rfl⟩) <| ifs_one <| tr_cmp <| ev_name rfl <| ev_list <| evs_nil ⟨[], rfl, sm rfl, cm_ne .dat .dat (sh_iL l).ok (sh_iL []).ok ?_⟩
    rw [iL_nil, eqv_iL]
    by_cases h : l = []
    · subst h; exact ite_f rfl ⟨rfl, rfl⟩
    · exact ite_t (by rw [decide_eq_false h]; rfl) (ev_name rfl ⟨rfl, _, rfl, if_neg h⟩)
  · refine ev_list <| evs_nil ⟨[], rfl, sm rfl, cm_eq .dat .dat ?_ (sh_iL []).ok ⟨_, .refl _, ?_⟩⟩
    · rw [filterMap_nonE]; exact (sh_lvD _).ok
    · rw [eqv_nil, nonE_empty]; exact q
end
end Mine

namespace Mine
section
variable {g : Gr} {k : Nat} {env : Env} {ρ : Vars} {st : Store} {P : Params}

theorem numsD_cons {x : D} {rem : List D} {a : Int} {n : Nat} (h : x :: rem = numsD a n) : ∃ m, n = m + 1 ∧ x = .dat (.int a) ∧ rem = numsD (a + 1) m := by
  cases n with
  | zero => cases h
  | succ m => injection h with h1 h2; exact ⟨m, rfl, h1, h2⟩
theorem numsD_nil {a : Int} {n : Nat} (h : [] = numsD a n) : n = 0 := by
  cases n with
  | zero => rfl
  | succ m => cases h

structure PsOk (d : Nat) (ps : List Pc) : Prop where
  len : ps.length ≤ 10
  lv : ∀ p ∈ ps, p.lv.length = d
  sm : ∀ p ∈ ps, ∀ l ∈ p.lv, l.length ≤ 3
  d0 : 1 ≤ d
  d1 : d ≤ 3

noncomputable def rowOf (ps : List Pc) (l : Nat) : List Int := (ps.map fun p => p.lv.getD l []).flatten
noncomputable def together (ps : List Pc) (d : Nat) : List (List Int) := (List.range d).map (rowOf ps)
theorem rowOf_snoc (ps : List Pc) (p : Pc) (l : Nat) : rowOf (ps ++ [p]) l = rowOf ps l ++ p.lv.getD l [] := by
  unfold rowOf; rw [List.map_append, List.flatten_append]; simp
theorem together_succ (ps : List Pc) (d : Nat) : together ps (d + 1) = together ps d ++ [rowOf ps d] := by
  unfold together; rw [List.range_succ, List.map_append]; rfl
theorem rowOf_len {d : Nat} {ps : List Pc} (h : PsOk d ps) (l : Nat) : ∀ {qs : List Pc}, (∀ p ∈ qs, p ∈ ps) → (rowOf qs l).length ≤ 3 * qs.length
  | [], _ => by simp [rowOf]
  | q :: qs, hq => by
    have ih := rowOf_len h l (qs := qs) fun p hp => hq p (.tail _ hp)
    have h1 : (q.lv.getD l []).length ≤ 3 := by
      rw [List.getD_eq_getElem?_getD]
      cases e : q.lv[l]? with
      | none => simp
      | some x => exact h.sm q (hq q (.head _)) x (List.mem_of_getElem? e)
    unfold rowOf at ih ⊢
    rw [List.map_cons, List.flatten_cons, List.length_append, List.length_cons]
    (first | with_reducible exact Mine.zu8 (by assumption) (by assumption) | omega)

theorem pick_pc0 (p : Pc) : ([PyData.int p.a, .int p.b, lvD p.lv] : List PyData)[(0 : Int).toNat]? = some (.int p.a) := rfl
theorem pick_lv {lv : List (List Int)} {i : Int} {n : Nat} (hi : i = n) (h : n < lv.length) (hl : lv.length ≤ 1000) : PickOk (lv.map iL) i (iL (lv.getD n [])) :=
  .map (f := iL) hi (by rw [List.getD_eq_getElem?_getD, List.getElem?_eq_getElem h]; rfl) hl

inductive ivN4a (d : Nat) (st : Store) (c : Addr) (ps : List Pc) (rem : List D) (ρ' : Vars) (st' : Store) : Prop
  | mk (j : Nat) (q1 : j ≤ d) (q2 : rem = numsD j (d - j)) (q3 : st' = st.set c ((together ps j).map iL)) (q4 : ρ' "some" = some (.dat (.list (ps.map pcD)))) (q5 : ρ' "found" = some (.cell c))
inductive ivN4b (ps : List Pc) (st : Store) (c : Addr) (j : Nat) (rem2 : List D) (ρ2 : Vars) (st2 : Store) : Prop
  | mk (done rest : List Pc) (q1 : done ++ rest = ps) (q2 : rem2 = rest.map (fun p => .dat (pcD p))) (q3 : st2 = st.set c ((together ps j).map iL)) (q4 : ρ2 "some" = some (.dat (.list (ps.map pcD)))) (q5 : ρ2 "found" = some (.cell c)) (q6 : ρ2 "level" = some (.dat (.int j))) (q7 : ρ2 "row" = some (.dat (iL (rowOf done j))))
theorem c_together (T : Tx g P) {ps : List Pc} {d : Nat} (hp : PsOk d ps) {Q : D → Store → Prop} (q : ∀ a, st a = none → Q (.cell a) (st.set a ((together ps d).map iL))) :
    CaJ g (k + 1) (.ref 135) [.dat (.list (ps.map pcD)), .dat (.int d)] st Q := by
  have hd1 := hp.d1
  have hpl := hp.len
  refine ca_own T.K ["some", "depth"] rfl (fun L a => ?_) rfl (hb2 fun w0 w0 => rfl) (fun w0 => rfl) ⟨rfl, rfl, rfl, rfl, rfl, rfl⟩
  refine ex_cons <| sm_assign (.inl rfl) <| ev_listC <| evs_nil ⟨[], rfl, sm rfl, fun c hc => ?_⟩
  refine ex_cons <| sm_for <| it_range1 T.range <| ev_name rfl ⟨d, rfl, .nat (Nat.le_trans hd1 (by decide)), ?_⟩
  refine ⟨ivN4a d st c ps, ?_, ?_, ?_⟩
  · exact ⟨0, by (first | with_reducible exact Nat.zero_le _ | omega), by simp, rfl, rfl, rfl⟩
  · rintro x rem ρ' st' ⟨j, hj, e, rfl, h1, h2⟩
    obtain ⟨m, e1, rfl, rfl⟩ := numsD_cons e
    refine as_name (Wr.own (.inl rfl)) <| ex_cons <| sm_assign (.inl rfl) <| ev_list <| evs_nil ⟨[], rfl, sm rfl, ?_⟩
    refine ex_cons <| sm_for <| it_list (ht := .inl ⟨_, _, rfl⟩) <| ev_name h1 ⟨ps.map fun p => .dat (pcD p), [], .inl ⟨_, rfl, rfl, maps⟩, ?_⟩
    refine ⟨ivN4b ps st c j, ?_, ?_, ?_⟩
    · exact ⟨[], ps, rfl, rfl, rfl, h1, h2, rfl, rfl⟩
    · rintro y rem2 ρ2 st2 ⟨done, rest, e2, e3, rfl, k1, k2, k3, k4⟩
      cases rest with
      | nil => cases e3
      | cons p rest =>
        injection e3 with e3 e4
        subst e3 e4
        have hpm : p ∈ ps := e2 ▸ List.mem_append_right _ (.head _)
        have hlv := hp.lv p hpm
        have hrl := rowOf_len hp j (qs := done) fun p h => e2 ▸ List.mem_append_left _ h
        have hdl : done.length ≤ 10 := by have := congrArg List.length e2; rw [List.length_append] at this; (first | with_reducible exact Mine.za10 (by assumption) (by assumption) (by decide) | omega)
        have hsl : (p.lv.getD j []).length ≤ 3 := by
          rw [List.getD_eq_getElem?_getD, List.getElem?_eq_getElem (by (first | with_reducible exact Mine.zs7 (by assumption) (by assumption) | omega))]
          exact hp.sm p hpm _ (List.getElem_mem _)
        refine as_name (Wr.own (.inl rfl)) <| ex_cons <| sm_assign (.inl rfl) <| ev_bin <| ev_name k4 <| ev_item <| ev_itemT <| ev_name rfl <| ev_int ⟨_, _, _, rfl, rfl, by decide, rfl, sm rfl, ?_⟩
        refine ev_name k3 ⟨p.lv.map iL, _, _, .dat, rfl, pick_lv rfl (by (first | with_reducible exact Mine.zs7 (by assumption) (by assumption) | omega)) (by (first | with_reducible exact Nat.le_trans (Nat.le_of_eq (by assumption)) (Nat.le_trans (by assumption) (by decide)) | omega)), ?_⟩
        refine op_add_list .dat .dat (by rw [List.length_map, List.length_map]; (first | with_reducible exact Mine.zu10 (by assumption) (by assumption) (by assumption) (by decide) | omega)) ?_
        refine ex_nil ⟨⟨done ++ [p], rest, by rw [List.append_assoc]; exact e2, rfl, rfl, k1, k2, k3, ?_⟩, fun w0 w0 => rfl⟩
        show some (D.dat (PyData.list ((rowOf done j).map .int ++ (p.lv.getD j []).map .int))) = _
        rw [rowOf_snoc, ← List.map_append]; rfl
    · rintro ρ2 st2 ⟨done, rest, e2, e3, rfl, k1, k2, k3, k4⟩
      cases rest with
      | cons p rest => cases e3
      | nil =>
        rw [List.append_nil] at e2; subst e2
        refine ex_cons <| sm_append k2 (Store.set_same ..) <| ev_name k4 ⟨_, _, rfl, Store.set_same .., by simp [together]; (first | with_reducible exact Nat.le_trans (by assumption) (Nat.le_trans (by assumption) (by decide)) | omega), ?_⟩
        refine ex_nil ⟨⟨j + 1, by (first | with_reducible exact Mine.zs3 (by assumption) | omega), by rw [show d - (j + 1) = m by (first | with_reducible exact Mine.zs1 (by assumption) | omega)]; push_cast; rfl, ?_, k1, k2⟩, fun w0 h => nomatch h⟩
        rw [Store.set_set, together_succ, List.map_append]; rfl
  · rintro ρ' st' ⟨j, hj, e, rfl, h1, h2⟩
    have := numsD_nil e
    have e' : j = d := by (first | with_reducible exact Mine.zs4 (by assumption) (by assumption) | omega)
    subst e'
    exact ex_cons <| sm_return <| ev_name h2 ⟨_, .refl _, q c hc⟩
end
end Mine

namespace Mine
section
variable {g : Gr} {k : Nat} {env : Env} {ρ : Vars} {st : Store} {P : Params}

theorem get_lt {α : Type} {l : List α} {n : Nat} {x : α} (h : l[n]? = some x) : n < l.length := (List.getElem?_eq_some_iff.mp h).1
theorem get_of_lt {α : Type} {l : List α} {n : Nat} (h : n < l.length) : ∃ x, l[n]? = some x := ⟨_, List.getElem?_eq_getElem h⟩

theorem c_law_idle (T : Tx g P) {p : Pc} {Q : D → Store → Prop} (hl : p.lv.length ≤ 1000) (q : Q (.dat (.bool (idle p.lv))) st) : CaJ g (k + 1) (.ref 128) [.dat (pcD p)] st Q := by
  refine ca_own T.K ["piece"] rfl (fun L a => ?_) rfl (hb1 fun w0 => rfl) (fun w0 => rfl) ⟨rfl, rfl, rfl, rfl, rfl, rfl⟩
  refine ex_cons <| sm_return <| ev_cmp <| ev_compP (f := fun l => .dat (iL l)) (F := nonE) (xs := p.lv) <| it_list (ht := .inl ⟨_, _, rfl⟩) <| ev_itemT <| ev_name rfl <| ev_int ⟨_, _, _, rfl, rfl, by decide, rfl, sm rfl, ?_⟩
  refine ⟨p.lv.map fun l => .dat (iL l), [], .inl ⟨_, rfl, rfl, maps⟩, rfl, le_mil hl, fun C l hl => ?_, .inl ?_⟩
  · refine as_name (.inl ⟨rfl, rfl⟩) <| ifs_one <| tr_cmp <| ev_name rfl <| ev_list <| evs_nil ⟨[], rfl, sm rfl, cm_ne .dat .dat (sh_iL l).ok (sh_iL []).ok ?_⟩
    rw [iL_nil, eqv_iL]
    by_cases h : l = []
    · subst h; exact ite_f rfl ⟨rfl, rfl⟩
    · exact ite_t (by rw [decide_eq_false h]; rfl) (ev_name rfl ⟨rfl, _, rfl, if_neg h⟩)
  · refine ev_list <| evs_nil ⟨[], rfl, sm rfl, cm_eq .dat .dat ?_ (sh_iL []).ok ⟨_, .refl _, ?_⟩⟩
    · rw [filterMap_nonE]; exact (sh_lvD _).ok
    · rw [eqv_nil, nonE_empty]; exact q

noncomputable def idleAt (ps : List Pc) (n : Nat) : Bool := match ps[n]? with
  | some p => idle p.lv
  | none => false
theorem idleAt_of {ps : List Pc} {n : Nat} {p : Pc} (h : ps[n]? = some p) : idleAt ps n = idle p.lv := by unfold idleAt; rw [h]
noncomputable def ahead (ps : List Pc) : Nat → Nat
  | 0 => 0
  | n + 1 => if idleAt ps n then ahead ps n + 1 else 0
noncomputable def behindGo (ps : List Pc) : Nat → Nat → Nat
  | 0, _ => 0
  | f + 1, n => if idleAt ps n then behindGo ps f (n + 1) + 1 else 0
noncomputable def behind (ps : List Pc) (n : Nat) : Nat := behindGo ps (ps.length - n) n
theorem behind_step {ps : List Pc} {n : Nat} (h : n < ps.length) : behind ps n = if idleAt ps n then behind ps (n + 1) + 1 else 0 := by
  unfold behind
  rw [show ps.length - n = (ps.length - (n + 1)) + 1 by (first | with_reducible exact Mine.zq8 (by assumption) | omega)]; rfl
theorem behind_end {ps : List Pc} {n : Nat} (h : ps.length ≤ n) : behind ps n = 0 := by
  unfold behind
  rw [show ps.length - n = 0 by (first | with_reducible exact Nat.sub_eq_zero_of_le (by assumption) | omega)]; rfl
theorem behind_le (ps : List Pc) : ∀ f n, behindGo ps f n ≤ f
  | 0, _ => by simp [behindGo]
  | f + 1, n => by
    have := behind_le ps f (n + 1)
    unfold behindGo; split <;> omega
theorem ahead_le (ps : List Pc) : ∀ n, ahead ps n ≤ n
  | 0 => by simp [ahead]
  | n + 1 => by
    have := ahead_le ps n
    unfold ahead; split <;> omega

inductive ivN5a (at' : Nat) (st : Store) (ps : List Pc) (n : Nat) (ρ' : Vars) (st' : Store) : Prop
  | mk (m : Nat) (q1 : n = at' - m) (q2 : m ≤ at') (q3 : st' = st) (q4 : ρ' "some" = some (.dat (.list (ps.map pcD)))) (q5 : ρ' "at" = some (.dat (.int at'))) (q6 : ρ' "many" = some (.dat (.int m))) (q7 : m + ahead ps (at' - m) = ahead ps at')
theorem c_idle_ahead (T : Tx g P) {ps : List Pc} {d at' : Nat} (hp : PsOk d ps) (ha : at' ≤ ps.length) {Q : D → Store → Prop} (q : Q (.dat (.int (ahead ps at'))) st) : CaJ g (k + 2) (.ref 142) [.dat (.list (ps.map pcD)), .dat (.int at')] st Q := by
  have hpl := hp.len
  have hd1 := hp.d1
  refine ca_own T.K ["some", "at"] rfl (fun L a => ?_) rfl (hb2 fun w0 w0 => rfl) (fun w0 => rfl) ⟨rfl, rfl, rfl, rfl, rfl, rfl⟩
  refine ex_cons <| sm_assign (.inl rfl) <| ev_int ?_
  refine ex_cons <| sm_while (ivN5a at' st ps) at' ⟨0, by (first | with_reducible exact Mine.zr2f | omega), by (first | with_reducible exact Nat.zero_le _ | omega), rfl, rfl, rfl, rfl, by simp⟩ ?_
  rintro n ρ' st' ⟨m, rfl, hm, rfl, h1, h2, h3, h4⟩
  refine tr_and <| tr_cmp <| ev_name h3 <| ev_name h2 <| cm_lt ?_
  by_cases hlt : m < at'
  · obtain ⟨p, he⟩ := get_of_lt (show at' - m - 1 < ps.length by (first | with_reducible exact Mine.zr1 (by assumption) (by assumption) | omega))
    have hlv := hp.lv p (List.mem_of_getElem? he)
    refine ite_t (decide_eq_true (by (first | with_reducible exact Mine.zi12 (by assumption) | omega))) <| tr_and <| tr_val <| ev_call (T.nm (v := .ref 128)) T.ok <| evs_cons <| ev_item <| ev_name h1 <| ev_bin <| ev_bin <| ev_name h2 <| ev_name h3 <| op_sub_int <| ev_int <| op_sub_int ⟨_, _, _, .dat, rfl, .map (by omega) he (ten_th hpl), ?_⟩
    refine evs_nil <| c_law_idle T (by (first | with_reducible exact Nat.le_trans (Nat.le_of_eq (by assumption)) (Nat.le_trans (by assumption) (by decide)) | omega)) ⟨_, rfl, ?_⟩
    have ei := idleAt_of he
    have e5 : ahead ps (at' - m) = if idleAt ps (at' - m - 1) then ahead ps (at' - m - 1) + 1 else 0 := by
      rw [show at' - m = (at' - m - 1) + 1 by (first | with_reducible exact Mine.zr0 (by assumption) | omega)]; rfl
    cases hi : idle p.lv with
    | true =>
      refine ite_t rfl <| tr_and_nil <| ite_t rfl <| ex_cons <| sm_assign (.inl rfl) <| ev_bin <| ev_name h3 <| ev_int <| op_add_int <| ex_nil ⟨at' - (m + 1), by (first | with_reducible exact Mine.zp7 (by assumption) | omega), m + 1, rfl, by (first | with_reducible exact Nat.succ_le_of_lt (by assumption) | omega), rfl, h1, h2, ?_, ?_⟩
      · show some (D.dat (.int ((m : Int) + 1))) = _; push_cast; rfl
      · rw [ei, hi, if_pos rfl] at e5
        rw [← h4, e5, show at' - (m + 1) = at' - m - 1 by (first | with_reducible exact Mine.zv11 | omega)]; (first | with_reducible exact Mine.za4 | omega)
    | false =>
      refine ite_f rfl <| ite_f rfl <| ex_cons <| sm_return <| ev_name h3 ⟨_, .refl _, ?_⟩
      rw [ei, hi, if_neg (by decide)] at e5
      rw [← h4, e5] at q; exact q
  · refine ite_f (decide_eq_false (by omega)) <| ite_f rfl <| ex_cons <| sm_return <| ev_name h3 ⟨_, .refl _, ?_⟩
    rw [← h4, show at' - m = 0 by (first | with_reducible exact Mine.zr4b (by assumption) | omega)] at q; exact q

inductive ivN5b (ps : List Pc) (at' : Nat) (st : Store) (n : Nat) (ρ' : Vars) (st' : Store) : Prop
  | mk (m : Nat) (q1 : n = ps.length - (at' + m)) (q2 : at' + m ≤ ps.length) (q3 : st' = st) (q4 : ρ' "some" = some (.dat (.list (ps.map pcD)))) (q5 : ρ' "at" = some (.dat (.int at'))) (q6 : ρ' "many" = some (.dat (.int m))) (q7 : m + behind ps (at' + m) = behind ps at')
theorem c_idle_behind (T : Tx g P) {ps : List Pc} {d at' : Nat} (hp : PsOk d ps) (ha : at' ≤ ps.length) {Q : D → Store → Prop} (q : Q (.dat (.int (behind ps at'))) st) : CaJ g (k + 2) (.ref 149) [.dat (.list (ps.map pcD)), .dat (.int at')] st Q := by
  have hpl := hp.len
  have hd1 := hp.d1
  refine ca_own T.K ["some", "at"] rfl (fun L a => ?_) rfl (hb2 fun w0 w0 => rfl) (fun w0 => rfl) ⟨rfl, rfl, rfl, rfl, rfl, rfl⟩
  refine ex_cons <| sm_assign (.inl rfl) <| ev_int ?_
  refine ex_cons <| sm_while (ivN5b ps at' st) (ps.length - at') ⟨0, by (first | with_reducible exact Mine.zr2d | omega), by omega, rfl, rfl, rfl, rfl, by simp⟩ ?_
  rintro n ρ' st' ⟨m, rfl, hm, rfl, h1, h2, h3, h4⟩
  refine tr_and <| tr_cmp <| ev_bin <| ev_name h2 <| ev_name h3 <| op_add_int <| ev_call T.len okB <| evs_cons <| ev_name h1 <| evs_nil <| ca_len .dat (len_map (ten_th hpl)) <| cm_lt ?_
  by_cases hlt : at' + m < ps.length
  · obtain ⟨p, he⟩ := get_of_lt hlt
    have hlv := hp.lv p (List.mem_of_getElem? he)
    refine ite_t (decide_eq_true (by simp; (first | with_reducible exact Mine.zr2e (by assumption) | omega))) <| tr_and <| tr_val <| ev_call (T.nm (v := .ref 128)) T.ok <| evs_cons <| ev_item <| ev_name h1 <| ev_bin <| ev_name h2 <| ev_name h3 <| op_add_int ⟨_, _, _, .dat, rfl, .map (by omega) he (ten_th hpl), ?_⟩
    refine evs_nil <| c_law_idle T (by (first | with_reducible exact Nat.le_trans (Nat.le_of_eq (by assumption)) (Nat.le_trans (by assumption) (by decide)) | omega)) ⟨_, rfl, ?_⟩
    have ei := idleAt_of he
    have e5 := behind_step hlt
    cases hi : idle p.lv with
    | true =>
      refine ite_t rfl <| tr_and_nil <| ite_t rfl <| ex_cons <| sm_assign (.inl rfl) <| ev_bin <| ev_name h3 <| ev_int <| op_add_int <| ex_nil ⟨ps.length - (at' + (m + 1)), by (first | with_reducible exact Mine.zr2 (by assumption) | omega), m + 1, rfl, by (first | with_reducible exact Mine.zr2b (by assumption) | omega), rfl, h1, h2, ?_, ?_⟩
      · show some (D.dat (.int ((m : Int) + 1))) = _; push_cast; rfl
      · rw [ei, hi, if_pos rfl] at e5
        rw [← h4, e5, show at' + (m + 1) = at' + m + 1 by (first | with_reducible exact Mine.zr2c | omega)]; (first | with_reducible exact Mine.za4 | omega)
    | false =>
      refine ite_f rfl <| ite_f rfl <| ex_cons <| sm_return <| ev_name h3 ⟨_, .refl _, ?_⟩
      rw [ei, hi, if_neg (by decide)] at e5
      rw [← h4, e5] at q; exact q
  · refine ite_f (decide_eq_false (by simp; omega)) <| ite_f rfl <| ex_cons <| sm_return <| ev_name h3 ⟨_, .refl _, ?_⟩
    rw [← h4, behind_end (by (first | with_reducible exact Nat.le_of_not_lt (by assumption) | omega))] at q; exact q
end
end Mine

namespace Mine
section
variable {g : Gr} {k : Nat} {env : Env} {ρ : Vars} {st : Store} {P : Params}

theorem getN {α : Type} {l : List α} {i : Int} {n : Nat} {x : α} (hi : i = n) (h : l[n]? = some x) : l[i.toNat]? = some x := by subst hi; simpa using h
theorem c_idle' (T : Tx g P) {p : Pc} {Q : D → Store → Prop} (hl : p.lv.length ≤ 1000) (q : Q (.dat (.bool (idle p.lv))) st) : CaJ g (k + 1) (.ref g.idl) [.pc p] st Q := T.idl ▸ c_idle T hl q

theorem SmJ.mono {c : Stmt} {Q Q' : Fl → Vars → Store → Prop} (h : SmJ g k env ρ c st Q) (hq : ∀ f ρ' st', Q f ρ' st' → Q' f ρ' st') : SmJ g k env ρ c st Q' := by
  intro A S s L M E
  refine wpAny_mono (h A S s L M E) (fun v s' x => ?_) fun w0 w0 x => x
  obtain ⟨S', st', ρ', fl, a, b, c, d⟩ := x
  exact ⟨S', st', ρ', fl, a, b, c, hq _ _ _ d⟩
noncomputable abbrev kCut (R : PV) (Q : PS) : PS := fun f ρ1 st1 => match f with | .next => R ρ1 st1 | f => Q f ρ1 st1
theorem hide2 {α β : Type} (p : α → β → Prop) : ∃ q : α → β → Prop, ∀ a b, q a b ↔ p a b := ⟨p, fun w0 w0 => Iff.rfl⟩
theorem hide3 {α β γ : Type} (p : α → β → γ → Prop) : ∃ q : α → β → γ → Prop, ∀ a b c, q a b c ↔ p a b c := ⟨p, fun w0 w0 w0 => Iff.rfl⟩
theorem ex_cut {c : Stmt} {cs : List Stmt} {Q : Fl → Vars → Store → Prop} (R : Vars → Store → Prop) (h : SmJ g k env ρ c st (kCut R Q))
    (h2 : ∀ ρ1 st1, R ρ1 st1 → ExJ g k env ρ1 cs st1 Q) : ExJ g k env ρ (c :: cs) st Q := by
  refine ex_cons (h.mono fun f ρ1 st1 q => ?_)
  cases f with
  | next => exact h2 _ _ q
  | brk => exact q
  | cont => exact q
  | ret d => exact q

noncomputable def aAt (ps : List Pc) (n : Nat) : Int := match ps[n]? with
  | some p => p.a
  | none => 0
noncomputable def bAt (ps : List Pc) (n : Nat) : Int := match ps[n]? with
  | some p => p.b
  | none => 0
theorem aAt_of {ps : List Pc} {n : Nat} {p : Pc} (h : ps[n]? = some p) : aAt ps n = p.a := by unfold aAt; rw [h]
theorem bAt_of {ps : List Pc} {n : Nat} {p : Pc} (h : ps[n]? = some p) : bAt ps n = p.b := by unfold bAt; rw [h]

inductive ivN6a (st : Store) (ps : List Pc) (f : Nat) (b : Nat) (ρ1 : Vars) (st1 : Store) : Prop
  | mk (q1 : st1 = st) (q2 : ρ1 "pieces" = some (.pcs ps)) (q3 : ρ1 "first" = some (.dat (.int ((f - ahead ps f : Nat) : Int)))) (q4 : ρ1 "behind" = some (.dat (.int b)))
inductive ivN6b (f : Nat) (st : Store) (ps : List Pc) (b : Nat) (n : Nat) (ρ' : Vars) (st' : Store) : Prop
  | mk (q1 : n ≤ f) (q2 : st' = st) (q3 : ρ' "pieces" = some (.pcs ps)) (q4 : ρ' "first" = some (.dat (.int n))) (q5 : ρ' "behind" = some (.dat (.int b))) (q6 : n - ahead ps n = f - ahead ps f)
inductive ivN6c (st1 : Store) (f : Nat) (ps : List Pc) (b : Nat) (ρ1 : Vars) (st' : Store) : Prop
  | mk (q1 : st' = st1) (q2 : ρ1 "first" = some (.dat (.int ((f - ahead ps f : Nat) : Int)))) (q3 : ρ1 "behind" = some (.dat (.int ((b + behind ps b : Nat) : Int))))
inductive ivN6d (ps : List Pc) (st1 : Store) (f : Nat) (b : Nat) (n : Nat) (ρ' : Vars) (st' : Store) : Prop
  | mk (m : Nat) (q1 : n = ps.length - m) (q2 : m ≤ ps.length) (q3 : st' = st1) (q4 : ρ' "pieces" = some (.pcs ps)) (q5 : ρ' "first" = some (.dat (.int ((f - ahead ps f : Nat) : Int)))) (q6 : ρ' "behind" = some (.dat (.int m))) (q7 : m + behind ps m = b + behind ps b)
theorem c_widest (T : Tx g P) {ps : List Pc} {d f b : Nat} (hp : PsOk d ps) (hf : f ≤ ps.length) (hb : b ≤ ps.length) {Q : D → Store → Prop} (q : Q (.dat (prD (((f - ahead ps f : Nat) : Int), ((b + behind ps b : Nat) : Int)))) st) :
    CaJ g (k + 2) (.ref 66) [.pcs ps, .dat (prD ((f : Int), (b : Int)))] st Q := by
  have hpl := hp.len
  have hd1 := hp.d1
  refine ca_own T.K ["pieces", "stretch"] rfl (fun L a => ?_) rfl (hb2 fun w0 w0 => rfl) (fun w0 => rfl) ⟨rfl, rfl, rfl, rfl, rfl, rfl⟩
  refine ex_cons <| sm_tuple <| ev_name rfl <| as_tuple <| ass_cons (as_name (Wr.own (.inl rfl)) <| ass_cons (as_name (Wr.own (.inl rfl)) <| ass_nil ?_))
  refine ex_cut (ivN6a st ps f b) (sm_while (ivN6b f st ps b) f ⟨by (first | with_reducible exact Nat.le_refl _ | omega), rfl, rfl, rfl, rfl, rfl⟩ ?_) ?_
  · rintro n ρ' st' ⟨hn, rfl, h1, h2, h3, h4⟩
    refine tr_and <| tr_cmp <| ev_name h2 <| ev_int <| cm_gt ?_
    by_cases hlt : 0 < n
    · obtain ⟨p, he⟩ := get_of_lt (show n - 1 < ps.length by (first | with_reducible exact Mine.zr4c (by assumption) (by assumption) (by assumption) | omega))
      have hlv := hp.lv p (List.mem_of_getElem? he)
      refine ite_t (decide_eq_true (by (first | with_reducible exact Mine.zy0 (by assumption) | omega))) <| tr_and <| tr_val <| ev_idle T.cls <| ev_itemP <| ev_name h1 <| ev_bin <| ev_name h2 <| ev_int <| op_sub_int ⟨_, _, n - 1, _, rfl, rfl, by (first | with_reducible exact Mine.zp1 (by assumption) | omega), he, ten_th hpl, _, rfl, c_idle' T (by (first | with_reducible exact Nat.le_trans (Nat.le_of_eq (by assumption)) (Nat.le_trans (by assumption) (by decide)) | omega)) ⟨_, rfl, ?_⟩⟩
      have e5 : ahead ps n = if idleAt ps (n - 1) then ahead ps (n - 1) + 1 else 0 := by
        obtain ⟨m, rfl⟩ : ∃ m, n = m + 1 := ⟨n - 1, by (first | with_reducible exact Mine.zp5 (by assumption) | omega)⟩; rfl
      rw [idleAt_of he] at e5
      cases hi : idle p.lv with
      | true =>
        refine ite_t rfl <| tr_and_nil <| ite_t rfl <| ex_cons <| sm_augSub h2 (.inl rfl) <| ev_int ⟨_, rfl, ex_nil ⟨n - 1, by (first | with_reducible exact Mine.zp3 (by assumption) | omega), by (first | with_reducible exact Mine.zp10 (by assumption) | omega), rfl, h1, ?_, h3, ?_⟩⟩
        · show some (D.dat (.int ((n : Int) - 1))) = _; rw [show (n : Int) - 1 = ((n - 1 : Nat) : Int) by (first | with_reducible exact Mine.zp1 (by assumption) | omega)]
        · rw [hi, if_pos rfl] at e5; (first | with_reducible exact Mine.zr3 (by assumption) (by assumption) | omega)
      | false =>
        refine ite_f rfl <| ite_f rfl ⟨rfl, h1, ?_, h3⟩
        rw [hi, if_neg (by decide)] at e5
        rw [← h4, e5]; exact h2
    · refine ite_f (decide_eq_false (by omega)) <| ite_f rfl ⟨rfl, h1, ?_, h3⟩
      rw [← h4, show n - ahead ps n = n by (first | with_reducible exact Mine.zr4 (by assumption) | omega)]; exact h2
  rintro ρ1 st1 ⟨rfl, g1, g2, g3⟩
  refine ex_cut (ivN6c st1 f ps b) (sm_while (ivN6d ps st1 f b) (ps.length - b) ⟨b, rfl, hb, rfl, g1, g2, g3, rfl⟩ ?_) ?_
  · rintro n' ρ' st' ⟨m, rfl, hm, rfl, h1, h2, h3, h4⟩
    refine tr_and <| tr_cmp <| ev_name h3 <| ev_call T.len okB <| evs_cons <| ev_name h1 <| evs_nil <| ca_lenP (le_mil (ten_th hpl)) <| cm_lt ?_
    by_cases hlt : m < ps.length
    · obtain ⟨p, he⟩ := get_of_lt hlt
      have hlv := hp.lv p (List.mem_of_getElem? he)
      refine ite_t (decide_eq_true (by (first | with_reducible exact Mine.zi12 (by assumption) | omega))) <| tr_and <| tr_val <| ev_idle T.cls <| ev_itemP <| ev_name h1 <| ev_name h3 ⟨_, _, _, _, rfl, rfl, rfl, he, ten_th hpl, _, rfl, c_idle' T (by (first | with_reducible exact Nat.le_trans (Nat.le_of_eq (by assumption)) (Nat.le_trans (by assumption) (by decide)) | omega)) ⟨_, rfl, ?_⟩⟩
      have e5 := behind_step hlt
      rw [idleAt_of he] at e5
      cases hi : idle p.lv with
      | true =>
        refine ite_t rfl <| tr_and_nil <| ite_t rfl <| ex_cons <| sm_aug h3 (.inl rfl) <| ev_int ⟨_, rfl, ex_nil ⟨ps.length - (m + 1), by (first | with_reducible exact Mine.zp7 (by assumption) | omega), m + 1, rfl, by (first | with_reducible exact Nat.succ_le_of_lt (by assumption) | omega), rfl, h1, h2, ?_, ?_⟩⟩
        · show some (D.dat (.int ((m : Int) + 1))) = _; push_cast; rfl
        · rw [hi, if_pos rfl] at e5; (first | with_reducible exact Mine.zr5 (by assumption) (by assumption) | omega)
      | false =>
        refine ite_f rfl <| ite_f rfl ⟨rfl, h2, ?_⟩
        rw [hi, if_neg (by decide)] at e5
        rw [← h4, e5]; exact h3
    · refine ite_f (decide_eq_false (by omega)) <| ite_f rfl ⟨rfl, h2, ?_⟩
      rw [← h4, behind_end (by (first | with_reducible exact Nat.le_of_not_lt (by assumption) | omega))]; exact h3
  rintro ρ2 st2 ⟨rfl, g1, g2⟩
  exact ex_cons <| sm_return <| ev_tuple <| evs_cons <| ev_name g1 <| evs_cons <| ev_name g2 <| evs_nil ⟨[.int _, .int _], rfl, sm rfl, _, .refl _, q⟩
end
end Mine

namespace Mine
section
variable {g : Gr} {k : Nat} {env : Env} {ρ : Vars} {st : Store} {P : Params}

noncomputable def wholeF (ps : List Pc) (ks : List Int) : Nat → Option Nat
  | 0 => if ks.contains (aAt ps 0) then some 0 else none
  | n + 1 => if ks.contains (aAt ps (n + 1)) then some (n + 1) else if idleAt ps n then wholeF ps ks n else none
noncomputable def wholeBGo (ps : List Pc) (ks : List Int) : Nat → Nat → Option Nat
  | 0, n => if ks.contains (bAt ps (n - 1)) then some n else none
  | f + 1, n => if ks.contains (bAt ps (n - 1)) then some n else if idleAt ps n then wholeBGo ps ks f (n + 1) else none
noncomputable def wholeB (ps : List Pc) (ks : List Int) (n : Nat) : Option Nat := wholeBGo ps ks (ps.length - n) n
noncomputable def narFGo (ps : List Pc) (ks : List Int) : Nat → Nat → Option Nat
  | 0, _ => none
  | f + 1, n => if ks.contains (aAt ps n) then some n else if idleAt ps n then narFGo ps ks f (n + 1) else none
noncomputable def narF (ps : List Pc) (ks : List Int) (n : Nat) : Option Nat := narFGo ps ks (ps.length - n) n
noncomputable def narB (ps : List Pc) (ks : List Int) : Nat → Option Nat
  | 0 => none
  | n + 1 => if ks.contains (bAt ps n) then some (n + 1) else if idleAt ps n then narB ps ks n else none

noncomputable def prN (p : Nat × Nat) : PyData := prD ((p.1 : Int), (p.2 : Int))
noncomputable def both (x y : Option Nat) : Option (Nat × Nat) := x.bind fun a => y.map fun b => (a, b)

theorem wholeB_step {ps : List Pc} {ks : List Int} {n : Nat} (h : n < ps.length) : wholeB ps ks n = if ks.contains (bAt ps (n - 1)) then some n else if idleAt ps n then wholeB ps ks (n + 1) else none := by
  unfold wholeB
  rw [show ps.length - n = (ps.length - (n + 1)) + 1 by (first | with_reducible exact Mine.zq8 (by assumption) | omega)]; rfl
theorem wholeB_end {ps : List Pc} {ks : List Int} {n : Nat} (h : ps.length ≤ n) : wholeB ps ks n = if ks.contains (bAt ps (n - 1)) then some n else none := by
  unfold wholeB
  rw [show ps.length - n = 0 by (first | with_reducible exact Nat.sub_eq_zero_of_le (by assumption) | omega)]; rfl
theorem narF_step {ps : List Pc} {ks : List Int} {n : Nat} (h : n < ps.length) : narF ps ks n = if ks.contains (aAt ps n) then some n else if idleAt ps n then narF ps ks (n + 1) else none := by
  unfold narF
  rw [show ps.length - n = (ps.length - (n + 1)) + 1 by (first | with_reducible exact Mine.zq8 (by assumption) | omega)]; rfl
theorem wholeF_step {ps : List Pc} {ks : List Int} {n : Nat} (h : 0 < n) : wholeF ps ks n = if ks.contains (aAt ps n) then some n else if idleAt ps (n - 1) then wholeF ps ks (n - 1) else none := by
  obtain ⟨m, rfl⟩ : ∃ m, n = m + 1 := ⟨n - 1, by (first | with_reducible exact Mine.zp5 (by assumption) | omega)⟩; rfl
theorem narB_step {ps : List Pc} {ks : List Int} {n : Nat} (h : 0 < n) : narB ps ks n = if ks.contains (bAt ps (n - 1)) then some n else if idleAt ps (n - 1) then narB ps ks (n - 1) else none := by
  obtain ⟨m, rfl⟩ : ∃ m, n = m + 1 := ⟨n - 1, by (first | with_reducible exact Mine.zp5 (by assumption) | omega)⟩; rfl

inductive ivN7a (ps : List Pc) (ks : List Int) (f : Nat) (st : Store) (b : Nat) (ρ1 : Vars) (st1 : Store) : Prop
  | mk (x : Nat) (q1 : wholeF ps ks f = some x) (q2 : st1 = st) (q3 : ρ1 "pieces" = some (.pcs ps)) (q4 : ρ1 "ends" = some (.dic ks)) (q5 : ρ1 "first" = some (.dat (.int x))) (q6 : ρ1 "behind" = some (.dat (.int b)))
inductive ivN7b (f : Nat) (st : Store) (ps : List Pc) (ks : List Int) (b : Nat) (n : Nat) (ρ' : Vars) (st' : Store) : Prop
  | mk (q1 : n ≤ f) (q2 : st' = st) (q3 : ρ' "pieces" = some (.pcs ps)) (q4 : ρ' "ends" = some (.dic ks)) (q5 : ρ' "first" = some (.dat (.int n))) (q6 : ρ' "behind" = some (.dat (.int b))) (q7 : wholeF ps ks n = wholeF ps ks f)
inductive ivN7c (ps : List Pc) (ks : List Int) (b : Nat) (st1 : Store) (x : Nat) (ρ1 : Vars) (st' : Store) : Prop
  | mk (y : Nat) (q1 : wholeB ps ks b = some y) (q2 : st' = st1) (q3 : ρ1 "first" = some (.dat (.int x))) (q4 : ρ1 "behind" = some (.dat (.int y)))
inductive ivN7d (ps : List Pc) (st1 : Store) (ks : List Int) (x : Nat) (b : Nat) (n : Nat) (ρ' : Vars) (st' : Store) : Prop
  | mk (m : Nat) (q1 : n = ps.length - m) (q2 : 0 < m) (q3 : m ≤ ps.length) (q4 : st' = st1) (q5 : ρ' "pieces" = some (.pcs ps)) (q6 : ρ' "ends" = some (.dic ks)) (q7 : ρ' "first" = some (.dat (.int x))) (q8 : ρ' "behind" = some (.dat (.int m))) (q9 : wholeB ps ks m = wholeB ps ks b)
theorem c_whole (T : Tx g P) {ps : List Pc} {ks : List Int} {d f b : Nat} (hp : PsOk d ps) (hf : f < ps.length) (hb0 : 0 < b) (hb : b ≤ ps.length) {Q : D → Store → Prop} (q : Q (.dat (opD prN (both (wholeF ps ks f) (wholeB ps ks b)))) st) :
    CaJ g (k + 2) (.ref 73) [.pcs ps, .dat (prN (f, b)), .dic ks] st Q := by
  have hpl := hp.len
  have hd1 := hp.d1
  refine ca_own T.K ["pieces", "stretch", "ends"] rfl (fun L a => ?_) rfl (hb3 fun w0 w0 w0 => rfl) (fun w0 => rfl) ⟨rfl, rfl, rfl, rfl, rfl, rfl⟩
  refine ex_cons <| sm_tuple <| ev_name rfl <| as_tuple <| ass_cons (as_name (Wr.own (.inl rfl)) <| ass_cons (as_name (Wr.own (.inl rfl)) <| ass_nil ?_))
  refine ex_cut (ivN7a ps ks f st b)
    (sm_while (ivN7b f st ps ks b) f ⟨by (first | with_reducible exact Nat.le_refl _ | omega), rfl, rfl, rfl, rfl, rfl, rfl⟩ ?_) ?_
  · rintro n ρ' st' ⟨hn, rfl, h1, h1', h2, h3, h4⟩
    obtain ⟨p0, he0⟩ := get_of_lt (show n < ps.length by (first | with_reducible exact Nat.lt_of_le_of_lt (by assumption) (by assumption) | omega))
    refine tr_cmp <| ev_attr T.cls _ (.inl ⟨rfl, rfl⟩) <| ev_itemP <| ev_name h1 <| ev_name h2 ⟨_, _, _, _, rfl, rfl, rfl, he0, ten_th hpl, _, rfl, ev_name h1' <| cm_notin_dic ?_⟩
    have ea := aAt_of he0
    cases hc : ks.contains p0.a with
    | true =>
      refine ite_f rfl ⟨n, ?_, rfl, h1, h1', h2, h3⟩
      rw [← h4]
      cases n with
      | zero => unfold wholeF; rw [ea, hc]; rfl
      | succ n => unfold wholeF; rw [ea, hc]; rfl
    | false =>
      refine ite_t rfl <| ex_cons <| sm_if <| tr_or <| tr_cmp <| ev_name h2 <| ev_int <| cm_eq_int ?_
      by_cases hlt : 0 < n
      · obtain ⟨p, he⟩ := get_of_lt (show n - 1 < ps.length by (first | with_reducible exact Mine.zp12 (by assumption) (by assumption) | omega))
        have hlv := hp.lv p (List.mem_of_getElem? he)
        refine ite_f (by simp; omega) <| tr_or <| tr_not <| tr_val <| ev_idle T.cls <| ev_itemP <| ev_name h1 <| ev_bin <| ev_name h2 <| ev_int <| op_sub_int ⟨_, _, n - 1, _, rfl, rfl, by (first | with_reducible exact Mine.zp1 (by assumption) | omega), he, ten_th hpl, _, rfl, c_idle' T (by (first | with_reducible exact Nat.le_trans (Nat.le_of_eq (by assumption)) (Nat.le_trans (by assumption) (by decide)) | omega)) ⟨_, rfl, ?_⟩⟩
        have e5 := wholeF_step (ps := ps) (ks := ks) hlt
        rw [ea, hc, if_neg (by decide), idleAt_of he] at e5
        cases hi : idle p.lv with
        | true =>
          refine ite_f rfl <| tr_or_nil <| ite_f rfl <| ex_nil <| ex_cons <| sm_augSub h2 (.inl rfl) <| ev_int ⟨_, rfl, ex_nil ⟨n - 1, by (first | with_reducible exact Mine.zp3 (by assumption) | omega), by (first | with_reducible exact Mine.zp10 (by assumption) | omega), rfl, h1, h1', ?_, h3, ?_⟩⟩
          · show some (D.dat (.int ((n : Int) - 1))) = _; rw [show (n : Int) - 1 = ((n - 1 : Nat) : Int) by (first | with_reducible exact Mine.zp1 (by assumption) | omega)]
          · rw [hi, if_pos rfl] at e5; rw [← h4, e5]
        | false =>
          refine ite_t rfl <| ite_t rfl <| ex_cons <| sm_return <| ev_none ⟨_, .refl _, ?_⟩
          rw [hi, if_neg (by decide)] at e5
          rw [← h4, e5] at q; exact q
      · have hn0 : n = 0 := by (first | with_reducible exact Nat.eq_zero_of_not_pos (by assumption) | omega)
        subst hn0
        refine ite_t rfl <| ite_t rfl <| ex_cons <| sm_return <| ev_none ⟨_, .refl _, ?_⟩
        have e5 : wholeF ps ks 0 = none := by unfold wholeF; rw [ea, hc]; rfl
        rw [← h4, e5] at q; exact q
  rintro ρ1 st1 ⟨x, hx, rfl, g1, g1', g2, g3⟩
  rw [hx] at q
  refine ex_cut (ivN7c ps ks b st1 x)
    (sm_while (ivN7d ps st1 ks x b) (ps.length - b) ⟨b, rfl, hb0, hb, rfl, g1, g1', g2, g3, rfl⟩ ?_) ?_
  · rintro n' ρ' st' ⟨m, rfl, hm0, hm, rfl, h1, h1', h2, h3, h4⟩
    obtain ⟨p0, he0⟩ := get_of_lt (show m - 1 < ps.length by (first | with_reducible exact Mine.zp13 (by assumption) (by assumption) | omega))
    refine tr_cmp <| ev_attr T.cls _ (.inr (.inl ⟨rfl, rfl⟩)) <| ev_itemP <| ev_name h1 <| ev_bin <| ev_name h3 <| ev_int <| op_sub_int ⟨_, _, m - 1, _, rfl, rfl, by (first | with_reducible exact Mine.zp1 (by assumption) | omega), he0, ten_th hpl, _, rfl, ev_name h1' <| cm_notin_dic ?_⟩
    have ea := bAt_of he0
    cases hc : ks.contains p0.b with
    | true =>
      refine ite_f rfl ⟨m, ?_, rfl, h2, h3⟩
      rw [← h4]
      by_cases hlt : m < ps.length
      · rw [wholeB_step hlt, ea, hc]; rfl
      · rw [wholeB_end (by (first | with_reducible exact Nat.le_of_not_lt (by assumption) | omega)), ea, hc]; rfl
    | false =>
      refine ite_t rfl <| ex_cons <| sm_if <| tr_or <| tr_cmp <| ev_name h3 <| ev_call T.len okB <| evs_cons <| ev_name h1 <| evs_nil <| ca_lenP (le_mil (ten_th hpl)) <| cm_eq_int ?_
      by_cases hlt : m < ps.length
      · obtain ⟨p, he⟩ := get_of_lt hlt
        have hlv := hp.lv p (List.mem_of_getElem? he)
        refine ite_f (by simp; omega) <| tr_or <| tr_not <| tr_val <| ev_idle T.cls <| ev_itemP <| ev_name h1 <| ev_name h3 ⟨_, _, _, _, rfl, rfl, rfl, he, ten_th hpl, _, rfl, c_idle' T (by (first | with_reducible exact Nat.le_trans (Nat.le_of_eq (by assumption)) (Nat.le_trans (by assumption) (by decide)) | omega)) ⟨_, rfl, ?_⟩⟩
        have e5 := wholeB_step (ks := ks) hlt
        rw [ea, hc, if_neg (by decide), idleAt_of he] at e5
        cases hi : idle p.lv with
        | true =>
          refine ite_f rfl <| tr_or_nil <| ite_f rfl <| ex_nil <| ex_cons <| sm_aug h3 (.inl rfl) <| ev_int ⟨_, rfl, ex_nil ⟨ps.length - (m + 1), by (first | with_reducible exact Mine.zp7 (by assumption) | omega), m + 1, rfl, by (first | with_reducible exact Nat.lt_succ_of_lt (by assumption) | omega), by (first | with_reducible exact Nat.succ_le_of_lt (by assumption) | omega), rfl, h1, h1', h2, ?_, ?_⟩⟩
          · show some (D.dat (.int ((m : Int) + 1))) = _; push_cast; rfl
          · rw [hi, if_pos rfl] at e5; rw [← h4, e5]
        | false =>
          refine ite_t rfl <| ite_t rfl <| ex_cons <| sm_return <| ev_none ⟨_, .refl _, ?_⟩
          rw [hi, if_neg (by decide)] at e5
          rw [← h4, e5] at q; exact q
      · refine ite_t (by simp; omega) <| ite_t rfl <| ex_cons <| sm_return <| ev_none ⟨_, .refl _, ?_⟩
        have e5 := wholeB_end (ks := ks) (show ps.length ≤ m by (first | with_reducible exact Nat.le_of_not_lt (by assumption) | omega))
        rw [ea, hc, if_neg (by decide)] at e5
        rw [← h4, e5] at q; exact q
  rintro ρ2 st2 ⟨y, hy, rfl, g1, g2⟩
  rw [hy] at q
  exact ex_cons <| sm_return <| ev_tuple <| evs_cons <| ev_name g1 <| evs_cons <| ev_name g2 <| evs_nil ⟨[.int _, .int _], rfl, sm rfl, _, .refl _, q⟩

inductive ivN7e (ps : List Pc) (ks : List Int) (f : Nat) (st : Store) (b : Nat) (ρ1 : Vars) (st1 : Store) : Prop
  | mk (x : Nat) (q1 : narF ps ks f = some x) (q2 : st1 = st) (q3 : ρ1 "pieces" = some (.pcs ps)) (q4 : ρ1 "ends" = some (.dic ks)) (q5 : ρ1 "first" = some (.dat (.int x))) (q6 : ρ1 "behind" = some (.dat (.int b)))
inductive ivN7f (ps : List Pc) (t : Nat) (st : Store) (ks : List Int) (b : Nat) (f : Nat) (n : Nat) (ρ' : Vars) (st' : Store) : Prop
  | mk (m : Nat) (q1 : n = ps.length - m) (q2 : m ≤ t) (q3 : st' = st) (q4 : ρ' "pieces" = some (.pcs ps)) (q5 : ρ' "ends" = some (.dic ks)) (q6 : ρ' "first" = some (.dat (.int m))) (q7 : ρ' "behind" = some (.dat (.int b))) (q8 : narF ps ks m = narF ps ks f)
inductive ivN7g (ps : List Pc) (ks : List Int) (b : Nat) (st1 : Store) (x : Nat) (ρ1 : Vars) (st' : Store) : Prop
  | mk (y : Nat) (q1 : narB ps ks b = some y) (q2 : st' = st1) (q3 : ρ1 "first" = some (.dat (.int x))) (q4 : ρ1 "behind" = some (.dat (.int y)))
inductive ivN7h (u : Nat) (ps : List Pc) (st1 : Store) (ks : List Int) (x : Nat) (b : Nat) (m : Nat) (ρ' : Vars) (st' : Store) : Prop
  | mk (q1 : u < m) (q2 : m ≤ ps.length) (q3 : st' = st1) (q4 : ρ' "pieces" = some (.pcs ps)) (q5 : ρ' "ends" = some (.dic ks)) (q6 : ρ' "first" = some (.dat (.int x))) (q7 : ρ' "behind" = some (.dat (.int m))) (q8 : narB ps ks m = narB ps ks b)
theorem c_narrowed (T : Tx g P) {ps : List Pc} {ks : List Int} {d f b t u : Nat} (hp : PsOk d ps) (hf : f ≤ t) (ht : t < ps.length) (hi1 : idleAt ps t = false) (hu : u < b) (hb : b ≤ ps.length) (hi2 : idleAt ps u = false) {Q : D → Store → Prop}
    (q : Q (.dat (opD prN (both (narF ps ks f) (narB ps ks b)))) st) :
    CaJ g (k + 2) (.ref 80) [.pcs ps, .dat (prN (f, b)), .dic ks] st Q := by
  have hpl := hp.len
  have hd1 := hp.d1
  refine ca_own T.K ["pieces", "stretch", "ends"] rfl (fun L a => ?_) rfl (hb3 fun w0 w0 w0 => rfl) (fun w0 => rfl) ⟨rfl, rfl, rfl, rfl, rfl, rfl⟩
  refine ex_cons <| sm_tuple <| ev_name rfl <| as_tuple <| ass_cons (as_name (Wr.own (.inl rfl)) <| ass_cons (as_name (Wr.own (.inl rfl)) <| ass_nil ?_))
  refine ex_cut (ivN7e ps ks f st b)
    (sm_while (ivN7f ps t st ks b f) (ps.length - f) ⟨f, rfl, by (first | with_reducible assumption | omega), rfl, rfl, rfl, rfl, rfl, rfl⟩ ?_) ?_
  · rintro n ρ' st' ⟨m, rfl, hm, rfl, h1, h1', h2, h3, h4⟩
    obtain ⟨p0, he0⟩ := get_of_lt (show m < ps.length by (first | with_reducible exact Nat.lt_of_le_of_lt (by assumption) (by assumption) | omega))
    have hlv := hp.lv p0 (List.mem_of_getElem? he0)
    refine tr_cmp <| ev_attr T.cls _ (.inl ⟨rfl, rfl⟩) <| ev_itemP <| ev_name h1 <| ev_name h2 ⟨_, _, _, _, rfl, rfl, rfl, he0, ten_th hpl, _, rfl, ev_name h1' <| cm_notin_dic ?_⟩
    have e5 := narF_step (ks := ks) (show m < ps.length by (first | with_reducible exact Nat.lt_of_le_of_lt (by assumption) (by assumption) | omega))
    rw [aAt_of he0, idleAt_of he0] at e5
    cases hc : ks.contains p0.a with
    | true =>
      refine ite_f rfl ⟨m, ?_, rfl, h1, h1', h2, h3⟩
      rw [← h4, e5, hc]; rfl
    | false =>
      refine ite_t rfl <| ex_cons <| sm_if <| tr_not <| tr_val <| ev_idle T.cls <| ev_itemP <| ev_name h1 <| ev_name h2 ⟨_, _, _, _, rfl, rfl, rfl, he0, ten_th hpl, _, rfl, c_idle' T (by (first | with_reducible exact Nat.le_trans (Nat.le_of_eq (by assumption)) (Nat.le_trans (by assumption) (by decide)) | omega)) ⟨_, rfl, ?_⟩⟩
      rw [hc, if_neg (by decide)] at e5
      cases hi : idle p0.lv with
      | true =>
        have hne : m ≠ t := by rintro rfl; rw [idleAt_of he0, hi] at hi1; cases hi1
        refine ite_f rfl <| ex_nil <| ex_cons <| sm_aug h2 (.inl rfl) <| ev_int ⟨_, rfl, ex_nil ⟨ps.length - (m + 1), by (first | with_reducible exact Mine.zp8 (by assumption) (by assumption) | omega), m + 1, rfl, by (first | with_reducible exact Mine.zx7b (by assumption) (by assumption) | omega), rfl, h1, h1', ?_, h3, ?_⟩⟩
        · show some (D.dat (.int ((m : Int) + 1))) = _; push_cast; rfl
        · rw [hi, if_pos rfl] at e5; rw [← h4, e5]
      | false =>
        refine ite_t rfl <| ex_cons <| sm_return <| ev_none ⟨_, .refl _, ?_⟩
        rw [hi, if_neg (by decide)] at e5
        rw [← h4, e5] at q; exact q
  rintro ρ1 st1 ⟨x, hx, rfl, g1, g1', g2, g3⟩
  rw [hx] at q
  refine ex_cut (ivN7g ps ks b st1 x)
    (sm_while (ivN7h u ps st1 ks x b) b ⟨hu, hb, rfl, g1, g1', g2, g3, rfl⟩ ?_) ?_
  · rintro m ρ' st' ⟨hm0, hm, rfl, h1, h1', h2, h3, h4⟩
    obtain ⟨p0, he0⟩ := get_of_lt (show m - 1 < ps.length by (first | with_reducible exact Mine.zp13 (by assumption) (by assumption) | omega))
    have hlv := hp.lv p0 (List.mem_of_getElem? he0)
    refine tr_cmp <| ev_attr T.cls _ (.inr (.inl ⟨rfl, rfl⟩)) <| ev_itemP <| ev_name h1 <| ev_bin <| ev_name h3 <| ev_int <| op_sub_int ⟨_, _, m - 1, _, rfl, rfl, by (first | with_reducible exact Mine.zp2 (by assumption) | omega), he0, ten_th hpl, _, rfl, ev_name h1' <| cm_notin_dic ?_⟩
    have e5 := narB_step (ps := ps) (ks := ks) (show 0 < m by (first | with_reducible exact Mine.zp9 (by assumption) | omega))
    rw [bAt_of he0, idleAt_of he0] at e5
    cases hc : ks.contains p0.b with
    | true =>
      refine ite_f rfl ⟨m, ?_, rfl, h2, h3⟩
      rw [← h4, e5, hc]; rfl
    | false =>
      refine ite_t rfl <| ex_cons <| sm_if <| tr_not <| tr_val <| ev_idle T.cls <| ev_itemP <| ev_name h1 <| ev_bin <| ev_name h3 <| ev_int <| op_sub_int ⟨_, _, m - 1, _, rfl, rfl, by (first | with_reducible exact Mine.zp2 (by assumption) | omega), he0, ten_th hpl, _, rfl, c_idle' T (by (first | with_reducible exact Nat.le_trans (Nat.le_of_eq (by assumption)) (Nat.le_trans (by assumption) (by decide)) | omega)) ⟨_, rfl, ?_⟩⟩
      rw [hc, if_neg (by decide)] at e5
      cases hi : idle p0.lv with
      | true =>
        have hne : m - 1 ≠ u := by rintro rfl; rw [idleAt_of he0, hi] at hi2; cases hi2
        refine ite_f rfl <| ex_nil <| ex_cons <| sm_augSub h3 (.inl rfl) <| ev_int ⟨_, rfl, ex_nil ⟨m - 1, by (first | with_reducible exact Mine.zp4 (by assumption) | omega), by omega, by (first | with_reducible exact Mine.zp10 (by assumption) | omega), rfl, h1, h1', h2, ?_, ?_⟩⟩
        · show some (D.dat (.int ((m : Int) - 1))) = _; rw [show (m : Int) - 1 = ((m - 1 : Nat) : Int) by (first | with_reducible exact Mine.zp2 (by assumption) | omega)]
        · rw [hi, if_pos rfl] at e5; rw [← h4, e5]
      | false =>
        refine ite_t rfl <| ex_cons <| sm_return <| ev_none ⟨_, .refl _, ?_⟩
        rw [hi, if_neg (by decide)] at e5
        rw [← h4, e5] at q; exact q
  rintro ρ2 st2 ⟨y, hy, rfl, g1, g2⟩
  rw [hy] at q
  exact ex_cons <| sm_return <| ev_tuple <| evs_cons <| ev_name g1 <| evs_cons <| ev_name g2 <| evs_nil ⟨[.int _, .int _], rfl, sm rfl, _, .refl _, q⟩
end
end Mine

namespace Mine
section
variable {g : Gr} {k : Nat} {env : Env} {ρ : Vars} {st : Store} {P : Params}

theorem c_begins (T : Tx g P) {x y : List Int} {Q : D → Store → Prop} (hx : x.length ≤ 1000) (hy : y.length ≤ 1000)
    (q : Q (.dat (.bool (decide (y.take x.length = x)))) st) : CaJ g (k+1) (.ref 54) [.dat (iL x), .dat (iL y)] st Q := by
  refine ca_own T.K ["part", "whole"] rfl (fun L a => ?_) rfl (hb2 fun w0 w0 => rfl) (fun w0 => rfl) ⟨rfl, rfl, rfl, rfl, rfl, rfl⟩
  have e : (PyData.list (List.take ((some ((x.map PyData.int).length : Int)).elim (y.map PyData.int).length (clipAt (y.map PyData.int).length) - (none : Option Int).elim 0 (clipAt (y.map PyData.int).length)) (List.drop ((none : Option Int).elim 0 (clipAt (y.map PyData.int).length)) (y.map PyData.int)))) = iL (y.take x.length) := by
    rw [take_clip, List.length_map, ← List.map_take]; rfl
  refine ex_cons <| sm_return <| ev_cmp <| ev_slice <| ev_name rfl <| pt_none <| pt_some <| ev_call T.len okB <| evs_cons <| ev_name rfl <| evs_nil <| ca_len (xs := x.map .int) .dat (by simp; (first | with_reducible exact Nat.le_trans (by assumption) (by decide) | omega)) ⟨_, rfl, y.map .int, .dat, by simp; (first | with_reducible exact Nat.le_trans (by assumption) (by decide) | omega), ev_name rfl ?_⟩
  rw [e]
  refine cm_eq .dat .dat (sh_iL _).ok (sh_iL _).ok ⟨_, .refl _, ?_⟩
  rw [eqv_iL]; exact q

noncomputable def upd (acc lv : List (List Int)) (i : Nat) : List (List Int) := (List.range acc.length).map fun j => if j < i then acc.getD j [] ++ lv.getD j [] else acc.getD j []
noncomputable def zipApp (acc lv : List (List Int)) : List (List Int) := (List.range acc.length).map fun j => acc.getD j [] ++ lv.getD j []
noncomputable def prefixes (acc W : List (List Int)) : Bool := (List.range acc.length).all fun j => decide ((W.getD j []).take (acc.getD j []).length = acc.getD j [])
noncomputable def stGo (W : List (List Int)) : List Pc → Nat → List (List Int) → Option Nat
  | [], _, _ => none
  | p :: r, n, acc => if zipApp acc p.lv = W then some (n + 1) else if prefixes (zipApp acc p.lv) W then stGo W r (n + 1) (zipApp acc p.lv) else none
theorem stGo_cons {W : List (List Int)} {p : Pc} {r : List Pc} {n : Nat} {acc : List (List Int)} : stGo W (p :: r) n acc = if zipApp acc p.lv = W then some (n + 1) else if prefixes (zipApp acc p.lv) W then stGo W r (n + 1) (zipApp acc p.lv) else none := rfl
noncomputable def stretch (ps : List Pc) (n : Nat) (W : List (List Int)) : Option Nat := if idleAt ps n then none else stGo W (ps.drop n) n (W.map fun w0 => [])

theorem upd_len (acc lv : List (List Int)) (i : Nat) : (upd acc lv i).length = acc.length := by simp [upd]
theorem zipApp_len (acc lv : List (List Int)) : (zipApp acc lv).length = acc.length := by simp [zipApp]
theorem getD_map_range {α : Type} (f : Nat → α) (n j : Nat) (d : α) (h : j < n) : ((List.range n).map f).getD j d = f j := by
  rw [List.getD_eq_getElem?_getD, List.getElem?_map, List.getElem?_range h]; rfl
theorem upd_get {acc lv : List (List Int)} {i j : Nat} (h : j < acc.length) : (upd acc lv i).getD j [] = if j < i then acc.getD j [] ++ lv.getD j [] else acc.getD j [] := getD_map_range _ _ _ _ h
theorem zipApp_get {acc lv : List (List Int)} {j : Nat} (h : j < acc.length) : (zipApp acc lv).getD j [] = acc.getD j [] ++ lv.getD j [] := getD_map_range _ _ _ _ h
theorem ext_getD {l m : List (List Int)} (h : l.length = m.length) (e : ∀ j, j < l.length → l.getD j [] = m.getD j []) : l = m := by
  refine List.ext_getElem h fun j h1 h2 => ?_
  have := e j h1
  rw [List.getD_eq_getElem?_getD, List.getD_eq_getElem?_getD, List.getElem?_eq_getElem h1, List.getElem?_eq_getElem h2] at this
  exact this
theorem upd_zero (acc lv : List (List Int)) : upd acc lv 0 = acc := by
  refine ext_getD (upd_len ..) fun j h => ?_
  rw [upd_len] at h
  rw [upd_get h, if_neg (by omega)]
theorem upd_all {acc lv : List (List Int)} {i : Nat} (h : acc.length ≤ i) : upd acc lv i = zipApp acc lv := by
  refine ext_getD (by rw [upd_len, zipApp_len]) fun j hj => ?_
  rw [upd_len] at hj
  rw [upd_get hj, if_pos (by (first | with_reducible exact Nat.lt_of_lt_of_le (by assumption) (by assumption) | omega)), zipApp_get hj]
theorem upd_set {acc lv : List (List Int)} {i : Nat} : ((upd acc lv i).map iL).set i (iL (acc.getD i [] ++ lv.getD i [])) = (upd acc lv (i + 1)).map iL := by
  rw [← List.map_set]
  congr 1
  refine ext_getD (by rw [List.length_set, upd_len, upd_len]) fun j hj => ?_
  rw [List.length_set, upd_len] at hj
  rw [List.getD_eq_getElem?_getD, List.getElem?_set, upd_len]
  by_cases hij : i = j
  · subst hij
    rw [if_pos rfl, if_pos hj, upd_get hj, if_pos (by (first | with_reducible exact Nat.lt_succ_self _ | omega))]; rfl
  · rw [if_neg hij, ← List.getD_eq_getElem?_getD, upd_get hj, upd_get hj]
    by_cases h : j < i
    · rw [if_pos h, if_pos (by (first | with_reducible exact Nat.lt_succ_of_lt (by assumption) | omega))]
    · rw [if_neg h, if_neg (by omega)]

theorem enums_eq (f : Nat → PyData) : ∀ (n i : Nat) (xs : List PyData), xs = (List.range n).map (fun j => f (i + j)) → enums i xs = (List.range n).map fun j => .dat (.tuple [.int ((i + j : Nat) : Int), f (i + j)]) := by
  intro xx
  induction xx with
  | zero =>
    intro i xs h
    subst h; rfl
  | succ n ih =>
    intro i xs h
    subst h
    rw [List.range_succ_eq_map, List.map_cons, List.map_map, List.map_cons, List.map_map]
    show D.dat (.tuple [.int (i : Int), f (i + 0)]) :: enums (i + 1) _ = _
    rw [ih (i + 1) _ (by congr 1; funext j; show f (i + (j + 1)) = f (i + 1 + j); congr 1; (first | with_reducible exact Mine.za4.symm | omega))]
    congr 1
    refine congrFun (congrArg List.map (funext fun j => ?_)) _
    show D.dat (.tuple [.int ((i + 1 + j : Nat) : Int), f (i + 1 + j)]) = D.dat (.tuple [.int ((i + (j + 1) : Nat) : Int), f (i + (j + 1))])
    rw [show i + 1 + j = i + (j + 1) by (first | with_reducible exact Mine.za4 | omega)]
theorem range_getD (acc : List (List Int)) : acc.map iL = (List.range acc.length).map fun j => iL (acc.getD (0 + j) []) := by
  refine List.ext_getElem (by simp) fun j h1 h2 => ?_
  rw [List.length_map] at h1
  simp [h1]
theorem enums_acc (acc : List (List Int)) : enums 0 (acc.map iL) = (List.range acc.length).map fun j => .dat (.tuple [.int j, iL (acc.getD j [])]) := by
  have := enums_eq (fun j => iL (acc.getD j [])) acc.length 0 (acc.map iL) (range_getD acc)
  simpa using this

theorem filterMap_some {α β : Type} (f : α → β) : ∀ l : List α, (l.filterMap fun x => some (f x)) = l.map f
  | [] => rfl
  | x :: l => by rw [List.filterMap_cons_some (f := fun x => some (f x)) rfl, filterMap_some f l]; rfl

inductive ivN8a (n : Nat) (ps : List Pc) (d : Nat) (st : Store) (c : Addr) (W : List (List Int)) (rem : List D) (ρ' : Vars) (st' : Store) : Prop
  | mk (j : Nat) (acc : List (List Int)) (q1 : n ≤ j) (q2 : j ≤ ps.length) (q3 : rem = numsD j (ps.length - j)) (q4 : acc.length = d) (q5 : (∀ i, (acc.getD i []).length ≤ 3 * j)) (q6 : st' = st.set c (acc.map iL)) (q7 : ρ' "pieces" = some (.pcs ps)) (q8 : ρ' "start" = some (.dat (.int n))) (q9 : ρ' "wanted" = some (.dat (lvD W))) (q10 : ρ' "levels" = some (.cell c)) (q11 : stGo W (ps.drop j) j acc = stGo W (ps.drop n) n (W.map fun w0 => []))
inductive ivN8b (st : Store) (c : Addr) (acc : List (List Int)) (p : Pc) (ps : List Pc) (n : Nat) (W : List (List Int)) (j : Nat) (ρ1 : Vars) (st1 : Store) : Prop
  | mk (q1 : st1 = st.set c ((zipApp acc p.lv).map iL)) (q2 : ρ1 "pieces" = some (.pcs ps)) (q3 : ρ1 "start" = some (.dat (.int n))) (q4 : ρ1 "wanted" = some (.dat (lvD W))) (q5 : ρ1 "levels" = some (.cell c)) (q6 : ρ1 "number" = some (.dat (.int j)))
inductive ivN8c (d : Nat) (p : Pc) (j : Nat) (st : Store) (c : Addr) (acc : List (List Int)) (ps : List Pc) (n : Nat) (W : List (List Int)) (rem2 : List D) (ρ2 : Vars) (st2 : Store) : Prop
  | mk (i : Nat) (q1 : i ≤ d) (q2 : rem2 = ((List.range p.lv.length).drop i).map (fun j => .dat (.tuple [.int j, iL (p.lv.getD j [])]))) (q3 : st2 = st.set c ((upd acc p.lv i).map iL)) (q4 : ρ2 "pieces" = some (.pcs ps)) (q5 : ρ2 "start" = some (.dat (.int n))) (q6 : ρ2 "wanted" = some (.dat (lvD W))) (q7 : ρ2 "levels" = some (.cell c)) (q8 : ρ2 "number" = some (.dat (.int j)))
theorem c_stretch (T : Tx g P) {ps : List Pc} {W : List (List Int)} {d n : Nat} (hp : PsOk d ps) (hW : W.length = d) (hWl : ∀ l ∈ W, l.length ≤ 100) (hn : n < ps.length) {Q : D → Store → Prop}
    (q : Q (.dat (opD prN ((stretch ps n W).map fun h => (n, h)))) st) : CaJ g (k + 2) (.ref 59) [.pcs ps, .dat (.int n), .dat (lvD W)] st Q := by
  have hpl := hp.len
  have hd1 := hp.d1
  refine ca_own T.K ["pieces", "start", "wanted"] rfl (fun L a => ?_) rfl (hb3 fun w0 w0 w0 => rfl) (fun w0 => rfl) ⟨rfl, rfl, rfl, rfl, rfl, rfl⟩
  obtain ⟨p0, he0⟩ := get_of_lt hn
  have hlv0 := hp.lv p0 (List.mem_of_getElem? he0)
  refine ex_cons <| sm_if <| tr_val <| ev_idle T.cls <| ev_itemP <| ev_name rfl <| ev_name rfl ⟨_, _, _, _, rfl, rfl, rfl, he0, ten_th hpl, _, rfl, c_idle' T (by (first | with_reducible exact Nat.le_trans (Nat.le_of_eq (by assumption)) (Nat.le_trans (by assumption) (by decide)) | omega)) ⟨_, rfl, ?_⟩⟩
  unfold stretch at q
  rw [idleAt_of he0] at q
  cases hi : idle p0.lv with
  | true =>
    rw [hi, if_pos rfl] at q
    exact ite_t rfl <| ex_cons <| sm_return <| ev_none ⟨_, .refl _, q⟩
  | false =>
    rw [hi, if_neg (by decide)] at q
    refine ite_f rfl <| ex_nil ?_
    refine ex_cons <| sm_compP (.inl rfl) (f := fun l => .dat (iL l)) (F := fun w0 => some (iL [])) (xs := W) <| it_list (ht := .inl ⟨_, _, rfl⟩) <| ev_name rfl ⟨W.map fun l => .dat (iL l), [], .inl ⟨_, rfl, rfl, maps⟩, rfl, by (first | with_reducible exact Nat.le_trans (Nat.le_of_eq (by assumption)) (Nat.le_trans (by assumption) (by decide)) | omega), fun C l w0 => ?_, .inr fun c hc => ?_⟩
    · exact as_name (.inl ⟨rfl, rfl⟩) <| ifs_nil <| ite_t rfl <| ev_list <| evs_nil ⟨[], rfl, sm rfl, rfl, _, rfl, rfl⟩
    refine ex_cons <| sm_for <| it_range2 T.range <| ev_name rfl <| ev_call T.len okB <| evs_cons <| ev_name rfl <| evs_nil <| ca_lenP (le_mil (ten_th hpl)) ⟨_, _, rfl, rfl, .nat (by (first | with_reducible exact Nat.le_trans (Nat.le_of_lt (by assumption)) (Nat.le_trans (by assumption) (by decide)) | omega)), .nat (ten_th hpl), ?_⟩
    refine ⟨ivN8a n ps d st c W, ?_, ?_, ?_⟩
    · refine ⟨n, W.map fun w0 => [], by (first | with_reducible exact Nat.le_refl _ | omega), by (first | with_reducible exact Nat.le_of_lt (by assumption) | omega), by congr 1; (first | with_reducible exact Mine.zi8 | omega), by simpa using hW, fun i => ?_, ?_, rfl, rfl, rfl, rfl, rfl⟩
      · rw [List.getD_eq_getElem?_getD, List.getElem?_map]; cases W[i]? <;> simp
      · rw [filterMap_some, List.map_map]; rfl
    · rintro x rem ρ' st' ⟨j, acc, hj0, hj, e, ha, hal, rfl, h1, h2, h3, h4, h5⟩
      obtain ⟨m, e1, rfl, rfl⟩ := numsD_cons e
      obtain ⟨p, he⟩ := get_of_lt (show j < ps.length by (first | with_reducible exact Mine.zs2 (by assumption) | omega))
      have hpm := List.mem_of_getElem? he
      have hlv := hp.lv p hpm
      have hdr : ps.drop j = p :: ps.drop (j + 1) := by
        rw [List.drop_eq_getElem_cons (by (first | with_reducible exact Mine.zs2 (by assumption) | omega))]
        congr 1
        exact Option.some.inj ((List.getElem?_eq_getElem (by (first | with_reducible exact Mine.zs2 (by assumption) | omega))).symm.trans he)
      rw [hdr, stGo_cons] at h5
      refine as_name (Wr.own (.inl rfl)) ?_
      refine ex_cut (ivN8b st c acc p ps n W j)
        (sm_for <| it_enum T.enumerate <| ev_attr T.cls _ (.inr (.inr ⟨rfl, rfl⟩)) <| ev_itemP <| ev_name h1 <| ev_name rfl ⟨_, _, _, _, rfl, rfl, rfl, he, ten_th hpl, p, rfl, p.lv.map iL, [], .inl ⟨_, rfl, rfl, rfl⟩, ?_⟩) ?_
      · rw [enums_acc]
        refine ⟨ivN8c d p j st c acc ps n W, ?_, ?_, ?_⟩
        · exact ⟨0, by (first | with_reducible exact Nat.zero_le _ | omega), rfl, by rw [upd_zero], h1, h2, h3, h4, rfl⟩
        · rintro y rem2 ρ2 st2 ⟨i, hi', e2, rfl, k1, k2, k3, k4, k5⟩
          have hil : i < p.lv.length := by
            rcases Nat.lt_or_ge i p.lv.length with h | h
            · exact h
            · rw [List.drop_eq_nil_of_le (by simpa using h)] at e2; cases e2
          rw [List.drop_eq_getElem_cons (by simpa using hil), List.getElem_range] at e2
          injection e2 with e2 e3
          subst e2 e3
          have hsl : (p.lv.getD i []).length ≤ 3 := by
            rw [List.getD_eq_getElem?_getD, List.getElem?_eq_getElem hil]
            exact hp.sm p hpm _ (List.getElem_mem _)
          have hai := hal i
          refine as_tuple <| ass_cons (as_name (Wr.own (.inl rfl)) <| ass_cons (as_name (Wr.own (.inl rfl)) <| ass_nil ?_))
          refine ex_cons <| sm_setitem k4 <| ev_bin <| ev_item <| ev_name k4 <| ev_name rfl ⟨_, _, _, .inr ⟨_, rfl, Store.set_same ..⟩, rfl, pick_lv (n := i) rfl (by rw [upd_len]; (first | with_reducible exact Mine.zu2 (by assumption) (by assumption) (by assumption) | omega)) (by rw [upd_len]; (first | with_reducible exact Nat.le_trans (Nat.le_of_eq (by assumption)) (Nat.le_trans (by assumption) (by decide)) | omega)), ?_⟩
          rw [upd_get (by (first | with_reducible exact Mine.zu2 (by assumption) (by assumption) (by assumption) | omega)), if_neg (by omega)]
          refine ev_name rfl <| op_add_list .dat .dat (by rw [List.length_map, List.length_map]; omega) <| ev_name rfl ⟨_, _, i, _, rfl, rfl, Store.set_same .., by rw [List.length_map, upd_len]; (first | with_reducible exact Nat.le_trans (Nat.le_of_eq (by assumption)) (Nat.le_trans (by assumption) (by decide)) | omega), .inl ⟨by (first | with_reducible exact Mine.zi13 | omega), by (first | with_reducible exact Mine.zv10b | omega)⟩, by rw [List.length_map, upd_len]; (first | with_reducible exact Mine.zu2 (by assumption) (by assumption) (by assumption) | omega), ?_⟩
          refine ex_nil ⟨⟨i + 1, by (first | with_reducible exact Mine.zu6 (by assumption) (by assumption) | omega), rfl, ?_, k1, k2, k3, k4, k5⟩, fun w0 h => nomatch h⟩
          rw [Store.set_set, ← List.map_append]
          congr 1
          exact upd_set
        · rintro ρ2 st2 ⟨i, hi', e2, rfl, k1, k2, k3, k4, k5⟩
          have hil : p.lv.length ≤ i := by
            rcases Nat.lt_or_ge i p.lv.length with h | h
            · rw [List.drop_eq_getElem_cons (by simpa using h)] at e2; cases e2
            · exact h
          exact ⟨by rw [upd_all (by omega)], k1, k2, k3, k4, k5⟩
      rintro ρ1 st1 ⟨rfl, k1, k2, k3, k4, k5⟩
      have hza : (zipApp acc p.lv).length = d := by rw [zipApp_len]; exact ha
      have hzl : ∀ i, ((zipApp acc p.lv).getD i []).length ≤ 3 * (j + 1) := fun i => by
        by_cases hid : i < acc.length
        · rw [zipApp_get hid, List.length_append]
          have h1 := hal i
          have h2 : (p.lv.getD i []).length ≤ 3 := by
            rw [List.getD_eq_getElem?_getD, List.getElem?_eq_getElem (by omega)]
            exact hp.sm p hpm _ (List.getElem_mem _)
          (first | with_reducible exact Mine.zu7 (by assumption) (by assumption) | omega)
        · rw [List.getD_eq_getElem?_getD, List.getElem?_eq_none (by rw [zipApp_len]; (first | with_reducible exact Nat.le_of_not_lt (by assumption) | omega))]; simp
      refine ex_cons <| sm_if <| tr_cmp <| ev_name k4 <| ev_name k3 <| cm_eq (.cell (Store.set_same ..)) .dat (sh_lvD _).ok (sh_lvD _).ok ?_
      rw [show PyData.list ((zipApp acc p.lv).map iL) = lvD (zipApp acc p.lv) from rfl, eqv_lvD]
      by_cases hz : zipApp acc p.lv = W
      · refine ite_t (decide_eq_true hz) <| ex_cons <| sm_return <| ev_tuple <| evs_cons <| ev_name k2 <| evs_cons <| ev_bin <| ev_name k5 <| ev_int <| op_add_int <| evs_nil ⟨[.int _, .int _], rfl, sm rfl, st, (StLe.refl st).setN _ hc, ?_⟩
        rw [if_pos hz] at h5
        rw [← h5] at q
        exact q
      · refine ite_f (decide_eq_false hz) <| ex_nil ?_
        rw [if_neg hz] at h5
        refine ex_cons <| sm_if <| tr_not <| tr_val <| ev_call T.all okB <| evs_cons <| ev_compP (f := fun i => .dat (.tuple [.int (i : Nat), iL ((zipApp acc p.lv).getD i [])])) (F := fun i => some (.bool (decide ((W.getD i []).take ((zipApp acc p.lv).getD i []).length = (zipApp acc p.lv).getD i [])))) (xs := List.range (zipApp acc p.lv).length) <| it_enum T.enumerate <| ev_name k4 ⟨(zipApp acc p.lv).map iL, [c], .inr (.inl ⟨c, _, rfl, Store.set_same .., rfl, rfl⟩), enums_acc _, by simp; (first | with_reducible exact Nat.le_trans (Nat.le_of_eq (by assumption)) (Nat.le_trans (by assumption) (by decide)) | omega), fun C i hi => ?_, .inl ?_⟩
        · have hil : i < d := by rw [← hza]; exact List.mem_range.mp hi
          refine as_tuple <| ass_cons (as_name (.inl ⟨rfl, rfl⟩) <| ass_cons (as_name (.inl ⟨rfl, rfl⟩) <| ass_nil ?_))
          refine ifs_nil <| ite_t rfl <| ev_call (T.nm (v := .ref 54)) T.ok <| evs_cons <| ev_name rfl <| evs_cons <| ev_item <| ev_name k3 <| ev_name rfl ⟨_, _, _, .dat, rfl, pick_lv (n := i) rfl (by (first | with_reducible exact Mine.zu3 (by assumption) (by assumption) | omega)) (by (first | with_reducible exact Nat.le_trans (Nat.le_of_eq (by assumption)) (Nat.le_trans (by assumption) (by decide)) | omega)), ?_⟩
          have hzi := hzl i
          have hwi : (W.getD i []).length ≤ 100 := by
            rw [List.getD_eq_getElem?_getD, List.getElem?_eq_getElem (by (first | with_reducible exact Mine.zu3 (by assumption) (by assumption) | omega))]
            exact hWl _ (List.getElem_mem _)
          exact evs_nil <| c_begins T (by omega) (by (first | with_reducible exact Nat.le_trans (by assumption) (by decide) | omega)) ⟨rfl, _, rfl, rfl⟩
        · rw [filterMap_some]
          refine evs_nil <| ca_all (bs := (List.range (zipApp acc p.lv).length).map fun i => decide ((W.getD i []).take ((zipApp acc p.lv).getD i []).length = (zipApp acc p.lv).getD i [])) (by rw [List.map_map]; exact .dat) ⟨_, rfl, ?_⟩
          have hpre : List.all ((List.range (zipApp acc p.lv).length).map fun i => decide ((W.getD i []).take ((zipApp acc p.lv).getD i []).length = (zipApp acc p.lv).getD i [])) id = prefixes (zipApp acc p.lv) W := by
            rw [List.all_map]; rfl
          rw [hpre]
          cases hpr : prefixes (zipApp acc p.lv) W with
          | true =>
            refine ite_f rfl <| ex_nil <| ex_nil ⟨⟨j + 1, zipApp acc p.lv, by (first | with_reducible exact Nat.le_succ_of_le (by assumption) | omega), by (first | with_reducible exact Mine.zs3 (by assumption) | omega), by rw [show ps.length - (j + 1) = m by (first | with_reducible exact Mine.zs1 (by assumption) | omega)]; push_cast; rfl, hza, hzl, rfl, k1, k2, k3, k4, ?_⟩, fun w0 h => nomatch h⟩
            rw [hpr, if_pos rfl] at h5; exact h5
          | false =>
            refine ite_t rfl <| ex_cons <| sm_return <| ev_none ⟨st, (StLe.refl st).setN _ hc, ?_⟩
            rw [hpr, if_neg (by decide)] at h5
            rw [← h5] at q; exact q
    · rintro ρ' st' ⟨j, acc, hj0, hj, e, ha, hal, rfl, h1, h2, h3, h4, h5⟩
      have := numsD_nil e
      refine ex_cons <| sm_return <| ev_none ⟨st, (StLe.refl st).setN _ hc, ?_⟩
      rw [List.drop_eq_nil_of_le (show ps.length ≤ j by (first | with_reducible exact Mine.zs5 (by assumption) | omega))] at h5
      rw [← h5] at q; exact q
end
end Mine

namespace Mine
section
variable {g : Gr} {k : Nat} {env : Env} {ρ : Vars} {st : Store} {P : Params}

noncomputable def endsD : Option (List Int) → D
  | none => .dat .none
  | some ks => .dic ks
noncomputable def chosen (ps : List Pc) (f b : Nat) (E : Option (List Int)) (wide : Bool) : Option (Nat × Nat) :=
  if wide then match E with
    | none => some (f - ahead ps f, b + behind ps b)
    | some ks => both (narF ps ks (f - ahead ps f)) (narB ps ks (b + behind ps b))
  else match E with
    | none => some (f, b)
    | some ks => both (wholeF ps ks f) (wholeB ps ks b)

theorem c_chosen (T : Tx g P) {ps : List Pc} {E : Option (List Int)} {wide : Bool} {d f b : Nat} (hp : PsOk d ps) (hf : f < ps.length) (hb0 : 0 < b) (hb : b ≤ ps.length) (hi1 : idleAt ps f = false) (hi2 : idleAt ps (b - 1) = false) {Q : D → Store → Prop}
    (q : Q (.dat (opD prN (chosen ps f b E wide))) st) : CaJ g (k + 3) (.ref 87) [.pcs ps, .dat (prN (f, b)), endsD E, .dat (.bool wide)] st Q := by
  refine ca_own T.K ["pieces", "stretch", "ends", "is_wide"] rfl (fun L a => ?_) rfl (hb4 fun w0 w0 w0 w0 => rfl) (fun w0 => rfl) ⟨rfl, rfl, rfl, rfl, rfl, rfl⟩
  refine ex_cons <| sm_if <| tr_val <| ev_name rfl ⟨wide, rfl, ?_⟩
  have hbl : b + behind ps b ≤ ps.length := by have := behind_le ps (ps.length - b) b; unfold behind; omega
  cases wide with
  | true =>
    refine ite_t rfl <| ex_cons <| sm_assign (.inl rfl) <| ev_call (T.nm (v := .ref 66)) T.ok <| evs_cons <| ev_name rfl <| evs_cons <| ev_name rfl <| evs_nil <| c_widest T hp (by (first | with_reducible exact Nat.le_of_lt (by assumption) | omega)) hb ?_
    cases E with
    | none => exact ex_cons <| sm_return <| ev_ifexp <| tr_cmp <| ev_name rfl <| ev_none <| cm_is_none <| ite_t rfl <| ev_name rfl ⟨_, .refl _, q⟩
    | some ks =>
      refine ex_cons <| sm_return <| ev_ifexp <| tr_cmp <| ev_name rfl <| ev_none <| cm_is_none <| ite_f rfl <| ev_call (T.nm (v := .ref 80)) T.ok <| evs_cons <| ev_name rfl <| evs_cons <| ev_name rfl <| evs_cons <| ev_name rfl <| evs_nil <| c_narrowed T hp (f := f - ahead ps f) (b := b + behind ps b) (t := f) (u := b - 1) (by (first | with_reducible exact Nat.sub_le _ _ | omega)) hf hi1 (by omega) hbl hi2 ⟨_, .refl _, q⟩
  | false =>
    refine ite_f rfl <| ex_nil ?_
    cases E with
    | none => exact ex_cons <| sm_return <| ev_ifexp <| tr_cmp <| ev_name rfl <| ev_none <| cm_is_none <| ite_t rfl <| ev_name rfl ⟨_, .refl _, q⟩
    | some ks =>
      refine ex_cons <| sm_return <| ev_ifexp <| tr_cmp <| ev_name rfl <| ev_none <| cm_is_none <| ite_f rfl <| ev_call (T.nm (v := .ref 73)) T.ok <| evs_cons <| ev_name rfl <| evs_cons <| ev_name rfl <| evs_cons <| ev_name rfl <| evs_nil <| c_whole T hp hf hb0 hb ⟨_, .refl _, q⟩

theorem TrJ.mono {e : Expr} {Q Q' : Bool → Store → Prop} (h : TrJ g k env ρ e st Q) (hq : ∀ b st', Q b st' → Q' b st') : TrJ g k env ρ e st Q' := by
  intro A S s L M E
  refine wpAny_mono (h A S s L M E) (fun v s' x => ?_) fun w0 w0 x => x
  obtain ⟨S', st', a, c⟩ := x
  exact ⟨S', st', a, hq _ _ c⟩
inductive kNeg (Q : PE) (d : D) (st1 : Store) : Prop
  | mk (i : Int) (h : d = .dat (.int i)) (q : Q (.dat (.int (-i))) st1)
theorem ev_neg {x : Expr} {pos : Pos} {Q : D → Store → Prop} (h : EvJ g k env ρ x st (kNeg Q)) : EvJ g k env ρ (.UnaryOp .USub x pos) st Q := by
  intro A S s L M E
  refine UnaryOp_ (wpAny_mono (h A S s L M E) (fun v s1 x => ?_) fun w0 w0 x => x)
  obtain ⟨S1, st1, d, X1, r, i, rfl, q⟩ := x
  cases r
  exact neg_int ⟨S1, st1, .dat (.int (-i)), X1.trans (.tok X1.mod _), Rd.int _ _, q⟩
theorem zipApp_idle {acc lv : List (List Int)} (h : idle lv = true) : zipApp acc lv = acc := by
  refine ext_getD (zipApp_len ..) fun j hj => ?_
  rw [zipApp_len] at hj
  rw [zipApp_get hj]
  have : lv.getD j [] = [] := by
    rw [List.getD_eq_getElem?_getD]
    cases e : lv[j]? with
    | none => rfl
    | some l => exact List.isEmpty_iff.mp (List.all_eq_true.mp h l (List.mem_of_getElem? e))
  rw [this, List.append_nil]
theorem stGo_spec {ps : List Pc} {W : List (List Int)} : ∀ (r : List Pc) (n h : Nat) (acc : List (List Int)), ps.drop n = r → acc ≠ W → stGo W r n acc = some h → n < h ∧ h ≤ ps.length ∧ idleAt ps (h - 1) = false := by
  intro xx
  induction xx with
  | nil =>
    intro _ _ _ _ _ e
    cases e
  | cons p r ih =>
    intro n h acc hd hne e
    have hn : n < ps.length := by
      rcases Nat.lt_or_ge n ps.length with x | x
      · exact x
      · rw [List.drop_eq_nil_of_le x] at hd; cases hd
    rw [List.drop_eq_getElem_cons hn] at hd
    injection hd with hd1 hd2
    rw [stGo_cons] at e
    by_cases hz : zipApp acc p.lv = W
    · rw [if_pos hz] at e
      cases e
      refine ⟨by (first | with_reducible exact Nat.lt_succ_self _ | omega), by (first | with_reducible exact Nat.succ_le_of_lt (by assumption) | omega), ?_⟩
      rw [Nat.add_sub_cancel, idleAt_of ((List.getElem?_eq_getElem hn).trans (congrArg some hd1))]
      cases hi : idle p.lv with
      | false => rfl
      | true => exact absurd ((zipApp_idle hi).symm.trans hz) hne
    · rw [if_neg hz] at e
      cases hpr : prefixes (zipApp acc p.lv) W with
      | false => rw [hpr, if_neg (by decide)] at e; cases e
      | true =>
        rw [hpr, if_pos rfl] at e
        have := ih (n + 1) h _ hd2 hz e
        exact ⟨by omega, this.2⟩
theorem zero_ne {W : List (List Int)} (h : idle W = false) : (W.map fun w0 => ([] : List Int)) ≠ W := by
  intro e
  have : idle W = true := by
    rw [← e]; unfold idle; rw [List.all_map]; exact List.all_eq_true.mpr fun w0 w0 => rfl
  rw [h] at this; cases this
theorem stretch_spec {ps : List Pc} {W : List (List Int)} {n h : Nat} (hW : idle W = false) (e : stretch ps n W = some h) : n < h ∧ h ≤ ps.length ∧ idleAt ps (h - 1) = false ∧ idleAt ps n = false := by
  unfold stretch at e
  cases hi : idleAt ps n with
  | true => rw [hi, if_pos rfl] at e; cases e
  | false =>
    rw [hi, if_neg (by decide)] at e
    have := stGo_spec _ _ _ _ rfl (zero_ne hW) e
    exact ⟨this.1, this.2.1, this.2.2, rfl⟩
theorem wholeF_le {ps : List Pc} {ks : List Int} : ∀ {n x : Nat}, wholeF ps ks n = some x → x ≤ n := by
  intro xx
  induction xx with
  | zero =>
    intro x h
    unfold wholeF at h
    split at h <;> cases h; (first | with_reducible exact Nat.zero_le _ | omega)
  | succ n ih =>
    intro x h
    unfold wholeF at h
    split at h
    · cases h; (first | with_reducible exact Nat.le_refl _ | omega)
    · split at h
      · have := ih h; (first | with_reducible exact Nat.le_succ_of_le (by assumption) | omega)
      · cases h
theorem wholeBGo_le {ps : List Pc} {ks : List Int} : ∀ {f n x : Nat}, wholeBGo ps ks f n = some x → n ≤ x ∧ x ≤ n + f := by
  intro xx
  induction xx with
  | zero =>
    intro n x h
    unfold wholeBGo at h
    split at h <;> cases h; omega
  | succ f ih =>
    intro n x h
    unfold wholeBGo at h
    split at h
    · cases h; omega
    · split at h
      · have := ih h; omega
      · cases h
theorem narFGo_le {ps : List Pc} {ks : List Int} : ∀ {f n x : Nat}, narFGo ps ks f n = some x → n ≤ x ∧ x < n + f := by
  intro xx
  induction xx with
  | zero =>
    intro n x h
    cases h
  | succ f ih =>
    intro n x h
    unfold narFGo at h
    split at h
    · cases h; omega
    · split at h
      · have := ih h; omega
      · cases h
theorem narB_le {ps : List Pc} {ks : List Int} : ∀ {n x : Nat}, narB ps ks n = some x → 1 ≤ x ∧ x ≤ n := by
  intro xx
  induction xx with
  | zero =>
    intro x h
    cases h
  | succ n ih =>
    intro x h
    unfold narB at h
    split at h
    · cases h; omega
    · split at h
      · have := ih h; omega
      · cases h
theorem both_some {x y : Option Nat} {p : Nat × Nat} (h : both x y = some p) : x = some p.1 ∧ y = some p.2 := by
  unfold both at h
  cases x with
  | none => cases h
  | some a => cases y with
    | none => cases h
    | some b => cases h; exact ⟨rfl, rfl⟩
theorem chosen_ok {ps : List Pc} {f b : Nat} {E : Option (List Int)} {wide : Bool} (hf : f < ps.length) (hb0 : 0 < b) (hb : b ≤ ps.length) {p : Nat × Nat} (h : chosen ps f b E wide = some p) : p.1 < ps.length ∧ 1 ≤ p.2 ∧ p.2 ≤ ps.length := by
  have hbl : b + behind ps b ≤ ps.length := by have := behind_le ps (ps.length - b) b; unfold behind; omega
  unfold chosen at h
  cases wide with
  | true =>
    cases E with
    | none => cases h; exact ⟨by show f - ahead ps f < _; (first | with_reducible exact Nat.lt_of_le_of_lt (Nat.sub_le _ _) (by assumption) | omega), by show 1 ≤ b + _; (first | with_reducible exact Mine.zw6c (by assumption) | omega), hbl⟩
    | some ks =>
      obtain ⟨h1, h2⟩ := both_some h
      have a1 := narFGo_le h1
      have a2 := narB_le h2
      omega
  | false =>
    cases E with
    | none => cases h; exact ⟨hf, hb0, hb⟩
    | some ks =>
      obtain ⟨h1, h2⟩ := both_some h
      have a1 := wholeF_le h1
      have a2 := wholeBGo_le h2
      omega

noncomputable def placeOf (ps : List Pc) (x : Nat × Nat) : Int × Int := (aAt ps x.1, bAt ps (x.2 - 1))
noncomputable def spot (ps : List Pc) (W : List (List Int)) (E : Option (List Int)) (wide : Bool) (n : Nat) : Option (Nat × Nat) := (stretch ps n W).bind fun h => chosen ps n h E wide
noncomputable def addP (acc : List (Int × Int)) : Option (Int × Int) → List (Int × Int)
  | none => acc
  | some p => if acc.getLast? = some p then acc else acc ++ [p]
noncomputable def saGo (ps : List Pc) (W : List (List Int)) (E : Option (List Int)) (wide : Bool) : Nat → List (Int × Int)
  | 0 => []
  | n + 1 => addP (saGo ps W E wide n) ((spot ps W E wide n).map (placeOf ps))
noncomputable def searchAll (ps : List Pc) (W : List (List Int)) (E : Option (List Int)) (wide : Bool) : List (Int × Int) := if idle W then [] else saGo ps W E wide ps.length
theorem addP_len (acc : List (Int × Int)) (r : Option (Int × Int)) : (addP acc r).length ≤ acc.length + 1 := by
  cases r with
  | none => simp [addP]
  | some p =>
    show (if acc.getLast? = some p then acc else acc ++ [p]).length ≤ _
    split
    · omega
    · rw [List.length_append]; simp
theorem saGo_len (ps : List Pc) (W : List (List Int)) (E : Option (List Int)) (wide : Bool) : ∀ n, (saGo ps W E wide n).length ≤ n
  | 0 => by simp [saGo]
  | n + 1 => by
    have h1 := saGo_len ps W E wide n
    have h2 := addP_len (saGo ps W E wide n) ((spot ps W E wide n).map (placeOf ps))
    unfold saGo; (first | with_reducible exact Mine.zw9 (by assumption) (by assumption) | omega)

inductive ivN9a (ps : List Pc) (st : Store) (c : Addr) (W : List (List Int)) (E : Option (List Int)) (wide : Bool) (rem : List D) (ρ' : Vars) (st' : Store) : Prop
  | mk (j : Nat) (q1 : j ≤ ps.length) (q2 : rem = numsD j (ps.length - j)) (q3 : st' = st.set c (prsL (saGo ps W E wide j))) (q4 : ρ' "pieces" = some (.pcs ps)) (q5 : ρ' "wanted" = some (.dat (lvD W))) (q6 : ρ' "ends" = some (endsD E)) (q7 : ρ' "is_wide" = some (.dat (.bool wide))) (q8 : ρ' "found" = some (.cell c))
inductive ivN9b (st : Store) (c : Addr) (ps : List Pc) (W : List (List Int)) (E : Option (List Int)) (wide : Bool) (j : Nat) (ρ1 : Vars) (st1 : Store) : Prop
  | mk (q1 : st1 = st.set c (prsL (saGo ps W E wide j))) (q2 : ρ1 "pieces" = some (.pcs ps)) (q3 : ρ1 "wanted" = some (.dat (lvD W))) (q4 : ρ1 "ends" = some (endsD E)) (q5 : ρ1 "is_wide" = some (.dat (.bool wide))) (q6 : ρ1 "found" = some (.cell c)) (q7 : ρ1 "stretch" = some (.dat (opD prN (spot ps W E wide j))))
theorem c_all (T : Tx g P) {ps : List Pc} {W : List (List Int)} {E : Option (List Int)} {wide : Bool} {d : Nat} (hp : PsOk d ps) (hW : W.length = d) (hWl : ∀ l ∈ W, l.length ≤ 100) {Q : D → Store → Prop}
    (q : ∀ a, st a = none → Q (.cell a) (st.set a (prsL (searchAll ps W E wide)))) : CaJ g (k + 4) (.ref 92) [.pcs ps, .dat (lvD W), endsD E, .dat (.bool wide)] st Q := by
  have hpl := hp.len
  have hd1 := hp.d1
  refine ca_own T.K ["pieces", "wanted", "ends", "is_wide"] rfl (fun L a => ?_) rfl (hb4 fun w0 w0 w0 w0 => rfl) (fun w0 => rfl) ⟨rfl, rfl, rfl, rfl, rfl, rfl⟩
  refine ex_cons <| sm_assign (.inl rfl) <| ev_listC <| evs_nil ⟨[], rfl, sm rfl, fun c hc => ?_⟩
  refine ex_cons <| sm_if <| tr_cmp <| ev_compP (f := fun l => .dat (iL l)) (F := nonE) (xs := W) <| it_list (ht := .inl ⟨_, _, rfl⟩) <| ev_name rfl ⟨W.map fun l => .dat (iL l), [], .inl ⟨_, rfl, rfl, maps⟩, rfl, by (first | with_reducible exact Nat.le_trans (Nat.le_of_eq (by assumption)) (Nat.le_trans (by assumption) (by decide)) | omega), fun C l hl => ?_, .inl ?_⟩
  · refine as_name (.inl ⟨rfl, rfl⟩) <| ifs_one <| tr_cmp <| ev_name rfl <| ev_list <| evs_nil ⟨[], rfl, sm rfl, cm_ne .dat .dat (sh_iL l).ok (sh_iL []).ok ?_⟩
    rw [iL_nil, eqv_iL]
    by_cases h : l = []
    · subst h; exact ite_f rfl ⟨rfl, rfl⟩
    · exact ite_t (by rw [decide_eq_false h]; rfl) (ev_name rfl ⟨rfl, _, rfl, if_neg h⟩)
  refine ev_list <| evs_nil ⟨[], rfl, sm rfl, cm_eq .dat .dat (by rw [filterMap_nonE]; exact (sh_lvD _).ok) (sh_iL []).ok ?_⟩
  rw [eqv_nil, nonE_empty]
  unfold searchAll at q
  cases hWi : idle W with
  | true =>
    rw [hWi, if_pos rfl] at q
    exact ite_t rfl <| ex_cons <| sm_return <| ev_name rfl ⟨_, .refl _, q c hc⟩
  | false =>
    rw [hWi, if_neg (by decide)] at q
    refine ite_f rfl <| ex_nil ?_
    refine ex_cons <| sm_for <| it_range1 T.range <| ev_call T.len okB <| evs_cons <| ev_name rfl <| evs_nil <| ca_lenP (le_mil (ten_th hpl)) ⟨_, rfl, .nat (ten_th hpl), ?_⟩
    refine ⟨ivN9a ps st c W E wide, ?_, ?_, ?_⟩
    · exact ⟨0, by (first | with_reducible exact Nat.zero_le _ | omega), by simp, rfl, rfl, rfl, rfl, rfl, rfl⟩
    · rintro x rem ρ' st' ⟨j, hj, e, rfl, h1, h2, h3, h4, h5⟩
      obtain ⟨m, e1, rfl, rfl⟩ := numsD_cons e
      refine as_name (Wr.own (.inl rfl)) ?_
      refine ex_cons <| sm_assign (.inl rfl) <| ev_call (T.nm (v := .ref 59)) T.ok <| evs_cons <| ev_name h1 <| evs_cons <| ev_name rfl <| evs_cons <| ev_name h2 <| evs_nil <| c_stretch T hp hW hWl (show j < ps.length by (first | with_reducible exact Mine.zs2 (by assumption) | omega)) ?_
      refine ex_cut (ivN9b st c ps W E wide j)
        (sm_if <| tr_cmp <| ev_name rfl <| ev_none <| cm_isnot_none ?_) ?_
      · cases hs : stretch ps j W with
        | none => exact ite_f rfl <| ex_nil ⟨rfl, h1, h2, h3, h4, h5, by unfold spot; rw [hs]; rfl⟩
        | some h =>
          obtain ⟨s1, s2, s3, s4⟩ := stretch_spec hWi hs
          exact ite_t rfl <| ex_cons <| sm_assign (.inl rfl) <| ev_call (T.nm (v := .ref 87)) T.ok <| evs_cons <| ev_name h1 <| evs_cons <| ev_name rfl <| evs_cons <| ev_name h3 <| evs_cons <| ev_name h4 <| evs_nil <| c_chosen T hp (by (first | with_reducible exact Nat.lt_of_lt_of_le (by assumption) (by assumption) | omega)) (by (first | with_reducible exact Mine.zp9 (by assumption) | omega)) s2 s4 s3 <| ex_nil ⟨rfl, h1, h2, h3, h4, h5, by unfold spot; rw [hs]; rfl⟩
      rintro ρ1 st1 ⟨rfl, k1, k2, k3, k4, k5, k6⟩
      have nxt : ∀ (ρ2 : Vars) (st2 : Store), st2 = st.set c (prsL (addP (saGo ps W E wide j) ((spot ps W E wide j).map (placeOf ps)))) → ρ2 "pieces" = some (.pcs ps) → ρ2 "wanted" = some (.dat (lvD W)) → ρ2 "ends" = some (endsD E) → ρ2 "is_wide" = some (.dat (.bool wide)) → ρ2 "found" = some (.cell c) →
          ivN9a ps st c W E wide (numsD ((j : Int) + 1) m) ρ2 st2 :=
        fun ρ2 st2 a1 a2 a3 a4 a5 a6 => ⟨j + 1, by (first | with_reducible exact Mine.zs3 (by assumption) | omega), by rw [show ps.length - (j + 1) = m by (first | with_reducible exact Mine.zs1 (by assumption) | omega)]; push_cast; rfl, a1, a2, a3, a4, a5, a6⟩
      refine ex_cons <| sm_if <| tr_cmp <| ev_name k6 <| ev_none <| cm_isnot_none ?_
      cases hs : spot ps W E wide j with
      | none =>
        rw [hs] at nxt
        exact ite_f rfl <| ex_nil <| ex_nil ⟨nxt _ _ rfl k1 k2 k3 k4 k5, fun w0 h => nomatch h⟩
      | some z =>
        rw [hs] at nxt k6
        obtain ⟨x, y⟩ := z
        have hxy : x < ps.length ∧ 1 ≤ y ∧ y ≤ ps.length := by
          unfold spot at hs
          cases hst : stretch ps j W with
          | none => rw [hst] at hs; cases hs
          | some h =>
            rw [hst] at hs
            obtain ⟨s1, s2, s3, s4⟩ := stretch_spec hWi hst
            exact chosen_ok (by (first | with_reducible exact Nat.lt_of_lt_of_le (by assumption) (by assumption) | omega)) (by (first | with_reducible exact Mine.zp9 (by assumption) | omega)) s2 hs
        obtain ⟨px, hx⟩ := get_of_lt hxy.1
        obtain ⟨py, hy⟩ := get_of_lt (show y - 1 < ps.length by omega)
        have hpo : placeOf ps (x, y) = (px.a, py.b) := by unfold placeOf; rw [aAt_of hx, bAt_of hy]
        have hlen := saGo_len ps W E wide j
        refine ite_t rfl <| ex_cons <| sm_assign (.inl rfl) <| ev_tuple <| evs_cons <| ev_attr T.cls _ (.inl ⟨rfl, rfl⟩) <| ev_itemP <| ev_name k1 <| ev_itemT <| ev_name k6 <| ev_int ⟨_, _, _, rfl, rfl, by decide, rfl, sm rfl, _, _, x, _, rfl, rfl, rfl, hx, ten_th hpl, px, rfl, ?_⟩
        refine evs_cons <| ev_attr T.cls _ (.inr (.inl ⟨rfl, rfl⟩)) <| ev_itemP <| ev_name k1 <| ev_bin <| ev_itemT <| ev_name k6 <| ev_int ⟨_, _, _, rfl, rfl, by decide, rfl, sm rfl, ev_int <| op_sub_int ⟨_, _, y - 1, _, rfl, rfl, by omega, hy, ten_th hpl, py, rfl, ?_⟩⟩
        refine evs_nil ⟨[.int _, .int _], rfl, sm rfl, ?_⟩
        have nx := nxt
        rw [show (some (x, y)).map (placeOf ps) = some (px.a, py.b) from congrArg some hpo] at nx
        refine ex_cons <| sm_if <| TrJ.mono (Q := fun b st1 => b = !decide ((saGo ps W E wide j).getLast? = some (px.a, py.b)) ∧ st1 = st.set c (prsL (saGo ps W E wide j))) ?_ ?_
        · refine tr_or <| tr_cmp <| ev_name k5 <| ev_list <| evs_nil ⟨[], rfl, sm rfl, cm_eq (.cell (Store.set_same ..)) .dat (sh_prsL _).ok (sh_iL []).ok ?_⟩
          rw [eqv_nil]
          cases hL : (saGo ps W E wide j).getLast? with
          | none =>
            rw [List.getLast?_eq_none_iff.mp hL]
            exact ite_t rfl ⟨rfl, rfl⟩
          | some z =>
            have hLn : saGo ps W E wide j ≠ [] := by intro h; rw [h] at hL; cases hL
            have hLl := List.length_pos_iff.mpr hLn
            refine ite_f (by unfold prsL; rw [List.isEmpty_map]; simpa using hLn) <| tr_or <| tr_cmp <| ev_item <| ev_name k5 <| ev_neg <| ev_int ⟨_, rfl, _, _, _, .inr ⟨_, rfl, Store.set_same ..⟩, rfl, .last (f := prD) hL (by (first | with_reducible exact Nat.le_trans (by assumption) (Nat.le_trans (by assumption) (Nat.le_trans (by assumption) (by decide))) | omega)), ?_⟩
            refine ev_name rfl <| cm_ne .dat .dat (sh_prD _).ok (sh_prD (px.a, py.b)).ok ?_
            rw [show PyData.tuple [.int px.a, .int py.b] = prD (px.a, py.b) from rfl, eqv_prD]
            by_cases hz : z = (px.a, py.b)
            · subst hz
              refine ite_f (by rw [decide_eq_true rfl]; rfl) <| tr_or_nil ⟨?_, rfl⟩
              rw [decide_eq_true rfl]; rfl
            · refine ite_t (by rw [decide_eq_false hz]; rfl) ⟨?_, rfl⟩
              rw [decide_eq_false fun h => hz (Option.some.inj h)]; rfl
        · rintro b st1 ⟨rfl, rfl⟩
          by_cases hlast : (saGo ps W E wide j).getLast? = some (px.a, py.b)
          · refine ite_f (by rw [decide_eq_true hlast]; rfl) <| ex_nil <| ex_nil <| ex_nil ⟨nx _ _ ?_ k1 k2 k3 k4 k5, fun w0 h => nomatch h⟩
            show _ = st.set c (prsL (if _ then _ else _))
            rw [if_pos hlast]
          · refine ite_t (by rw [decide_eq_false hlast]; rfl) <| ex_cons <| sm_append k5 (Store.set_same ..) <| ev_name rfl ⟨_, _, rfl, Store.set_same .., by unfold prsL; rw [List.length_map]; (first | with_reducible exact Nat.le_trans (by assumption) (Nat.le_trans (by assumption) (Nat.le_trans (by assumption) (by decide))) | omega), ?_⟩
            refine ex_nil <| ex_nil <| ex_nil ⟨nx _ _ ?_ k1 k2 k3 k4 k5, fun w0 h => nomatch h⟩
            show _ = st.set c (prsL (if _ then _ else _))
            rw [if_neg hlast, Store.set_set]
            unfold prsL; rw [List.map_append]; rfl
    · rintro ρ' st' ⟨j, hj, e, rfl, h1, h2, h3, h4, h5⟩
      have := numsD_nil e
      have e' : j = ps.length := by (first | with_reducible exact Mine.zs4 (by assumption) (by assumption) | omega)
      subst e'
      exact ex_cons <| sm_return <| ev_name h5 ⟨_, .refl _, q c hc⟩
end
end Mine

namespace Mine

noncomputable def lexLt (p q : Int × Int) : Bool := if p.1 = q.1 then decide (p.2 < q.2) else decide (p.1 < q.1)
noncomputable def runB {α : Type} (n : Nat) (lt : Nat → Nat → Bool) : KasT α → Option α
  | .ret a => some a
  | .ask i j f => if i < n ∧ j < n then runB n lt (f (lt i j)) else none
theorem list_short {α : Type} {l : List α} (h : l.length < 2) : l = [] ∨ ∃ x, l = [x] := by
  cases l with
  | nil => exact .inl rfl
  | cons x r =>
    cases r with
    | nil => exact .inr ⟨x, rfl⟩
    | cons y r => exact absurd h (Nat.not_lt_of_le (Nat.le_add_left 2 r.length))
theorem runB_wp {α : Type} {n : Nat} {lt : Nat → Nat → Bool} {cmp : Nat → Nat → (Bool → Shared → Prop) → Shared → Prop} {s : Shared} (hc : ∀ i j C, i < n → j < n → C (lt i j) s → cmp i j C s) {G : α → Shared → Prop} :
    ∀ (t : KasT α) (a : α), runB n lt t = some a → G a s → t.kasWp cmp G s
  | .ret b, a, h, q => by cases h; exact q
  | .ask i j f, a, h, q => by
    by_cases hb : i < n ∧ j < n
    · have h' : runB n lt (f (lt i j)) = some a := by
        have e : runB n lt (.ask i j f) = if i < n ∧ j < n then runB n lt (f (lt i j)) else none := rfl
        rw [e, if_pos hb] at h; exact h
      exact hc i j _ hb.1 hb.2 (runB_wp hc (f (lt i j)) a h' q)
    · have e : runB n lt (.ask i j f) = if i < n ∧ j < n then runB n lt (f (lt i j)) else none := rfl
      rw [e, if_neg hb] at h; cases h
theorem runB_congr {α : Type} {n : Nat} {lt lt' : Nat → Nat → Bool} (h : ∀ i j, i < n → j < n → lt i j = lt' i j) : ∀ t : KasT α, runB n lt t = runB n lt' t
  | .ret _ => rfl
  | .ask i j f => by
    show (if i < n ∧ j < n then runB n lt (f (lt i j)) else none) = (if i < n ∧ j < n then runB n lt' (f (lt' i j)) else none)
    by_cases hb : i < n ∧ j < n
    · rw [if_pos hb, if_pos hb, h i j hb.1 hb.2]; exact runB_congr h _
    · rw [if_neg hb, if_neg hb]

noncomputable def order (n : Nat) (lt : Nat → Nat → Bool) : Option (List Nat) := if n < 2 then some (List.range n) else (runB n lt (kas_sort n)).map Array.toList

section
variable {prog : Program} {w : World} {A : Around} {E : Value → Shared → Prop} {s : Shared}

theorem ltPair {x y : Addr} {a b c d : Int} {t1 t2 t3 t4 : Tok} {n k : Nat} {Q : Bool → Shared → Prop} (hx : s.heap.get? x = some (To [.int a t1, .int b t2] n)) (hy : s.heap.get? y = some (To [.int c t3, .int d t4] k)) (q : Q (lexLt (a, b) (c, d)) s) :
    wpAny (model prog w) A (keyLt' (tuples' true) (.ref x) (.ref y)) Q E s := by
  refine kat_lt hx rfl hy rfl ?_
  show KatLex prog w A true _ Q [(.int a t1, .int c t3), (.int b t2, .int d t4)] 0 s
  unfold lexLt at q
  dsimp only at q
  refine kat_cons (wpAny_eqBool_int ?_)
  by_cases h1 : a = c
  · rw [if_pos h1] at q
    rw [show (a == c) = true from beq_iff_eq.mpr h1]
    refine kat_yes (kat_cons (wpAny_eqBool_int ?_))
    by_cases h2 : b = d
    · rw [show (b == d) = true from beq_iff_eq.mpr h2]
      refine kat_yes (kat_nil ?_)
      rw [decide_eq_false (by omega)] at q
      exact q
    · rw [show (b == d) = false from beq_eq_false_iff_ne.mpr h2]
      exact kat_no (kat_one _ _ (lt_int (show PySem.W.BoolBack Q (.bool (decide (b < d))) s from q)))
  · rw [if_neg h1] at q
    rw [show (a == c) = false from beq_eq_false_iff_ne.mpr h1]
    exact kat_no (oneLt_int q)

theorem list_sort_raw {a : Addr} {vs : List Value} {n : Nat} {P : PySem.Fin → Shared → Prop} {κ : SortKind} {lt : Nat → Nat → Bool} {q : List Nat} (ho : s.heap.get? a = some (Lo vs n)) (h64 : vs.length < 64)
    (hk : 2 ≤ vs.length → ∀ h' Q, (∀ b o, b ≠ a → s.heap.get? b = some o → h'.get? b = some o) → Q κ { s with heap := h' } → wpAny (model prog w) A (keyKind' vs.toArray) Q (fun w0 w0 => False) { s with heap := h' })
    (hlt : ∀ h' i j Q, (∀ b o, b ≠ a → s.heap.get? b = some o → h'.get? b = some o) → i < vs.length → j < vs.length → Q (lt i j) { s with heap := h' } → wpAny (model prog w) A (keyLt' κ (vs.getD i .none) (vs.getD j .none)) Q (fun w0 w0 => False) { s with heap := h' })
    (hq : order vs.length lt = some q)
    (h : ∀ h' e, h'.get? a = some (Lo (q.map fun i => vs.getD i .none) e) → (∀ b o, b ≠ a → s.heap.get? b = some o → h'.get? b = some o) → P (.done (.ret .none)) { s with heap := h' }) :
    wpAny (model prog w) A (Builtin.«list.sort» ⟨[.ref a], []⟩) P E s := by
  have ha : a < s.heap.objs.size := Heap.lt_size ho
  have ho' : s.heap.get? a = some (seqObj "list" vs.toArray n) := ho
  obtain ⟨e1, ho1⟩ : ∃ e1, (s.heap.update a (Obj.mapSeq fun w0 => (#[] : Array Value))).get? a = some (seqObj "list" #[] e1) := ⟨_, get?_update_seq ho' fun w0 => #[]⟩
  have keep : ∀ b o, b ≠ a → s.heap.get? b = some o → (((s.heap.update a (Obj.mapSeq fun w0 => (#[] : Array Value))).push (seqObj "tuple" vs.toArray 0)).push (seqObj "list" #[] 0)).get? b = some o := fun b o hb e =>
    Heap.get?_push_of_some _ (Heap.get?_push_of_some _ ((Heap.get?_update_other _ _ (Ne.symm hb)).trans e))
  have hoA : (((s.heap.update a (Obj.mapSeq fun w0 => (#[] : Array Value))).push (seqObj "tuple" vs.toArray 0)).push (seqObj "list" #[] 0)).get? a = some (seqObj "list" #[] e1) :=
    Heap.get?_push_of_some _ (Heap.get?_push_of_some _ ho1)
  rw [list_sort_plain]
  refine wpAny_bind (listItems_at ho' rfl ?_)
  refine wpAny_bind (listUpdate_at ho' rfl ?_ (by rw [List.size_toArray, sizeLine_eq]; omega) (Nat.zero_le _))
  refine wpAny_bind (seqEpoch_at ho1 rfl ?_)
  refine wpAny_bind (wpAny_newTuple ?_ (by show vs.length ≤ _; rw [sizeLine_eq]; omega))
  refine wpAny_bind (wpAny_newList ?_ (Nat.zero_le _))
  refine wpAny_holding ?_
  show wpAny (model prog w) A _ P E { s with heap := ((s.heap.update a (Obj.mapSeq fun w0 => (#[] : Array Value))).push (seqObj "tuple" vs.toArray 0)).push (seqObj "list" #[] 0) }
  dsimp only
  by_cases h2 : vs.toArray.size < 2
  · rw [if_pos h2, if_pos h2]
    have h2' : vs.length < 2 := by rw [List.size_toArray] at h2; exact h2
    refine wpAny_bind (wpAny_pure ?_)
    rw [StateT.run_pure]
    refine wpAny_bind (wpAny_pure ?_)
    dsimp only
    have eo : (arrOf (SortSt.mk' general' (vs.toArray.zip vs.toArray) #[] 7 none)).map (·.2) = vs.toArray := by
      have e : ∀ us : List Value, us.length < 2 → (us.toArray.zip us.toArray).map (·.2) = us.toArray := fun us hu => by
        rcases list_short hu with rfl | ⟨v, rfl⟩ <;> simp
      exact e vs h2'
    have eq : q.map (fun i => vs.getD i Value.none) = vs := by
      unfold order at hq
      rw [if_pos h2'] at hq
      cases hq
      rcases list_short h2' with e | ⟨v, e⟩ <;> (rw [e]; rfl)
    rw [eo]
    have hout : vs.toArray.size ≤ 64 := by rw [List.size_toArray]; exact Nat.le_of_lt h64
    refine wpAny_bind (seqEpoch_at hoA rfl (wpAny_bind (listUpdate_at hoA rfl ?_ (Nat.zero_le _) (Nat.le_trans hout (by rw [sizeLine_eq]; omega)))))
    rw [bne_self_eq_false]
    have z := get?_update_seq hoA fun w0 => vs.toArray
    rw [eq] at h
    exact wpAny_pure (h _ _ z fun b o hb e => (Heap.get?_update_other _ _ (Ne.symm hb)).trans (keep b o hb e))
  · rw [if_neg h2, if_neg h2]
    have h2' : 2 ≤ vs.length := by rw [List.size_toArray] at h2; (first | with_reducible exact Nat.le_of_not_lt (by assumption) | omega)
    refine wpAny_bind (wpAny_mono (hk h2' _ (fun κ' s' => κ' = κ ∧ s' = { s with heap := ((s.heap.update a (Obj.mapSeq fun w0 => (#[] : Array Value))).push (seqObj "tuple" vs.toArray 0)).push (seqObj "list" #[] 0) }) keep ⟨rfl, rfl⟩) (fun κ' s0 z => ?_) fun w0 w0 x => x.elim)
    obtain ⟨rfl, rfl⟩ := z
    unfold order at hq
    rw [if_neg (by omega)] at hq
    obtain ⟨p, hp, rfl⟩ := Option.map_eq_some_iff.mp hq
    have tree := runB_wp (cmp := kas_ask prog w A κ' vs) (s := { s with heap := ((s.heap.update a (Obj.mapSeq fun w0 => (#[] : Array Value))).push (seqObj "tuple" vs.toArray 0)).push (seqObj "list" #[] 0) })
      (G := fun p' s' => p' = p ∧ s' = { s with heap := ((s.heap.update a (Obj.mapSeq fun w0 => (#[] : Array Value))).push (seqObj "tuple" vs.toArray 0)).push (seqObj "list" #[] 0) }) (fun i j C hi hj hC => hlt _ i j C keep hi hj hC) (kas_sort vs.length) p hp ⟨rfl, rfl⟩
    refine wpAny_bind (wpAny_mono (kat_run (Q := fun st' s' => ∃ p' : Array Nat, p'.size = vs.length ∧ arrOf st' = p'.map (kas_item (vs.toArray.zip vs.toArray)) ∧ failedOf st' = none ∧ p' = p ∧ s' = { s with heap := ((s.heap.update a (Obj.mapSeq fun w0 => (#[] : Array Value))).push (seqObj "tuple" vs.toArray 0)).push (seqObj "list" #[] 0) })
      rfl h2' h64 (fun p' st' s' a1 a2 a3 a4 => ⟨p', a1, a2, a3, a4⟩) tree) ?_ fun w0 w0 e => e)
    rintro ⟨⟨⟩, st'⟩ s' ⟨p', hpz, har, hf, rfl, rfl⟩
    dsimp only
    have hout := kat_snds rfl har
    rw [hout, hf]
    refine wpAny_bind (seqEpoch_at hoA rfl (wpAny_bind (listUpdate_at hoA rfl ?_ (Nat.zero_le _) (Nat.le_trans (m := 64) ?_ (by rw [sizeLine_eq]; omega)))))
    · rw [bne_self_eq_false]
      have z := get?_update_seq hoA fun w0 => (p'.toList.map fun i => vs.getD i Value.none).toArray
      exact wpAny_pure (h _ _ z fun b o hb e => (Heap.get?_update_other _ _ (Ne.symm hb)).trans (keep b o hb e))
    · rw [List.size_toArray, List.length_map, Array.length_toList, hpz]; exact Nat.le_of_lt h64
end
end Mine

namespace Mine

noncomputable def ltOf (ps : List (Int × Int)) (i j : Nat) : Bool := lexLt (ps.getD i (0, 0)) (ps.getD j (0, 0))
noncomputable def sortP (ps : List (Int × Int)) : List (Int × Int) := match order ps.length (ltOf ps) with
  | some q => q.map fun i => ps.getD i (0, 0)
  | none => ps
noncomputable def SortOk (ps : List (Int × Int)) : Prop := ps.length ≤ 20 ∧ ∃ q, order ps.length (ltOf ps) = some q ∧ ∀ i ∈ q, i < ps.length

noncomputable def Rising (ps : List (Int × Int)) : Prop := ps.Pairwise fun a b => lexLt a b = true

theorem order_congr {n : Nat} {lt lt' : Nat → Nat → Bool} (h : ∀ i j, i < n → j < n → lt i j = lt' i j) : order n lt = order n lt' := by
  unfold order; rw [runB_congr h]

theorem order_inc : ∀ n, n ≤ 10 → order n (fun i j => decide (i < j)) = some (List.range n) := by decide +kernel

theorem lexLt_irrefl (a : Int × Int) : lexLt a a = false := by
  unfold lexLt; rw [if_pos rfl]; exact decide_eq_false (Int.lt_irrefl _)
theorem lexLt_asymm {a b : Int × Int} (h : lexLt a b = true) : lexLt b a = false := by
  unfold lexLt at h ⊢
  split at h
  · rename_i e
    have := of_decide_eq_true h
    rw [if_pos e.symm]; exact decide_eq_false (by omega)
  · rename_i e
    have := of_decide_eq_true h
    rw [if_neg fun x => e x.symm]; exact decide_eq_false (by omega)
theorem lexLt_trans {a b c : Int × Int} (h1 : lexLt a b = true) (h2 : lexLt b c = true) : lexLt a c = true := by
  unfold lexLt at h1 h2 ⊢
  split at h1 <;> split at h2 <;> have h1 := of_decide_eq_true h1 <;> have h2 := of_decide_eq_true h2
  · rw [if_pos (by (first | with_reducible exact Eq.trans (by assumption) (by assumption) | omega))]; exact decide_eq_true (by (first | with_reducible exact Int.lt_trans (by assumption) (by assumption) | omega))
  · rw [if_neg (by omega)]; exact decide_eq_true (by (first | with_reducible exact Mine.zv3 (by assumption) (by assumption) | omega))
  · rw [if_neg (by omega)]; exact decide_eq_true (by (first | with_reducible exact Mine.zv1 (by assumption) (by assumption) | omega))
  · rw [if_neg (by omega)]; exact decide_eq_true (by (first | with_reducible exact Int.lt_trans (by assumption) (by assumption) | omega))
theorem lexLt_total {a b : Int × Int} (h : a ≠ b) (h1 : lexLt a b = false) : lexLt b a = true := by
  obtain ⟨a1, a2⟩ := a; obtain ⟨b1, b2⟩ := b
  unfold lexLt at h1 ⊢
  dsimp only at h1 ⊢
  split at h1
  · rename_i e
    subst e
    have h1 := of_decide_eq_false h1
    rw [if_pos rfl]
    have : a2 ≠ b2 := fun e => h (by rw [e])
    exact decide_eq_true (by omega)
  · rename_i e
    have h1 := of_decide_eq_false h1
    rw [if_neg fun x => e x.symm]
    exact decide_eq_true (by omega)

theorem getD_lt {ps : List (Int × Int)} {i : Nat} (h : i < ps.length) : ps.getD i (0, 0) = ps[i] := by
  rw [List.getD_eq_getElem?_getD, List.getElem?_eq_getElem h]; rfl
theorem map_getD_range (ps : List (Int × Int)) : (List.range ps.length).map (fun i => ps.getD i (0, 0)) = ps := by
  refine List.ext_getElem (by simp) fun i h1 h2 => ?_
  rw [List.getElem_map, List.getElem_range, getD_lt h2]
theorem ltOf_inc {ps : List (Int × Int)} (h : Rising ps) {i j : Nat} (hi : i < ps.length) (hj : j < ps.length) : ltOf ps i j = decide (i < j) := by
  unfold ltOf
  rw [getD_lt hi, getD_lt hj]
  by_cases hij : i < j
  · rw [decide_eq_true hij]
    exact List.pairwise_iff_getElem.mp h i j hi hj hij
  · rw [decide_eq_false hij]
    by_cases e : i = j
    · subst e; exact lexLt_irrefl _
    · exact lexLt_asymm (List.pairwise_iff_getElem.mp h j i hj hi (by omega))
theorem sort_inc {ps : List (Int × Int)} (h : Rising ps) (hl : ps.length ≤ 10) : SortOk ps ∧ sortP ps = ps := by
  have e : order ps.length (ltOf ps) = some (List.range ps.length) := (order_congr fun i j hi hj => ltOf_inc h hi hj).trans (order_inc _ hl)
  refine ⟨⟨by (first | with_reducible exact Nat.le_trans (by assumption) (by decide) | omega), _, e, fun i hi => List.mem_range.mp hi⟩, ?_⟩
  unfold sortP
  rw [e]
  exact map_getD_range ps

noncomputable def allFns (n : Nat) : Nat → List (List Nat)
  | 0 => [[]]
  | k + 1 => (allFns n k).flatMap fun r => (List.range n).map fun x => x :: r
noncomputable def okFor (n : Nat) (r : List Nat) : Bool := match order n (fun i j => decide (r.getD i 0 < r.getD j 0)) with
  | some q => q.all (fun i => decide (i < n)) && decide ((q.map fun i => r.getD i 0).Pairwise (· < ·))
  | none => false
theorem all_ok : ∀ n, n ≤ 5 → (allFns n n).all (fun r => !decide r.Nodup || okFor n r) = true := by decide +kernel
theorem mem_allFns {n : Nat} : ∀ (k : Nat) (r : List Nat), r.length = k → (∀ x ∈ r, x < n) → r ∈ allFns n k
  | 0, r, h, _ => by rw [List.length_eq_zero_iff.mp h]; exact .head _
  | k + 1, [], h, _ => by cases h
  | k + 1, x :: r, h, hx => by
    unfold allFns
    refine List.mem_flatMap.mpr ⟨r, mem_allFns k r (by simpa using h) fun y hy => hx y (.tail _ hy), List.mem_map.mpr ⟨x, List.mem_range.mpr (hx x (.head _)), rfl⟩⟩

noncomputable def rank (ps : List (Int × Int)) (z : Int × Int) : Nat := ps.countP fun y => lexLt y z
theorem rank_lt {ps : List (Int × Int)} {z : Int × Int} (h : z ∈ ps) : rank ps z < ps.length := by
  unfold rank
  rcases Nat.lt_or_ge (ps.countP fun y => lexLt y z) ps.length with h1 | h1
  · exact h1
  · have e : ps.countP (fun y => lexLt y z) = ps.length := Nat.le_antisymm List.countP_le_length h1
    have := List.countP_eq_length.mp e z h
    rw [lexLt_irrefl] at this; cases this
theorem rank_mono {x z : Int × Int} (hl : lexLt x z = true) : ∀ {ps : List (Int × Int)}, rank ps x ≤ rank ps z ∧ (x ∈ ps → rank ps x < rank ps z) := by
  intro xx
  induction xx with
  | nil =>
    exact ⟨Nat.le_refl _, fun h => nomatch h⟩
  | cons y ps ih =>
    have ih := ih
    unfold rank at ih ⊢
    rw [List.countP_cons, List.countP_cons]
    have h1 : (if lexLt y x = true then 1 else 0) ≤ (if lexLt y z = true then 1 else 0) := by
      cases e : lexLt y x with
      | false => simp
      | true => rw [lexLt_trans e hl]; exact Nat.le_refl _
    refine ⟨by omega, fun hm => ?_⟩
    rcases List.mem_cons.mp hm with rfl | hm
    · rw [lexLt_irrefl, hl]
      have := ih.1
      simp; (first | with_reducible exact Nat.lt_succ_of_le (by assumption) | omega)
    · have := ih.2 hm; (first | with_reducible exact Nat.add_lt_add_of_lt_of_le (by assumption) (by assumption) | omega)
theorem rank_iff {ps : List (Int × Int)} {x z : Int × Int} (hx : x ∈ ps) (hz : z ∈ ps) : decide (rank ps x < rank ps z) = lexLt x z := by
  cases e : lexLt x z with
  | true => exact decide_eq_true ((rank_mono e).2 hx)
  | false =>
    refine decide_eq_false fun h => ?_
    by_cases hxz : x = z
    · subst hxz; (first | with_reducible exact absurd (by assumption) (Nat.lt_irrefl _) | omega)
    · have := (rank_mono (lexLt_total hxz e) (ps := ps)).1; omega

theorem sort_small {ps : List (Int × Int)} (hn : ps.Nodup) (hl : ps.length ≤ 5) : SortOk ps ∧ Rising (sortP ps) ∧ ∀ z ∈ sortP ps, z ∈ ps := by
  let r := ps.map (rank ps)
  have hrl : r.length = ps.length := List.length_map ..
  have hrg : ∀ i (h : i < ps.length), r.getD i 0 = rank ps ps[i] := fun i h => by
    rw [List.getD_eq_getElem?_getD, List.getElem?_map, List.getElem?_eq_getElem h]; rfl
  have hm : r ∈ allFns ps.length ps.length := mem_allFns _ _ hrl fun x hx => by
    obtain ⟨z, hz, rfl⟩ := List.mem_map.mp hx; exact rank_lt hz
  have hnd : r.Nodup := by
    refine List.pairwise_map.mpr (hn.imp_of_mem fun {a b} ha hb hab => ?_)
    intro e
    cases h : lexLt a b with
    | true => have := (rank_mono h).2 ha; (first | with_reducible exact Mine.zv7 (by assumption) (by assumption) | omega)
    | false => have := (rank_mono (lexLt_total hab h)).2 hb; omega
  have ok := List.all_eq_true.mp (all_ok ps.length hl) r hm
  rw [decide_eq_true hnd] at ok
  have ok : okFor ps.length r = true := by simpa using ok
  have eo : order ps.length (fun i j => decide (r.getD i 0 < r.getD j 0)) = order ps.length (ltOf ps) := order_congr fun i j hi hj => by
    rw [hrg i hi, hrg j hj]
    unfold ltOf
    rw [getD_lt hi, getD_lt hj]
    exact rank_iff (List.getElem_mem hi) (List.getElem_mem hj)
  unfold okFor at ok
  rw [eo] at ok
  unfold SortOk Rising sortP
  cases hq : order ps.length (ltOf ps) with
  | none => rw [hq] at ok; cases ok
  | some q =>
    rw [hq] at ok
    obtain ⟨k1, k2⟩ := Bool.and_eq_true_iff.mp ok
    have k1 : ∀ i ∈ q, i < ps.length := fun i hi => of_decide_eq_true (List.all_eq_true.mp k1 i hi)
    have k2 := List.pairwise_map.mp (of_decide_eq_true k2)
    refine ⟨⟨by (first | with_reducible exact Nat.le_trans (by assumption) (by decide) | omega), q, rfl, k1⟩, List.pairwise_map.mpr (k2.imp_of_mem fun {i j} hi hj h => ?_), fun z hz => ?_⟩
    · rw [hrg i (k1 i hi), hrg j (k1 j hj)] at h
      rw [getD_lt (k1 i hi), getD_lt (k1 j hj), ← rank_iff (List.getElem_mem (k1 i hi)) (List.getElem_mem (k1 j hj))]
      exact decide_eq_true h
    · obtain ⟨i, hi, rfl⟩ := List.mem_map.mp hz
      rw [getD_lt (k1 i hi)]; exact List.getElem_mem _
end Mine

namespace Mine
section
variable {g : Gr} {k : Nat} {env : Env} {ρ : Vars} {st : Store} {P : Params}

theorem rd_prD {S : Fz} {v : Value} {p : Int × Int} (r : Rd S v (prD p)) : ∃ a t u n, v = .ref a ∧ S a = some (To [.int p.1 t, .int p.2 u] n) := by
  unfold prD at r
  cases r with
  | tuple h r =>
    cases r with
    | cons h1 r =>
      cases h1
      cases r with
      | cons h2 r => cases h2; cases r; exact ⟨_, _, _, _, rfl, h⟩
theorem tups_of {S : Fz} {h : Heap} (hs : ∀ a o, S a = some o → h.get? a = some o) {vs : List Value} {ps : List (Int × Int)} : RdAll S vs (prsL ps) → ∃ fs, KatTups h vs fs ∧ fs.length = ps.length ∧ ∀ v ∈ fs, ∃ i t, v = .int i t := by
  induction ps generalizing vs with
  | nil => intro r; cases r; exact ⟨[], .nil, rfl, fun w0 h => nomatch h⟩
  | cons p ps ih =>
    intro r
    cases r with
    | cons r rs =>
      obtain ⟨fs, h1, h2, h3⟩ := ih rs
      obtain ⟨a, t, u, n, rfl, e⟩ := rd_prD r
      refine ⟨.int p.1 t :: fs, .cons (hs _ _ e) rfl rfl rfl h1, congrArg Nat.succ h2, fun v hv => ?_⟩
      rcases List.mem_cons.mp hv with rfl | hv
      · exact ⟨_, _, rfl⟩
      · exact h3 v hv

theorem sort_new {A : Around} {S : Fz} {s : Shared} {a : Addr} {vs : List Value} {ps : List (Int × Int)} {n : Nat} {P : PySem.Fin → Shared → Prop} {E : Value → Shared → Prop} (hs : ∀ b o, S b = some o → s.heap.get? b = some o ∧ b ≠ a) (r : RdAll S vs (prsL ps))
    (ho : s.heap.get? a = some (Lo vs n)) (hok : SortOk ps)
    (h : ∀ h' e ws, h'.get? a = some (Lo ws e) → RdAll S ws (prsL (sortP ps)) → (∀ b o, b ≠ a → s.heap.get? b = some o → h'.get? b = some o) → P (.done (.ret .none)) { s with heap := h' }) :
    wpAny (model g.prog g.w) A (Builtin.«list.sort» ⟨[.ref a], []⟩) P E s := by
  have hlen : vs.length = ps.length := by rw [r.length]; unfold prsL; rw [List.length_map]
  obtain ⟨q, hq, hqb⟩ := hok.2
  have hget : ∀ i, i < vs.length → Rd S (vs.getD i .none) (prD (ps.getD i (0, 0))) := fun i hi => by
    have e : (prsL ps)[i]? = some (prD (ps.getD i (0, 0))) := by unfold prsL; rw [List.getElem?_map, List.getElem?_eq_getElem (by (first | with_reducible exact Mine.zu4 (by assumption) (by assumption) | omega)), getD_lt (by (first | with_reducible exact Mine.zu4 (by assumption) (by assumption) | omega))]; rfl
    obtain ⟨v, e1, e2⟩ := r.get e
    rw [List.getD_eq_getElem?_getD, e1]; exact e2
  refine list_sort_raw (κ := tuples' true) (lt := ltOf ps) (q := q) ho (by have := hok.1; omega) (fun h2 h' Q hk hQ => ?_) (fun h' i j Q hk hi hj hQ => ?_) (by rw [hlen]; exact hq) (fun h' e g1 g2 => h h' e _ g1 ?_ g2)
  · obtain ⟨fs, f1, f2, f3⟩ := tups_of (h := h') (fun b o e => hk b o (hs b o e).2 (hs b o e).1) r
    refine kat_kind (T := .type "int") f1 (by omega) (fun v hv => ?_) (by decide) hQ
    obtain ⟨i, t, rfl⟩ := f3 v hv
    exact Looks.of_pure rfl
  · have ri := hget i hi
    have rj := hget j hj
    obtain ⟨a1, t1, u1, n1, e1, x1⟩ := rd_prD ri
    obtain ⟨a2, t2, u2, n2, e2, x2⟩ := rd_prD rj
    rw [e1, e2]
    exact ltPair (hk _ _ (hs _ _ x1).2 (hs _ _ x1).1) (hk _ _ (hs _ _ x2).2 (hs _ _ x2).1) hQ
  · unfold sortP
    rw [hq]
    dsimp only
    unfold prsL
    rw [List.map_map]
    have go : ∀ q : List Nat, (∀ i ∈ q, i < ps.length) → RdAll S (q.map fun i => vs.getD i Value.none) (q.map (prD ∘ fun i => ps.getD i (0, 0))) := fun q => by
      induction q with
      | nil => exact fun w0 => .nil
      | cons i q ih => exact fun h => .cons (hget i (by have := h i (.head _); (first | with_reducible exact Mine.zu3 (by assumption) (by assumption) | omega))) (ih fun j hj => h j (.tail _ hj))
    exact go q hqb

theorem ca_sortedP {d : D} {ps : List (Int × Int)} {Q : D → Store → Prop} (l : LstOf st d (prsL ps)) (hok : SortOk ps) (q : Q (.dat (.list (prsL (sortP ps)))) st) : CaJ g k (.builtin "sorted") [d] st Q := by
  intro A S s vs Lv' M r
  match vs, r with
  | [v], ⟨r, _⟩ =>
    obtain ⟨l, ws, n, rfl, h1, h2⟩ := l.at M r
    have hlen : ws.length = ps.length := by rw [h2.length]; unfold prsL; rw [List.length_map]
    have hz := hok.1
    refine Calls.call_function_entry kind_sorted plain_sorted entry_sorted (args_sorted1 _) ?_
    unfold Builtin.«sorted»
    refine wpAny_bind (m := checkCount "sorted" 1 1 _) (wpAny_pure ?_)
    refine wpAny_bind (collect_list (lo_isList h1) ?_ (by rw [sizeLine_eq]; (first | with_reducible exact Nat.le_trans (Nat.le_of_eq (by assumption)) (Nat.le_trans (by assumption) (by decide)) | omega)))
    refine wpAny_bind (wpAny_newList ?_ (by rw [sizeLine_eq]; (first | with_reducible exact Nat.le_trans (Nat.le_of_eq (by assumption)) (Nat.le_trans (by assumption) (by decide)) | omega)))
    let h2' := (s.heap.push (seqObj "list" #[] 0)).update s.heap.objs.size (Obj.mapSeq (· ++ ws.toArray))
    have hsz : h2'.objs.size = s.heap.objs.size + 1 := by
      show ((s.heap.push (seqObj "list" #[] 0)).update s.heap.objs.size _).objs.size = _
      rw [Heap.size_update, size_push']
    have hoL : (h2'.push (Lo ws 0)).get? (s.heap.objs.size + 1) = some (Lo ws 0) := by
      rw [← hsz]; exact Heap.get?_push_size _ rfl
    have keep : ∀ b o, s.heap.get? b = some o → (h2'.push (Lo ws 0)).get? b = some o := fun b o e => by
      have hlt : b < s.heap.objs.size := Heap.lt_size e
      refine Heap.get?_push_of_some _ ?_
      exact (Heap.get?_update_other _ _ (Nat.ne_of_gt hlt)).trans (Heap.get?_push_of_some _ e)
    show wpAny _ _ _ _ _ { s with heap := h2'.push (Lo ws 0) }
    rw [hsz]
    have fresh1 : s.heap.get? (s.heap.objs.size + 1) = none := Heap.get?_none_of_le (Nat.le_succ _)
    refine wpAny_bind (wpAny_holding (wpAny_call_entry slot_list_sort ⟨_, hoL, rfl⟩ entry_list_sort ?_ (args_list_sort _)))
    refine sort_new (S := S) (s := { s with heap := h2'.push (Lo ws 0) }) (fun b o e => ⟨keep b o (M.sub b o e), fun hb => ?_⟩) h2 hoL hok fun h' e us g1 g2 g3 => ⟨_, rfl, wpAny_pure ⟨_, rfl, ?_⟩⟩
    · subst hb; have := M.sub _ o e; rw [fresh1] at this; cases this
    · have hkeep : ∀ b o, s.heap.get? b = some o → h'.get? b = some o := fun b o e => g3 b o (by rintro rfl; rw [fresh1] at e; cases e) (keep b o e)
      have X0 : Ext g NoW S st s S st { s with heap := h' } := ext_all (tk := s.toks) M hkeep
      obtain ⟨o1, o2⟩ := fresh_off M fresh1
      obtain ⟨S'', X1, k1, k2, _⟩ := ext_take X0 fresh1 o1 o2 g1
      exact ⟨S'', st, .dat (.list (prsL (sortP ps))), X1, Rd.list k1 (g2.mono k2), q⟩
end
end Mine

namespace Mine
section
variable {g : Gr} {k : Nat} {env : Env} {ρ : Vars} {st : Store} {P : Params}

theorem numsD_eq : ∀ (n : Nat) (a : Int), numsD a n = (List.range n).map fun i => .dat (.int (a + (i : Nat)))
  | 0, _ => rfl
  | n + 1, a => by
    rw [List.range_succ_eq_map, List.map_cons, List.map_map]
    show D.dat (.int a) :: numsD (a + 1) n = _
    rw [numsD_eq n (a + 1)]
    congr 1
    · show _ = D.dat (.int (a + (0 : Nat))); simp
    · refine congrFun (congrArg List.map (funext fun i => ?_)) _
      show D.dat (.int (a + 1 + (i : Nat))) = D.dat (.int (a + ((i + 1 : Nat) : Int)))
      congr 2; push_cast; (first | with_reducible exact Mine.zy8 | omega)
theorem numsD_zero (n : Nat) : numsD 0 n = (List.range n).map fun i => .dat (.int (i : Nat)) := by
  rw [numsD_eq]; simp

noncomputable def inE (E : Option (List Int)) (x : Int) : Bool := match E with
  | none => true
  | some ks => ks.contains x
noncomputable def keepE (E : Option (List Int)) (x : Int) : Option PyData := if inE E x then some (.int x) else none
theorem keepE_eq (E : Option (List Int)) : ∀ l : List Int, l.filterMap (keepE E) = (l.filter (inE E)).map .int
  | [] => rfl
  | x :: l => by
    have ih := keepE_eq E l
    cases h : inE E x with
    | true => rw [List.filterMap_cons_some (f := keepE E) (b := .int x) (by unfold keepE; rw [h]; rfl), ih, List.filter_cons_of_pos h]; rfl
    | false => rw [List.filterMap_cons_none (f := keepE E) (by unfold keepE; rw [h]; rfl), ih, List.filter_cons_of_neg (by rw [h]; decide)]

theorem c_first_fit (T : Tx g P) {l : List Int} {E : Option (List Int)} {Q : D → Store → Prop} (hl : l.length ≤ 1000) (q : Q (.dat (opD .int (l.find? (inE E)))) st) : CaJ g (k + 1) (.ref 154) [.dat (iL l), endsD E] st Q := by
  refine ca_own T.K ["places", "ends"] rfl (fun L a => ?_) rfl (hb2 fun w0 w0 => rfl) (fun w0 => rfl) ⟨rfl, rfl, rfl, rfl, rfl, rfl⟩
  refine ex_cons <| sm_compP (.inl rfl) (f := fun x => .dat (.int x)) (F := keepE E) (xs := l) <| it_list (ht := .inl ⟨_, _, rfl⟩) <| ev_name rfl ⟨l.map fun x => .dat (.int x), [], .inl ⟨l.map .int, rfl, rfl, maps⟩, rfl, le_mil hl, fun C x w0 => ?_, .inl ?_⟩
  · refine as_name (.inl ⟨rfl, rfl⟩) <| ifs_one ?_
    cases E with
    | none => exact tr_or <| tr_cmp <| ev_name rfl <| ev_none <| cm_is_none <| ite_t rfl <| ite_t rfl <| ev_name rfl ⟨rfl, _, rfl, rfl⟩
    | some ks =>
      refine tr_or <| tr_cmp <| ev_name rfl <| ev_none <| cm_is_none <| ite_f rfl <| tr_or <| tr_cmp <| ev_name rfl <| ev_name rfl <| cm_in_dic ?_
      cases h : ks.contains x with
      | true => exact ite_t rfl <| ite_t rfl <| ev_name rfl ⟨rfl, _, rfl, by unfold keepE inE; exact if_pos h⟩
      | false => exact ite_f rfl <| tr_or_nil <| ite_f rfl ⟨rfl, by unfold keepE inE; exact if_neg (fun e => by have e' : ks.contains x = true := e; rw [h] at e'; cases e')⟩
  rw [keepE_eq]
  refine ex_cons <| sm_return <| ev_ifexp <| tr_cmp <| ev_name rfl <| ev_list <| evs_nil ⟨[], rfl, sm rfl, cm_ne .dat .dat (sh_iL (l.filter (inE E))).ok (sh_iL []).ok ?_⟩
  rw [eqv_nil, List.isEmpty_map]
  rw [← List.head?_filter] at q
  have hfl : (l.filter (inE E)).length ≤ l.length := List.length_filter_le ..
  cases hf : l.filter (inE E) with
  | nil =>
    rw [hf] at q
    exact ite_f rfl <| ev_none ⟨_, .refl _, q⟩
  | cons x r =>
    rw [hf] at q hfl
    exact ite_t rfl <| ev_item <| ev_name rfl <| ev_int ⟨_, _, _, .dat, rfl, .map (f := .int) (n := 0) (x := x) rfl rfl (Nat.le_trans hfl hl), _, .refl _, q⟩

theorem sel_len {wide : Bool} {l : List Int} : (if wide = true then l.reverse else l).length = l.length := by cases wide <;> simp

noncomputable def begins (ps : List Pc) (low : Nat) : List Int := (List.range (ahead ps low + 1)).map fun i => aAt ps (low - i)
noncomputable def behinds (ps : List Pc) (high : Nat) : List Int := (List.range (behind ps high + 1)).map fun i => bAt ps (high - 1 + i)
noncomputable def fit (E : Option (List Int)) (wide : Bool) (l : List Int) : Option Int := (if wide then l.reverse else l).find? (inE E)
noncomputable def pairAt (ps : List Pc) (E : Option (List Int)) (wide : Bool) (low high : Nat) : Option (Int × Int) := (fit E wide (begins ps low)).bind fun x => (fit E wide (behinds ps high)).map fun y => (x, y)
noncomputable def isM (ps : List Pc) (W : List (List Int)) (d low high : Nat) : Bool := (!idleAt ps low && !idleAt ps (high - 1)) && decide (together ((ps.drop low).take (high - low)) d = W)
noncomputable def dueAdd (acc : List (Int × Int)) : Option (Int × Int) → List (Int × Int)
  | none => acc
  | some p => if p ∈ acc then acc else acc ++ [p]
noncomputable def dueIn (ps : List Pc) (W : List (List Int)) (E : Option (List Int)) (wide : Bool) (d low : Nat) (acc : List (Int × Int)) : Nat → List (Int × Int)
  | 0 => acc
  | n + 1 => if isM ps W d low (low + 1 + n) then dueAdd (dueIn ps W E wide d low acc n) (pairAt ps E wide low (low + 1 + n)) else dueIn ps W E wide d low acc n
noncomputable def dueGo (ps : List Pc) (W : List (List Int)) (E : Option (List Int)) (wide : Bool) (d : Nat) : Nat → List (Int × Int)
  | 0 => []
  | n + 1 => dueIn ps W E wide d n (dueGo ps W E wide d n) (ps.length - n)
noncomputable def due (ps : List Pc) (W : List (List Int)) (E : Option (List Int)) (wide : Bool) (d : Nat) : List (Int × Int) := dueGo ps W E wide d ps.length
theorem dueAdd_len (acc : List (Int × Int)) (r : Option (Int × Int)) : (dueAdd acc r).length ≤ acc.length + 1 := by
  cases r with
  | none => show acc.length ≤ _; omega
  | some p =>
    show (if p ∈ acc then acc else acc ++ [p]).length ≤ _
    split
    · omega
    · rw [List.length_append]; simp
theorem dueIn_len (ps : List Pc) (W : List (List Int)) (E : Option (List Int)) (wide : Bool) (d low : Nat) (acc : List (Int × Int)) : ∀ n, (dueIn ps W E wide d low acc n).length ≤ acc.length + n
  | 0 => by show acc.length ≤ _; omega
  | n + 1 => by
    have ih := dueIn_len ps W E wide d low acc n
    unfold dueIn
    split
    · have := dueAdd_len (dueIn ps W E wide d low acc n) (pairAt ps E wide low (low + 1 + n)); (first | with_reducible exact Mine.zw9b (by assumption) (by assumption) | omega)
    · (first | with_reducible exact Mine.zw9c (by assumption) | omega)
theorem dueGo_len (ps : List Pc) (W : List (List Int)) (E : Option (List Int)) (wide : Bool) (d : Nat) : ∀ n, (dueGo ps W E wide d n).length ≤ n * ps.length
  | 0 => by simp [dueGo]
  | n + 1 => by
    have ih := dueGo_len ps W E wide d n
    have := dueIn_len ps W E wide d n (dueGo ps W E wide d n) (ps.length - n)
    unfold dueGo
    rw [Nat.succ_mul]; (first | with_reducible exact Mine.zx1 (by assumption) (by assumption) | omega)

theorem PsOk.sub {d : Nat} {ps qs : List Pc} (h : PsOk d ps) (hq : ∀ p ∈ qs, p ∈ ps) (hl : qs.length ≤ ps.length) : PsOk d qs :=
  ⟨Nat.le_trans hl h.len, fun p hp => h.lv p (hq p hp), fun p hp => h.sm p (hq p hp), h.d0, h.d1⟩
theorem PsOk.cut {d : Nat} {ps : List Pc} (h : PsOk d ps) (lo n : Nat) : PsOk d ((ps.drop lo).take n) :=
  h.sub (fun p hp => List.mem_of_mem_drop (List.mem_of_mem_take hp)) (by rw [List.length_take, List.length_drop]; (first | with_reducible exact Mine.zm3 | omega))

theorem c_togetherF (T : Tx g P) {ps : List Pc} {d : Nat} (hp : PsOk d ps) {Q : D → Store → Prop} (q : Q (.dat (lvD (together ps d))) st) : CaJ g (k + 1) (.ref 135) [.dat (.list (ps.map pcD)), .dat (.int d)] st Q :=
  ca_freeze (c_together T hp fun a ha => ⟨a, _, rfl, Store.set_same .., by rw [Store.del_set _ _ ha]; exact q⟩)

theorem clip_eq {n i : Nat} (h : i ≤ n) : clipAt n (i : Int) = i := by rw [clip_nat, Nat.min_eq_left h]
theorem ev_neg1 {kd : Nat} {p1 p2 : Pos} {Q : D → Store → Prop} (q : Q (.dat (.int (-1))) st) : EvJ g k env ρ (.UnaryOp .USub (.Constant (.int 1) kd p1) p2) st Q := ev_neg <| ev_int ⟨1, rfl, q⟩

theorem any_prsL (l : List (Int × Int)) (p : Int × Int) : ((prsL l).any fun y => PyData.eqv y (prD p)) = decide (p ∈ l) := by
  unfold prsL
  rw [List.any_map]
  apply Bool.eq_iff_iff.mpr
  rw [List.any_eq_true, decide_eq_true_iff]
  constructor
  · rintro ⟨x, hx, e⟩
    have e' : PyData.eqv (prD x) (prD p) = true := e
    rw [eqv_prD] at e'
    exact of_decide_eq_true e' ▸ hx
  · intro h
    exact ⟨p, h, by show PyData.eqv (prD p) (prD p) = true; rw [eqv_prD]; exact decide_eq_true rfl⟩

inductive ivN10a (ps : List Pc) (st : Store) (c : Addr) (W : List (List Int)) (E : Option (List Int)) (wide : Bool) (d : Nat) (rem : List D) (ρ' : Vars) (st' : Store) : Prop
  | mk (j : Nat) (q1 : j ≤ ps.length) (q2 : rem = numsD j (ps.length - j)) (q3 : st' = st.set c (prsL (dueGo ps W E wide d j))) (q4 : ρ' "some" = some (.dat (.list (ps.map pcD)))) (q5 : ρ' "wanted" = some (.dat (lvD W))) (q6 : ρ' "ends" = some (endsD E)) (q7 : ρ' "is_wide" = some (.dat (.bool wide))) (q8 : ρ' "depth" = some (.dat (.int d))) (q9 : ρ' "found" = some (.cell c))
inductive ivN10b (ps : List Pc) (j : Nat) (st : Store) (c : Addr) (W : List (List Int)) (E : Option (List Int)) (wide : Bool) (d : Nat) (rem2 : List D) (ρ2 : Vars) (st2 : Store) : Prop
  | mk (i : Nat) (q1 : i ≤ ps.length - j) (q2 : rem2 = numsD ((j + 1 + i : Nat) : Int) (ps.length - j - i)) (q3 : st2 = st.set c (prsL (dueIn ps W E wide d j (dueGo ps W E wide d j) i))) (q4 : ρ2 "some" = some (.dat (.list (ps.map pcD)))) (q5 : ρ2 "wanted" = some (.dat (lvD W))) (q6 : ρ2 "ends" = some (endsD E)) (q7 : ρ2 "is_wide" = some (.dat (.bool wide))) (q8 : ρ2 "depth" = some (.dat (.int d))) (q9 : ρ2 "found" = some (.cell c)) (q10 : ρ2 "low" = some (.dat (.int j)))
inductive ivN10c (st : Store) (c : Addr) (ps : List Pc) (W : List (List Int)) (E : Option (List Int)) (wide : Bool) (d : Nat) (j : Nat) (i : Nat) (p : Pc) (p2 : Pc) (ρ1 : Vars) (st1 : Store) : Prop
  | mk (q1 : st1 = st.set c (prsL (dueIn ps W E wide d j (dueGo ps W E wide d j) i))) (q2 : ρ1 "some" = some (.dat (.list (ps.map pcD)))) (q3 : ρ1 "wanted" = some (.dat (lvD W))) (q4 : ρ1 "ends" = some (endsD E)) (q5 : ρ1 "is_wide" = some (.dat (.bool wide))) (q6 : ρ1 "depth" = some (.dat (.int d))) (q7 : ρ1 "found" = some (.cell c)) (q8 : ρ1 "low" = some (.dat (.int j))) (q9 : ρ1 "high" = some (.dat (.int ((j + 1 + i : Nat) : Int)))) (q10 : ρ1 "is_least" = some (.dat (.bool (!idle p.lv && !idle p2.lv))))
theorem c_due (T : Tx g P) {ps : List Pc} {W : List (List Int)} {E : Option (List Int)} {wide : Bool} {d : Nat} (hp : PsOk d ps) (hok : SortOk (due ps W E wide d)) {Q : D → Store → Prop}
    (q : Q (.dat (.list (prsL (sortP (due ps W E wide d))))) st) : CaJ g (k + 3) (.ref 159) [.dat (.list (ps.map pcD)), .dat (lvD W), endsD E, .dat (.bool wide), .dat (.int d)] st Q := by
  have hpl := hp.len
  have hd1 := hp.d1
  refine ca_own T.K ["some", "wanted", "ends", "is_wide", "depth"] rfl (fun L a => ?_) rfl (hb5 fun w0 w0 w0 w0 w0 => rfl) (fun w0 => rfl) ⟨rfl, rfl, rfl, rfl, rfl, rfl⟩
  refine ex_cons <| sm_assign (.inl rfl) <| ev_listC <| evs_nil ⟨[], rfl, sm rfl, fun c hc => ?_⟩
  refine ex_cons <| sm_for <| it_range1 T.range <| ev_call T.len okB <| evs_cons <| ev_name rfl <| evs_nil <| ca_len .dat (len_map (ten_th hpl)) ⟨_, rfl, by rw [List.length_map]; exact .nat (ten_th hpl), ?_⟩
  rw [List.length_map, Int.toNat_natCast]
  refine ⟨ivN10a ps st c W E wide d, ?_, ?_, ?_⟩
  · exact ⟨0, by (first | with_reducible exact Nat.zero_le _ | omega), by simp, rfl, rfl, rfl, rfl, rfl, rfl, rfl⟩
  · rintro x rem ρ' st' ⟨j, hj, e, rfl, h1, h2, h3, h4, h5, h6⟩
    obtain ⟨m, e1, rfl, rfl⟩ := numsD_cons e
    refine as_name (Wr.own (.inr ⟨rfl, _, rfl⟩)) ?_
    obtain ⟨p, he⟩ := get_of_lt (show j < ps.length by (first | with_reducible exact Mine.zs2 (by assumption) | omega))
    have hlv := hp.lv p (List.mem_of_getElem? he)
    refine ex_cons <| sm_for <| it_range2 T.range <| ev_bin <| ev_name rfl <| ev_int <| op_add_int <| ev_bin <| ev_call T.len okB <| evs_cons <| ev_name h1 <| evs_nil <| ca_len .dat (len_map (ten_th hpl)) <| ev_int <| op_add_int ⟨_, _, rfl, rfl, ⟨by (first | with_reducible exact Mine.zi2 | omega), by (first | with_reducible exact Mine.zi11 (by assumption) (by assumption) (by decide) | omega)⟩, by rw [List.length_map]; exact ⟨by (first | with_reducible exact Mine.zi2 | omega), by (first | with_reducible exact Mine.zi5 (by assumption) (by decide) | omega)⟩, ?_⟩
    rw [List.length_map, show ((ps.length : Int) + 1 - ((j : Int) + 1)).toNat = ps.length - j by (first | with_reducible exact Mine.zs8 (by assumption) | omega)]
    refine ⟨ivN10b ps j st c W E wide d, ?_, ?_, ?_⟩
    · exact ⟨0, by (first | with_reducible exact Nat.zero_le _ | omega), by simp, rfl, h1, h2, h3, h4, h5, h6, rfl⟩
    · rintro y rem2 ρ2 st2 ⟨i, hi, e2, rfl, k1, k2, k3, k4, k5, k6, k7⟩
      obtain ⟨m2, e3, rfl, rfl⟩ := numsD_cons e2
      refine as_name (Wr.own (.inr ⟨rfl, _, rfl⟩)) ?_
      obtain ⟨p2, he2⟩ := get_of_lt (show j + i < ps.length by (first | with_reducible exact Mine.zs6b (by assumption) | omega))
      have hlv2 := hp.lv p2 (List.mem_of_getElem? he2)
      refine ex_cut (ivN10c st c ps W E wide d j i p p2)
        (sm_assign (.inl rfl) <| ev_and <| ev_not <| ev_call (T.nm (v := .ref 128)) T.ok <| evs_cons <| ev_item <| ev_name k1 <| ev_name k7 ⟨_, _, _, .dat, rfl, .map (n := j) rfl he (ten_th hpl), evs_nil <| c_law_idle T (by (first | with_reducible exact Nat.le_trans (Nat.le_of_eq (by assumption)) (Nat.le_trans (by assumption) (by decide)) | omega)) ⟨_, rfl, _, rfl, ?_⟩⟩) ?_
      · cases hi1 : idle p.lv with
        | true => exact ite_f rfl ⟨rfl, k1, k2, k3, k4, k5, k6, k7, rfl, by rw [hi1]; rfl⟩
        | false =>
          exact ite_t rfl <| ev_and1 <| ev_not <| ev_call (T.nm (v := .ref 128)) T.ok <| evs_cons <| ev_item <| ev_name k1 <| ev_bin <| ev_name rfl <| ev_int <| op_sub_int ⟨_, _, _, .dat, rfl, .map (n := j + i) (by push_cast; (first | with_reducible exact Mine.zy7 | omega)) he2 (ten_th hpl), evs_nil <| c_law_idle T (by (first | with_reducible exact Nat.le_trans (Nat.le_of_eq (by assumption)) (Nat.le_trans (by assumption) (by decide)) | omega)) ⟨_, rfl, rfl, k1, k2, k3, k4, k5, k6, k7, rfl, by rw [hi1]; rfl⟩⟩
      rintro ρ1 st1 ⟨rfl, g1, g2, g3, g4, g5, g6, g7, g8, g9⟩
      have hisM : isM ps W d j (j + 1 + i) = ((!idle p.lv && !idle p2.lv) && decide (together ((ps.drop j).take (j + 1 + i - j)) d = W)) := by
        unfold isM
        rw [idleAt_of he, idleAt_of (show ps[j + 1 + i - 1]? = some p2 by rw [show j + 1 + i - 1 = j + i by (first | with_reducible exact Mine.zp17 | omega)]; exact he2)]
      have nxt : ∀ (ρ2 : Vars) (st2 : Store), st2 = st.set c (prsL (dueIn ps W E wide d j (dueGo ps W E wide d j) (i + 1))) → ρ2 "some" = some (.dat (.list (ps.map pcD))) → ρ2 "wanted" = some (.dat (lvD W)) → ρ2 "ends" = some (endsD E) → ρ2 "is_wide" = some (.dat (.bool wide)) → ρ2 "depth" = some (.dat (.int d)) → ρ2 "found" = some (.cell c) → ρ2 "low" = some (.dat (.int j)) →
          ivN10b ps j st c W E wide d (numsD (((j + 1 + i : Nat) : Int) + 1) m2) ρ2 st2 :=
        fun ρ2 st2 a1 a2 a3 a4 a5 a6 a7 a8 => ⟨i + 1, by (first | with_reducible exact Mine.zs3 (by assumption) | omega), by rw [show ps.length - j - (i + 1) = m2 by (first | with_reducible exact Mine.zs1 (by assumption) | omega)]; push_cast; rfl, a1, a2, a3, a4, a5, a6, a7, a8⟩
      have hdu : dueIn ps W E wide d j (dueGo ps W E wide d j) (i + 1) = if isM ps W d j (j + 1 + i) then dueAdd (dueIn ps W E wide d j (dueGo ps W E wide d j) i) (pairAt ps E wide j (j + 1 + i)) else dueIn ps W E wide d j (dueGo ps W E wide d j) i := rfl
      rw [hdu] at nxt
      refine ex_cons <| sm_if <| TrJ.mono (Q := fun b st1 => b = isM ps W d j (j + 1 + i) ∧ st1 = st.set c (prsL (dueIn ps W E wide d j (dueGo ps W E wide d j) i))) ?_ ?_
      · refine tr_and <| tr_val <| ev_name g9 ⟨_, rfl, ?_⟩
        rw [hisM]
        cases hb : (!idle p.lv && !idle p2.lv) with
        | false => exact ite_f rfl ⟨rfl, rfl⟩
        | true =>
          refine ite_t rfl <| tr_and <| tr_cmp <| ev_call (T.nm (v := .ref 135)) T.ok <| evs_cons <| ev_slice <| ev_name g1 <| pt_some <| ev_name g7 ⟨_, rfl, pt_some <| ev_name g8 ⟨_, rfl, ps.map pcD, .dat, len_map (ten_th hpl), ?_⟩⟩
          rw [List.length_map]
          show EvsJ _ _ _ _ _ _ fun ds st2 => _
          simp only [Option.elim]
          rw [clip_eq (show j ≤ ps.length by (first | with_reducible assumption | omega)), clip_eq (show j + 1 + i ≤ ps.length by (first | with_reducible exact Mine.zs6 (by assumption) | omega)), ← List.map_drop, ← List.map_take]
          refine evs_cons <| ev_name g5 <| evs_nil <| c_togetherF T (hp.cut _ _) <| ev_name g2 <| cm_eq .dat .dat (sh_lvD _).ok (sh_lvD _).ok ?_
          rw [eqv_lvD]
          by_cases hz : together ((ps.drop j).take (j + 1 + i - j)) d = W
          · exact ite_t (decide_eq_true hz) <| tr_and_nil ⟨by rw [decide_eq_true hz]; rfl, rfl⟩
          · exact ite_f (decide_eq_false hz) ⟨by rw [decide_eq_false hz]; rfl, rfl⟩
      · rintro b st1 ⟨rfl, rfl⟩
        cases hm : isM ps W d j (j + 1 + i) with
        | false =>
          rw [hm] at nxt
          exact ite_f rfl <| ex_nil <| ex_nil ⟨nxt _ _ rfl g1 g2 g3 g4 g5 g6 g7, fun w0 h => nomatch h⟩
        | true =>
          rw [hm, if_pos rfl] at nxt
          refine ite_t rfl ?_
          have hal := ahead_le ps j
          have hbl : behind ps (j + 1 + i) ≤ ps.length - (j + 1 + i) := behind_le ps (ps.length - (j + 1 + i)) (j + 1 + i)
          refine ex_cons <| sm_compP (.inl rfl) (f := fun i => .dat (.int (i : Nat))) (F := fun i => some (.int (aAt ps (j - i)))) (xs := List.range (ahead ps j + 1)) <| it_range1 T.range <| ev_bin <| ev_call (T.nm (v := .ref 142)) T.ok <| evs_cons <| ev_name g1 <| evs_cons <| ev_name g7 <| evs_nil <| c_idle_ahead T hp hj <| ev_int <| op_add_int ⟨_, rfl, ⟨by (first | with_reducible exact Mine.zi2 | omega), by (first | with_reducible exact Mine.zy10 (by assumption) (by assumption) (by assumption) (by decide) | omega)⟩, ?_, by rw [List.length_range]; (first | with_reducible exact Mine.zr10 (by assumption) (by assumption) (by assumption) (by decide) | omega), fun C x hx => ?_, .inl ?_⟩
          · rw [show ((ahead ps j : Int) + 1).toNat = ahead ps j + 1 by (first | with_reducible exact Mine.zi1 | omega), numsD_zero]
          · have hx := List.mem_range.mp hx
            obtain ⟨px, hpx⟩ := get_of_lt (show j - x < ps.length by (first | with_reducible exact Mine.zr7 (by assumption) | omega))
            refine as_name (.inl ⟨rfl, rfl⟩) <| ifs_nil <| ite_t rfl <| ev_itemT <| ev_item <| ev_name g1 <| ev_bin <| ev_name g7 <| ev_name rfl <| op_sub_int ⟨_, _, _, .dat, rfl, .map (n := j - x) (by (first | with_reducible exact Mine.zr11 (by assumption) (by assumption) | omega)) hpx (ten_th hpl), ev_int ⟨_, _, _, rfl, rfl, by decide, rfl, sm rfl, rfl, _, rfl, ?_⟩⟩
            show some (PyData.int (aAt ps (j - x))) = _; rw [aAt_of hpx]
          rw [filterMap_some]
          refine ex_cons <| sm_compP (.inl rfl) (f := fun i => .dat (.int (i : Nat))) (F := fun x => some (.int (bAt ps (j + 1 + i - 1 + x)))) (xs := List.range (behind ps (j + 1 + i) + 1)) <| it_range1 T.range <| ev_bin <| ev_call (T.nm (v := .ref 149)) T.ok <| evs_cons <| ev_name g1 <| evs_cons <| ev_name g8 <| evs_nil <| c_idle_behind T hp (by (first | with_reducible exact Mine.zs6 (by assumption) | omega)) <| ev_int <| op_add_int ⟨_, rfl, ⟨by (first | with_reducible exact Mine.zi2 | omega), by (first | with_reducible exact Mine.zy9 (by assumption) (by assumption) (by decide) | omega)⟩, ?_, by rw [List.length_range]; (first | with_reducible exact Mine.zr9 (by assumption) (by assumption) (by decide) | omega), fun C x hx => ?_, .inl ?_⟩
          · rw [show ((behind ps (j + 1 + i) : Int) + 1).toNat = behind ps (j + 1 + i) + 1 by (first | with_reducible exact Mine.zi1 | omega), numsD_zero]
          · have hx := List.mem_range.mp hx
            obtain ⟨px, hpx⟩ := get_of_lt (show j + 1 + i - 1 + x < ps.length by (first | with_reducible exact Mine.zr8 (by assumption) (by assumption) (by assumption) | omega))
            refine as_name (.inl ⟨rfl, rfl⟩) <| ifs_nil <| ite_t rfl <| ev_itemT <| ev_item <| ev_name g1 <| ev_bin <| ev_bin <| ev_name g8 <| ev_int <| op_sub_int <| ev_name rfl <| op_add_int ⟨_, _, _, .dat, rfl, .map (n := j + 1 + i - 1 + x) (by omega) hpx (ten_th hpl), ev_int ⟨_, _, _, rfl, rfl, by decide, rfl, sm rfl, rfl, _, rfl, ?_⟩⟩
            show some (PyData.int (bAt ps (j + 1 + i - 1 + x))) = _; rw [bAt_of hpx]
          rw [filterMap_some]
          have eb : (PyData.list ((List.range (ahead ps j + 1)).map fun i => PyData.int (aAt ps (j - i)))) = iL (begins ps j) := by unfold iL begins; rw [List.map_map]; rfl
          have ee : (PyData.list ((List.range (behind ps (j + 1 + i) + 1)).map fun x => PyData.int (bAt ps (j + 1 + i - 1 + x)))) = iL (behinds ps (j + 1 + i)) := by unfold iL behinds; rw [List.map_map]; rfl
          rw [eb, ee]
          have lb : (begins ps j).length ≤ 1000 := by unfold begins; rw [List.length_map, List.length_range]; (first | with_reducible exact Mine.zr10 (by assumption) (by assumption) (by assumption) (by decide) | omega)
          have le : (behinds ps (j + 1 + i)).length ≤ 1000 := by unfold behinds; rw [List.length_map, List.length_range]; (first | with_reducible exact Mine.zr9 (by assumption) (by assumption) (by decide) | omega)
          have selB : ∀ (ρ3 : Vars) (l : List Int), l.length ≤ 1000 → (fit E wide l) = (if wide then l.reverse else l).find? (inE E) := fun w0 w0 w0 => rfl
          refine ex_cons <| sm_assign (.inl rfl) <| ev_tuple <| evs_cons <| ev_call (T.nm (v := .ref 154)) T.ok <| evs_cons <| EvJ.mono (Q := fun d0 st1 => d0 = .dat (iL (if wide then (begins ps j).reverse else begins ps j)) ∧ st1 = st.set c (prsL (dueIn ps W E wide d j (dueGo ps W E wide d j) i))) (ev_ifexp <| tr_val <| ev_name g4 ⟨_, rfl, ?_⟩) ?_
          · cases wide with
            | true => exact ite_t rfl <| ev_rev <| ev_name rfl <| pt_some <| ev_neg1 ⟨_, rfl, (begins ps j).map .int, rfl, .dat, len_map (by (first | with_reducible assumption | omega)), by rw [← List.map_reverse]; rfl, rfl⟩
            | false => exact ite_f rfl <| ev_name rfl ⟨rfl, rfl⟩
          rintro d0 st1 ⟨rfl, rfl⟩
          refine evs_cons <| ev_name g3 <| evs_nil <| c_first_fit T (by rw [sel_len]; assumption) ?_
          refine evs_cons <| ev_call (T.nm (v := .ref 154)) T.ok <| evs_cons <| EvJ.mono (Q := fun d0 st1 => d0 = .dat (iL (if wide then (behinds ps (j + 1 + i)).reverse else behinds ps (j + 1 + i))) ∧ st1 = st.set c (prsL (dueIn ps W E wide d j (dueGo ps W E wide d j) i))) (ev_ifexp <| tr_val <| ev_name g4 ⟨_, rfl, ?_⟩) ?_
          · cases wide with
            | true => exact ite_t rfl <| ev_rev <| ev_name rfl <| pt_some <| ev_neg1 ⟨_, rfl, (behinds ps (j + 1 + i)).map .int, rfl, .dat, len_map (by (first | with_reducible assumption | omega)), by rw [← List.map_reverse]; rfl, rfl⟩
            | false => exact ite_f rfl <| ev_name rfl ⟨rfl, rfl⟩
          rintro d0 st1 ⟨rfl, rfl⟩
          refine evs_cons <| ev_name g3 <| evs_nil <| c_first_fit T (by rw [sel_len]; assumption) ?_
          refine evs_nil ⟨[opD .int (fit E wide (begins ps j)), opD .int (fit E wide (behinds ps (j + 1 + i)))], rfl, by simp, ?_⟩
          have hlenA : (dueIn ps W E wide d j (dueGo ps W E wide d j) i).length ≤ 1000 := by
            have h1 := dueIn_len ps W E wide d j (dueGo ps W E wide d j) i
            have h2 := dueGo_len ps W E wide d j
            have h3 : j * ps.length ≤ 10 * 10 := Nat.mul_le_mul (by (first | with_reducible exact Nat.le_trans (by assumption) (Nat.le_trans (by assumption) (by decide)) | omega)) hpl
            (first | with_reducible exact Mine.zr6 (by assumption) (by assumption) (by assumption) (by assumption) (by assumption) | omega)
          refine ex_cons <| sm_if <| tr_and <| tr_cmp <| ev_none <| ev_name rfl <| cm_notin_tuple .dat .dat Sh.none.ok (sh_opP _ _).ok ?_
          unfold pairAt at nxt
          cases hx : fit E wide (begins ps j) with
          | none =>
            rw [hx] at nxt
            exact ite_f rfl <| ite_f rfl <| ex_nil <| ex_nil <| ex_nil ⟨nxt _ _ rfl g1 g2 g3 g4 g5 g6 g7, fun w0 h => nomatch h⟩
          | some x =>
            rw [hx] at nxt
            cases hy : fit E wide (behinds ps (j + 1 + i)) with
            | none =>
              rw [hy] at nxt
              exact ite_f rfl <| ite_f rfl <| ex_nil <| ex_nil <| ex_nil ⟨nxt _ _ rfl g1 g2 g3 g4 g5 g6 g7, fun w0 h => nomatch h⟩
            | some y =>
              rw [hy] at nxt
              refine ite_t rfl <| tr_and <| tr_cmp <| ev_name rfl <| ev_name g6 <| cm_notin_list (p := prD (x, y)) .dat (.cell (Store.set_same ..)) (sh_prD _).ok (sh_prsL _).ok ?_
              rw [any_prsL]
              by_cases hmem : (x, y) ∈ dueIn ps W E wide d j (dueGo ps W E wide d j) i
              · refine ite_f (by rw [decide_eq_true hmem]; rfl) <| ite_f rfl <| ex_nil <| ex_nil <| ex_nil ⟨nxt _ _ ?_ g1 g2 g3 g4 g5 g6 g7, fun w0 h => nomatch h⟩
                show _ = st.set c (prsL (if _ then _ else _))
                rw [if_pos hmem]
              · refine ite_t (by rw [decide_eq_false hmem]; rfl) <| tr_and_nil <| ite_t rfl <| ex_cons <| sm_append g6 (Store.set_same ..) <| ev_name rfl ⟨_, _, rfl, Store.set_same .., len_map hlenA, ?_⟩
                refine ex_nil <| ex_nil <| ex_nil ⟨nxt _ _ ?_ g1 g2 g3 g4 g5 g6 g7, fun w0 h => nomatch h⟩
                show _ = st.set c (prsL (if _ then _ else _))
                rw [if_neg hmem, Store.set_set]
                unfold prsL; rw [List.map_append]; rfl
    · rintro ρ2 st2 ⟨i, hi, e2, rfl, k1, k2, k3, k4, k5, k6, k7⟩
      have := numsD_nil e2
      have e' : i = ps.length - j := by (first | with_reducible exact Mine.zs4 (by assumption) (by assumption) | omega)
      subst e'
      exact ex_nil ⟨⟨j + 1, by (first | with_reducible exact Mine.zs3 (by assumption) | omega), by rw [show ps.length - (j + 1) = m by (first | with_reducible exact Mine.zs1 (by assumption) | omega)]; push_cast; rfl, rfl, k1, k2, k3, k4, k5, k6⟩, fun w0 h => nomatch h⟩
  · rintro ρ' st' ⟨j, hj, e, rfl, h1, h2, h3, h4, h5, h6⟩
    have := numsD_nil e
    have e' : j = ps.length := by (first | with_reducible exact Mine.zs4 (by assumption) (by assumption) | omega)
    subst e'
    exact ex_cons <| sm_return <| ev_call T.sorted okB <| evs_cons <| ev_name h6 <| evs_nil <| ca_sortedP (ps := due ps W E wide d) (.inr ⟨c, rfl, Store.set_same ..⟩) hok ⟨st, (StLe.refl st).setN _ hc, q⟩
end
end Mine

namespace Mine
section
variable {g : Gr} {k : Nat} {env : Env} {ρ : Vars} {st : Store} {P : Params}

noncomputable def ap : List (Int × Int) → Int → List (Int × Int)
  | [], _ => []
  | p :: l, r => if r ≤ p.1 then p :: ap l p.2 else ap l r
noncomputable def apB : List (Int × Int) → Option Int → List (Int × Int)
  | [], _ => []
  | p :: l, none => p :: apB l (some p.1)
  | p :: l, some r => if p.2 ≤ r then p :: apB l (some p.1) else apB l (some r)
noncomputable def hits (p o : Int × Int) : Bool := decide (p.1 < o.2) && decide (o.1 < p.2)
noncomputable def lawAp : List (Int × Int) → List (Int × Int) → List (Int × Int)
  | [], acc => acc
  | p :: l, acc => if acc.all (fun o => !hits p o) then lawAp l (acc ++ [p]) else lawAp l acc
theorem ap_cons {p : Int × Int} {l : List (Int × Int)} {r : Int} : ap (p :: l) r = if r ≤ p.1 then p :: ap l p.2 else ap l r := rfl
theorem apB_cons {p : Int × Int} {l : List (Int × Int)} {r : Int} : apB (p :: l) (some r) = if p.2 ≤ r then p :: apB l (some p.1) else apB l (some r) := rfl
theorem lawAp_cons {p : Int × Int} {l acc : List (Int × Int)} : lawAp (p :: l) acc = if acc.all (fun o => !hits p o) then lawAp l (acc ++ [p]) else lawAp l acc := rfl
theorem ap_len : ∀ (l : List (Int × Int)) (r : Int), (ap l r).length ≤ l.length
  | [], _ => by simp [ap]
  | p :: l, r => by
    unfold ap
    have h1 := ap_len l p.2
    have h2 := ap_len l r
    split
    · simp only [List.length_cons]; (first | with_reducible exact Nat.succ_le_succ (by assumption) | omega)
    · simp only [List.length_cons]; (first | with_reducible exact Nat.le_succ_of_le (by assumption) | omega)

inductive ivN11a (l : List (Int × Int)) (st : Store) (c : Addr) (rem : List D) (ρ' : Vars) (st' : Store) : Prop
  | mk (rest acc : List (Int × Int)) (r : Int) (q1 : rem = rest.map (fun p => .dat (prD p))) (q2 : acc.length + rest.length ≤ l.length) (q3 : acc ++ ap rest r = ap l 0) (q4 : st' = st.set c (prsL acc)) (q5 : ρ' "apart" = some (.cell c)) (q6 : ρ' "reached" = some (.dat (.int r)))
theorem c_ap (T : Tx g P) {l : List (Int × Int)} {Q : D → Store → Prop} (hl : l.length ≤ 1000) (q : Q (.dat (.list (prsL (ap l 0)))) st) : CaJ g (k + 1) (.ref 99) [.dat (.list (prsL l))] st Q := by
  refine ca_freeze ?_
  refine ca_own T.K ["found"] rfl (fun L a => ?_) rfl (hb1 fun w0 => rfl) (fun w0 => rfl) ⟨rfl, rfl, rfl, rfl, rfl, rfl⟩
  refine ex_cons <| sm_swap2 (.inl rfl) (.inl rfl) <| evs_cons <| ev_listC <| evs_nil ⟨[], rfl, sm rfl, fun c hc => ?_⟩
  refine evs_cons <| ev_int <| evs_nil ⟨_, _, rfl, ?_⟩
  refine ex_cons <| sm_for <| it_list (ht := .inr ⟨_, _, _, rfl⟩) <| ev_name rfl ⟨l.map fun p => .dat (prD p), [], .inl ⟨_, rfl, rfl, maps⟩, ?_⟩
  refine ⟨ivN11a l st c, ?_, ?_, ?_⟩
  · exact ⟨l, [], 0, rfl, by simp, rfl, rfl, rfl, rfl⟩
  · rintro x rem ρ' st' ⟨rest, acc, r, e, hln, h1, rfl, h2, h3⟩
    cases rest with
    | nil => cases e
    | cons p rest =>
      injection e with e1 e2
      subst e1 e2
      rw [List.length_cons] at hln
      refine as_tuple <| ass_cons (as_name (Wr.own (.inl rfl)) <| ass_cons (as_name (Wr.own (.inl rfl)) <| ass_nil ?_))
      refine ex_cons <| sm_if <| tr_cmp <| ev_name rfl <| ev_name h3 <| cm_ge ?_
      rw [ap_cons] at h1
      by_cases hr : r ≤ p.1
      · rw [if_pos hr] at h1
        refine ite_t (decide_eq_true hr) <| ex_cons <| sm_append h2 (Store.set_same ..) <| ev_tuple <| evs_cons <| ev_name rfl <| evs_cons <| ev_name rfl <| evs_nil ⟨[.int _, .int _], rfl, sm rfl, _, _, rfl, Store.set_same .., by unfold prsL; rw [List.length_map]; (first | with_reducible exact Mine.za7 (by assumption) (by assumption) (by decide) | omega), ?_⟩
        refine ex_cons <| sm_assign (.inl rfl) <| ev_name rfl <| ex_nil <| ex_nil ⟨⟨rest, acc ++ [p], p.2, rfl, by simp; (first | with_reducible exact Mine.za1 (by assumption) | omega), by rw [List.append_assoc]; exact h1, ?_, h2, rfl⟩, fun w0 h => nomatch h⟩
        rw [Store.set_set]
        unfold prsL; rw [List.map_append]; rfl
      · rw [if_neg hr] at h1
        exact ite_f (decide_eq_false hr) <| ex_nil <| ex_nil ⟨⟨rest, acc, r, rfl, by (first | with_reducible exact Mine.za2 (by assumption) | omega), h1, rfl, h2, h3⟩, fun w0 h => nomatch h⟩
  · rintro ρ' st' ⟨rest, acc, r, e, hln, h1, rfl, h2, h3⟩
    cases rest with
    | cons p rest => cases e
    | nil =>
      have e' : acc = ap l 0 := by simpa [ap] using h1
      subst e'
      exact ex_cons <| sm_return <| ev_name h2 ⟨_, .refl _, c, _, rfl, Store.set_same .., by rw [Store.del_set _ _ hc]; exact q⟩

inductive ivN11b (l : List (Int × Int)) (st : Store) (c : Addr) (rem : List D) (ρ' : Vars) (st' : Store) : Prop
  | mk (rest acc : List (Int × Int)) (r : Option Int) (q1 : rem = rest.map (fun p => .dat (prD p))) (q2 : acc.length + rest.length ≤ l.length) (q3 : acc ++ apB rest r = apB l.reverse none) (q4 : st' = st.set c (prsL acc)) (q5 : ρ' "apart" = some (.cell c)) (q6 : ρ' "reached" = some (.dat (opD .int r)))
theorem c_apB (T : Tx g P) {l : List (Int × Int)} {Q : D → Store → Prop} (hl : l.length ≤ 1000) (q : Q (.dat (.list (prsL (apB l.reverse none)))) st) : CaJ g (k + 1) (.ref 106) [.dat (.list (prsL l))] st Q := by
  refine ca_freeze ?_
  refine ca_own T.K ["found"] rfl (fun L a => ?_) rfl (hb1 fun w0 => rfl) (fun w0 => rfl) ⟨rfl, rfl, rfl, rfl, rfl, rfl⟩
  refine ex_cons <| sm_swap2 (.inl rfl) (.inl rfl) <| evs_cons <| ev_listC <| evs_nil ⟨[], rfl, sm rfl, fun c hc => ?_⟩
  refine evs_cons <| ev_none <| evs_nil ⟨_, _, rfl, ?_⟩
  refine ex_cons <| sm_for <| it_list (ht := .inr ⟨_, _, _, rfl⟩) <| ev_rev <| ev_name rfl <| pt_some <| ev_neg1 ⟨_, rfl, prsL l, rfl, .dat, by unfold prsL; rw [List.length_map]; (first | with_reducible exact Nat.le_trans (by assumption) (by decide) | omega), l.reverse.map fun p => .dat (prD p), [], .inl ⟨_, rfl, rfl, by unfold prsL; rw [← List.map_reverse]; exact maps⟩, ?_⟩
  refine ⟨ivN11b l st c, ?_, ?_, ?_⟩
  · exact ⟨l.reverse, [], none, rfl, by simp, rfl, rfl, rfl, rfl⟩
  · rintro x rem ρ' st' ⟨rest, acc, r, e, hln, h1, rfl, h2, h3⟩
    cases rest with
    | nil => cases e
    | cons p rest =>
      injection e with e1 e2
      subst e1 e2
      rw [List.length_cons] at hln
      refine as_tuple <| ass_cons (as_name (Wr.own (.inl rfl)) <| ass_cons (as_name (Wr.own (.inl rfl)) <| ass_nil ?_))
      refine ex_cons <| sm_if <| TrJ.mono (Q := fun b st1 => (b = true ∧ acc ++ (p :: apB rest (some p.1)) = apB l.reverse none ∨ b = false ∧ acc ++ apB rest r = apB l.reverse none) ∧ st1 = st.set c (prsL acc)) ?_ ?_
      · refine tr_or <| tr_cmp <| ev_name h3 <| ev_none <| cm_is_none ?_
        cases r with
        | none => exact ite_t rfl ⟨.inl ⟨rfl, h1⟩, rfl⟩
        | some r =>
          refine ite_f rfl <| tr_or <| tr_cmp <| ev_name rfl <| ev_name h3 <| cm_le ?_
          rw [apB_cons] at h1
          by_cases hr : p.2 ≤ r
          · rw [if_pos hr] at h1
            exact ite_t (decide_eq_true hr) ⟨.inl ⟨rfl, h1⟩, rfl⟩
          · rw [if_neg hr] at h1
            exact ite_f (decide_eq_false hr) <| tr_or_nil ⟨.inr ⟨rfl, h1⟩, rfl⟩
      · rintro b st1 ⟨hb, rfl⟩
        rcases hb with ⟨rfl, h1⟩ | ⟨rfl, h1⟩
        · refine ite_t rfl <| ex_cons <| sm_append h2 (Store.set_same ..) <| ev_tuple <| evs_cons <| ev_name rfl <| evs_cons <| ev_name rfl <| evs_nil ⟨[.int _, .int _], rfl, sm rfl, _, _, rfl, Store.set_same .., by unfold prsL; rw [List.length_map]; (first | with_reducible exact Mine.za7 (by assumption) (by assumption) (by decide) | omega), ?_⟩
          refine ex_cons <| sm_assign (.inl rfl) <| ev_name rfl <| ex_nil <| ex_nil ⟨⟨rest, acc ++ [p], some p.1, rfl, by simp; (first | with_reducible exact Mine.za1 (by assumption) | omega), by rw [List.append_assoc]; exact h1, ?_, h2, rfl⟩, fun w0 h => nomatch h⟩
          rw [Store.set_set]
          unfold prsL; rw [List.map_append]; rfl
        · exact ite_f rfl <| ex_nil <| ex_nil ⟨⟨rest, acc, r, rfl, by (first | with_reducible exact Mine.za2 (by assumption) | omega), h1, rfl, h2, h3⟩, fun w0 h => nomatch h⟩
  · rintro ρ' st' ⟨rest, acc, r, e, hln, h1, rfl, h2, h3⟩
    cases rest with
    | cons p rest => cases e
    | nil =>
      have e' : acc = apB l.reverse none := by
        have : apB [] r = [] := by cases r <;> rfl
        rw [this, List.append_nil] at h1; exact h1
      subst e'
      exact ex_cons <| sm_return <| ev_name h2 ⟨_, .refl _, c, _, rfl, Store.set_same .., by rw [Store.del_set _ _ hc]; exact q⟩

noncomputable def hitD (p o : Int × Int) : Option PyData := if hits p o then some (prD o) else none
theorem hitD_empty (p : Int × Int) : ∀ acc : List (Int × Int), (acc.filterMap (hitD p)).isEmpty = acc.all fun o => !hits p o
  | [] => rfl
  | o :: acc => by
    have ih := hitD_empty p acc
    cases h : hits p o with
    | true => rw [List.filterMap_cons_some (f := hitD p) (b := prD o) (by unfold hitD; rw [h]; rfl), List.all_cons, h]; rfl
    | false => rw [List.filterMap_cons_none (f := hitD p) (by unfold hitD; rw [h]; rfl), ih, List.all_cons, h]; rfl
theorem hitD_shape (p : Int × Int) (acc : List (Int × Int)) : Sh 2 (.list (acc.filterMap (hitD p))) := Sh.list fun x hx => by
  obtain ⟨o, _, h⟩ := List.mem_filterMap.mp hx
  unfold hitD at h
  split at h <;> cases h
  exact sh_prD o

inductive ivN11c (m : List (Int × Int)) (st : Store) (c : Addr) (rem : List D) (ρ' : Vars) (st' : Store) : Prop
  | mk (rest acc : List (Int × Int)) (q1 : rem = rest.map (fun p => .dat (prD p))) (q2 : acc.length + rest.length ≤ m.length) (q3 : lawAp rest acc = lawAp m []) (q4 : st' = st.set c (prsL acc)) (q5 : ρ' "found" = some (.cell c))
theorem c_lawAp (T : Tx g P) {l : List (Int × Int)} {back : Bool} {Q : D → Store → Prop} (hl : l.length ≤ 20) (hok : SortOk (lawAp (if back then l.reverse else l) []))
    (q : Q (.dat (.list (prsL (sortP (lawAp (if back then l.reverse else l) []))))) st) : CaJ g (k + 1) (.ref 164) [.dat (.list (prsL l)), .dat (.bool back)] st Q := by
  refine ca_own T.K ["some", "is_back"] rfl (fun L a => ?_) rfl (hb2 fun w0 w0 => rfl) (fun w0 => rfl) ⟨rfl, rfl, rfl, rfl, rfl, rfl⟩
  refine ex_cons <| sm_assign (.inl rfl) <| ev_listC <| evs_nil ⟨[], rfl, sm rfl, fun c hc => ?_⟩
  refine ex_cons <| sm_for <| it_list (ht := .inl ⟨_, _, rfl⟩) <| EvJ.mono (Q := fun d st1 => d = .dat (.list (prsL (if back then l.reverse else l))) ∧ st1 = st.set c []) (ev_ifexp <| tr_val <| ev_name rfl ⟨_, rfl, ?_⟩) ?_
  · cases back with
    | true => exact ite_t rfl <| ev_rev <| ev_name rfl <| pt_some <| ev_neg1 ⟨_, rfl, prsL l, rfl, .dat, by unfold prsL; rw [List.length_map]; (first | with_reducible exact Nat.le_trans (by assumption) (by decide) | omega), by unfold prsL; rw [← List.map_reverse]; rfl, rfl⟩
    | false => exact ite_f rfl <| ev_name rfl ⟨rfl, rfl⟩
  rintro d st1 ⟨rfl, rfl⟩
  have hlen : (if back = true then l.reverse else l).length ≤ 20 := by cases back <;> simp <;> omega
  generalize (if back = true then l.reverse else l) = m at *
  refine ⟨m.map fun p => .dat (prD p), [], .inl ⟨_, rfl, rfl, maps⟩, ?_⟩
  refine ⟨ivN11c m st c, ?_, ?_, ?_⟩
  · exact ⟨m, [], rfl, by simp, rfl, rfl, rfl⟩
  · rintro x rem ρ' st' ⟨rest, acc, e, hln, h1, rfl, h2⟩
    cases rest with
    | nil => cases e
    | cons p rest =>
      injection e with e1 e2
      subst e1 e2
      rw [List.length_cons] at hln
      rw [lawAp_cons] at h1
      refine as_name (Wr.own (.inr ⟨rfl, _, rfl⟩)) ?_
      refine ex_cons <| sm_if <| tr_cmp <| ev_compP (f := fun o => .dat (prD o)) (F := hitD p) (xs := acc) <| it_list (ht := .inl ⟨_, _, rfl⟩) <| ev_name h2 ⟨acc.map fun p => .dat (prD p), [c], .inr (.inl ⟨c, prsL acc, rfl, Store.set_same .., rfl, maps⟩), rfl, by (first | with_reducible exact Mine.za7 (by assumption) (by assumption) (by decide) | omega), fun C o w0 => ?_, .inl ?_⟩
      · refine as_name (.inl ⟨rfl, rfl⟩) <| ifs_one <| tr_and <| tr_cmp <| ev_itemT <| ev_name rfl <| ev_int ⟨_, _, _, rfl, rfl, by decide, rfl, sm rfl, ev_itemT <| ev_name rfl <| ev_int ⟨_, _, _, rfl, rfl, by decide, rfl, sm rfl, cm_lt ?_⟩⟩
        by_cases h3 : p.1 < o.2
        · refine ite_t (decide_eq_true h3) <| tr_and <| tr_cmp <| ev_itemT <| ev_name rfl <| ev_int ⟨_, _, _, rfl, rfl, by decide, rfl, sm rfl, ev_itemT <| ev_name rfl <| ev_int ⟨_, _, _, rfl, rfl, by decide, rfl, sm rfl, cm_lt ?_⟩⟩
          by_cases h4 : o.1 < p.2
          · exact ite_t (decide_eq_true h4) <| tr_and_nil <| ite_t rfl <| ev_name rfl ⟨rfl, _, rfl, by unfold hitD hits; rw [decide_eq_true h3, decide_eq_true h4]; rfl⟩
          · exact ite_f (decide_eq_false h4) <| ite_f rfl ⟨rfl, by unfold hitD hits; rw [decide_eq_false h4, Bool.and_false]; rfl⟩
        · exact ite_f (decide_eq_false h3) <| ite_f rfl ⟨rfl, by unfold hitD hits; rw [decide_eq_false h3]; rfl⟩
      refine ev_list <| evs_nil ⟨[], rfl, sm rfl, cm_eq .dat .dat (hitD_shape _ _).ok (sh_iL []).ok ?_⟩
      rw [eqv_nil, hitD_empty]
      cases hb : acc.all fun o => !hits p o with
      | true =>
        rw [hb, if_pos rfl] at h1
        refine ite_t rfl <| ex_cons <| sm_append h2 (Store.set_same ..) <| ev_name rfl ⟨_, _, rfl, Store.set_same .., by unfold prsL; rw [List.length_map]; (first | with_reducible exact Mine.za7 (by assumption) (by assumption) (by decide) | omega), ?_⟩
        refine ex_nil <| ex_nil ⟨⟨rest, acc ++ [p], rfl, by simp; (first | with_reducible exact Mine.za1 (by assumption) | omega), h1, ?_, h2⟩, fun w0 h => nomatch h⟩
        rw [Store.set_set]
        unfold prsL; rw [List.map_append]; rfl
      | false =>
        rw [hb, if_neg (by decide)] at h1
        exact ite_f rfl <| ex_nil <| ex_nil ⟨⟨rest, acc, rfl, by (first | with_reducible exact Mine.za2 (by assumption) | omega), h1, rfl, h2⟩, fun w0 h => nomatch h⟩
  · rintro ρ' st' ⟨rest, acc, e, hln, h1, rfl, h2⟩
    cases rest with
    | cons p rest => cases e
    | nil =>
      have e' : acc = lawAp m [] := h1
      subst e'
      exact ex_cons <| sm_return <| ev_call T.sorted okB <| evs_cons <| ev_name h2 <| evs_nil <| ca_sortedP (.inr ⟨c, rfl, Store.set_same ..⟩) hok ⟨st, (StLe.refl st).setN _ hc, q⟩
end
end Mine

namespace Mine
section
variable {g : Gr} {k : Nat} {env : Env} {ρ : Vars} {st : Store} {P : Params}

theorem compLoop_anyD {A : Around} {R : Result → Shared → Prop} {s : Shared} {kx vx target iter : Expr} {ifs : List Expr} {scope : Scope} {pos : Pos} {it : Value} {D : Addr} {cenv : Env} (I : Nat → Shared → Prop)
    (turn : ∀ n s, I n s → wpAny (model g.prog g.w) A (pyNext it) (fun r s₁ => match r with
      | none => R (.ok .next) s₁
      | some v => wpAny (model g.prog g.w) A (letOwnedTupleGo target it v) (fun w0 s₁' => wpAny (model g.prog g.w) A (assign target cenv v) (fun w0 s₂ =>
          wpAny (model g.prog g.w) A (forIn ifs true fun c r => if r = true then do let ok ← isTrue c cenv (eval c cenv); pure (ForInStep.yield ok) else pure (ForInStep.yield r)) (fun ok s₃ =>
            if ok = true then wpAny (model g.prog g.w) A (eval kx cenv) (fun kv s₄ => wpAny (model g.prog g.w) A (eval vx cenv) (fun vv s₅ => wpAny (model g.prog g.w) A (dictSet D kv vv) (fun w0 s₆ => ∃ m, m < n ∧ I m s₆) E0 s₅) E0 s₄) E0 s₃
            else ∃ m, m < n ∧ I m s₃) E0 s₂) E0 s₁') E0 s₁) E0 s)
    (n : Nat) (h : I n s) : codeAny (model g.prog g.w) A (.compLoop (.DictComp kx vx [⟨target, iter, ifs, 0⟩] scope pos) 0 it (.ref D) cenv) R s := by
  refine codeAny_loop rfl I (fun n s hI => ?_) n h
  show wpAny _ A ((compTurn (.DictComp kx vx [⟨target, iter, ifs, 0⟩] scope pos) 0 it (.ref D) cenv).onRaise (fun x => do noteFrame x cenv; theTreesLotGoes x)) _ _ s
  refine wpAny_noted ?_
  rw [compTurn_dict]
  refine wpAny_bind (wpAny_standAt (wpAny_bind (wpAny_mono (turn n s hI) (fun r s₁ h₁ => ?_) fun w0 w0 h' => h'.elim)))
  cases r with
  | none => exact wpAny_pure h₁
  | some v =>
    refine wpAny_bind (wpAny_mono h₁ (fun w0 s₁' h₁' => ?_) fun w0 w0 h' => h'.elim)
    refine wpAny_bind (wpAny_mono h₁' (fun w0 s₂ h₂ => wpAny_bind (wpAny_mono h₂ (fun ok s₃ h₃ => ?_) fun w0 w0 h' => h'.elim)) fun w0 w0 h' => h'.elim)
    cases ok with
    | false => exact wpAny_pure ⟨rfl, h₃⟩
    | true =>
      exact wpAny_bind (wpAny_bind (wpAny_mono h₃ (fun kv s₄ h₄ => wpAny_bind (wpAny_holding (wpAny_mono h₄ (fun vv s₅ h₅ => wpAny_bind (wpAny_standAt (wpAny_holding (wpAny_mono h₅ (fun w0 s₆ h₆ => wpAny_pure ⟨rfl, h₆⟩) fun w0 w0 h' => h'.elim)))) fun w0 w0 h' => h'.elim))) fun w0 w0 h' => h'.elim))

inductive kD4 {κ : Type} (put : List κ → κ → List κ) (okK : Mine.D → κ → Prop) (Inv : List Mine.D → List κ → Store → Prop) (rem : List Mine.D) (acc : List κ) (src : List Addr) (st' : Store) (d : Mine.D) (d2 : Mine.D) (st4 : Store) : Prop
  | mk (x : κ) (h : okK d x) (hl : acc.length ≤ 1000000) (hi : Inv rem (put acc x) st4) (hs : ∀ a ∈ src, st4 a = st' a)
noncomputable abbrev kD3 {κ : Type} (g : Gr) (k : Nat) (ce : Env) (ρ1 : Vars) (vx : Expr) (put : List κ → κ → List κ) (okK : Mine.D → κ → Prop) (Inv : List Mine.D → List κ → Store → Prop) (rem : List Mine.D) (acc : List κ) (src : List Addr) (st' : Store) : PE := fun d st3 => EvJ g k ce ρ1 vx st3 (kD4 put okK Inv rem acc src st' d)
noncomputable abbrev kD2 {κ : Type} (g : Gr) (k : Nat) (ce : Env) (ρ1 : Vars) (kx vx : Expr) (put : List κ → κ → List κ) (okK : Mine.D → κ → Prop) (Inv : List Mine.D → List κ → Store → Prop) (rem : List Mine.D) (acc : List κ) (src : List Addr) (st' : Store) : PB := fun b st2 =>
      if b = true then EvJ g k ce ρ1 kx st2 (kD3 g k ce ρ1 vx put okK Inv rem acc src st') else Inv rem acc st2 ∧ ∀ a ∈ src, st2 a = st' a
noncomputable abbrev kD1 {κ : Type} (g : Gr) (k : Nat) (ce : Env) (ifs : List Expr) (kx vx : Expr) (put : List κ → κ → List κ) (okK : Mine.D → κ → Prop) (Inv : List Mine.D → List κ → Store → Prop) (rem : List Mine.D) (acc : List κ) (src : List Addr) (st' : Store) : PV := fun ρ1 st1 => IfsJ g k ce ρ1 ifs st1 (kD2 g k ce ρ1 kx vx put okK Inv rem acc src st')
inductive LpD {κ : Type} (AccO : Fz → Obj → List κ → Prop) (g : Gr) (S : Fz) (st : Store) (s : Shared) (Ca Da : Addr) (fp : List Addr) (R : Fz → Store → Heap → List D → Prop) (Inv : List D → List κ → Store → Prop) (n : Nat) (s' : Shared) : Prop
  | mk (S' : Fz) (st' : Store) (rem : List D) (acc : List κ) (ob : Obj) (m : Str → Option Value) (hn : n = rem.length) (X : Ext g (fun a => a = Ca ∨ a = Da ∨ a ∈ fp) S st s S' st' s') (hR : R S' st' s'.heap rem)
    (hf : ∀ b ∈ fp, S' b = none ∧ st' b = none ∧ (s'.heap.get? b).isSome) (c1 : S' Ca = none) (c2 : st' Ca = none) (d1 : S' Da = none) (d2 : st' Da = none) (hN : s'.heap.Ns Ca m) (hL : s'.heap.get? Da = some ob) (hA : AccO S' ob acc) (hI : Inv rem acc st')
theorem comp_coreD {κ : Type} (AccO : Fz → Obj → List κ → Prop) (put : List κ → κ → List κ) (okK : Mine.D → κ → Prop) {A : Around} {kx vx target iter : Expr} {ifs : List Expr} {scope : Scope} {pos : Pos} {S S2 : Fz} {st2 : Store} {s s2 : Shared} {fp src : List Addr} {tg : Expr → Prop} {R : Fz → Store → Heap → List Mine.D → Prop} {ds : List Mine.D} {it : Value}
    {RR : Value → Addr → Result → Shared → Prop}
    (hnew : ∀ S : Fz, AccO S { cls := .type "dict", dict := none, data := .dict #[] } []) (hmono : ∀ S S' o acc, Sub S S' → AccO S o acc → AccO S' o acc)
    (hstore : ∀ (S : Fz) (st : Store) (s : Shared) (D : Addr) (o : Obj) (acc : List κ) (kv vv : Value) (d : Mine.D) (x : κ) (Q : Unit → Shared → Prop), Mod g S st s.heap → S D = none → st D = none → s.heap.get? D = some o → AccO S o acc → Rep g S kv d → okK d x → acc.length ≤ 1000000 →
      (∀ h' o' tk, h'.get? D = some o' → AccO S o' (put acc x) → (∀ b o, b ≠ D → s.heap.get? b = some o → h'.get? b = some o) → Q () { s with heap := h', toks := tk }) → wpAny (model g.prog g.w) A (dictSet D kv vv) Q E0 s)
    (hcl : closOk scope env = true) (hkind : scope.kind = .function) (hcell : ∀ y ∈ scope.names, y.2 ≠ .cell)
    (L : Lv k A) (E : EnvM g S st env ρ s.heap) (IT : Iter g it fp src tg R) (ht : tg target) (X2 : Ext g NoW S st s S2 st2 s2) (hR : R S2 st2 s2.heap ds)
    (hf : ∀ b ∈ fp, S2 b = none ∧ st2 b = none ∧ s.heap.get? b = none ∧ (s2.heap.get? b).isSome)
    (Inv : List Mine.D → List κ → Store → Prop) (hI : Inv ds [] st2)
    (step : ∀ C x rem acc st', Inv (x :: rem) acc st' → AsJ g k (fun a => a = C) (compEnvC scope (clOf scope env) C env) (compVars scope ρ) target x st' (kD1 g k (compEnvC scope (clOf scope env) C env) ifs kx vx put okK Inv rem acc src st'))
    (fin : ∀ S' st' s' D C ob acc m, Ext g (fun a => a = C ∨ a = D) S st s S' st' s' → s.heap.get? C = none → s.heap.get? D = none → C ≠ D → S' C = none → st' C = none → S' D = none → st' D = none →
      1 < D → s'.heap.Ns C m → s'.heap.get? D = some ob → AccO S' ob acc → Inv [] acc st' → RR (.ref D) C (.ok .next) s') :
    wpAny (model g.prog g.w) A newDict (fun acc s3 => wpAny (model g.prog g.w) A (newFunctionEnv scope env.globals (clOf scope env) [] env.qual none .none (some env)) (fun cenv s4 =>
      codeAny (model g.prog g.w) A (.compStart (.DictComp kx vx [⟨target, iter, ifs, 0⟩] scope pos) 0 it acc { cenv with scope := relabel scope env }) (RR acc cenv.locals) s4) E0 s3) E0 s2 := by
  refine wpAny_newObj_type (wpAny_newFunctionEnv hcell (by intro y hy; simp at hy) (fun h₁ hns₁ hsb₁ => ?_) hkind)
  dsimp only at hns₁ hsb₁ ⊢
  generalize hDd : s2.heap.objs.size = D
  have hD2 : s2.heap.get? D = none := by rw [← hDd]; exact Heap.get?_none_of_le (Nat.le_refl _)
  have hHD : (s2.heap.push { cls := .type "dict", dict := none, data := .dict #[] }).get? D = some { cls := .type "dict", dict := none, data := .dict #[] } := by rw [← hDd]; exact Heap.get?_push_size _ rfl
  have hHk : ∀ b o, s2.heap.get? b = some o → (s2.heap.push { cls := .type "dict", dict := none, data := .dict #[] }).get? b = some o := fun b o e => Heap.get?_push_of_some _ e
  have hCsz : (s2.heap.push { cls := .type "dict", dict := none, data := .dict #[] }).objs.size = D + 1 := by rw [Heap.size_push, hDd]
  generalize hH2 : s2.heap.push { cls := .type "dict", dict := none, data := .dict #[] } = H2 at hns₁ hsb₁ hHD hHk hCsz ⊢
  generalize hCd : H2.objs.size = C at hns₁ hsb₁ hCsz ⊢
  have hCD : C ≠ D := by rw [hCsz]; exact Nat.succ_ne_self _
  have hH2C : H2.get? C = none := by rw [← hCd]; exact Heap.get?_none_of_le (Nat.le_refl _)
  have hC2 : s2.heap.get? C = none := by
    cases q : s2.heap.get? C with
    | none => rfl
    | some o => have := hHk _ _ q; rw [hH2C] at this; cases this
  have k1 : ∀ b o, b ≠ C → H2.get? b = some o → h₁.get? b = some o := fun b o hb e => (hsb₁.2 b hb).trans (Heap.get?_push_of_some _ e)
  have hD1 : h₁.get? D = some { cls := .type "dict", dict := none, data := .dict #[] } := k1 D _ (Ne.symm hCD) hHD
  have kall : ∀ b o, s2.heap.get? b = some o → h₁.get? b = some o := fun b o e => k1 b o (by rintro rfl; rw [hC2] at e; cases e) (hHk b o e)
  have hDbig : 1 < D := by
    rw [← hDd]
    obtain ⟨o, es, ep, ho, _⟩ := g.hg
    have h3 := Heap.lt_size (X2.mod.sub _ _ (X2.mod.base _ _ ho))
    have h4 : mainGlobals = 3 := rfl
    rw [h4] at h3
    exact Nat.lt_trans (by decide) h3
  obtain ⟨oD1, oD2⟩ := fresh_off X2.mod hD2
  obtain ⟨oC1, oC2⟩ := fresh_off X2.mod hC2
  have fD := none_of_alive X2.alive hD2
  have fC := none_of_alive X2.alive hC2
  have hCf : C ∉ fp := fun hm => by have := (hf C hm).2.2.2; rw [hC2] at this; cases this
  have hDf : D ∉ fp := fun hm => by have := (hf D hm).2.2.2; rw [hD2] at this; cases this
  have hown : ∀ a, Own env a → a ≠ C ∧ a ≠ D ∧ a ∉ fp := fun a ha => by
    have al := (E.off a ha).2.2
    exact ⟨(by rintro rfl; rw [fC] at al; cases al), (by rintro rfl; rw [fD] at al; cases al), fun hm => (by rw [(hf a hm).2.2.1] at al; cases al)⟩
  -- the loop
  have loop : ∀ tk, codeAny (model g.prog g.w) A (.compLoop (.DictComp kx vx [⟨target, iter, ifs, 0⟩] scope pos) 0 it (.ref D) (compEnvC scope (clOf scope env) C env)) (RR (.ref D) C) { s2 with heap := h₁, toks := tk } := by
    intro tk0
    refine compLoop_anyD (LpD AccO g S st s C D fp R Inv) ?_ ds.length ?_
    · rintro n s' ⟨S', st', rem, acc, ob, m, rfl, X, hR', hf', c1, c2, d1, d2, hN, hL, hA, hInv⟩
      have E' : EnvM g S' st' env ρ s'.heap := E.ext X fun a ha hw => by
        obtain ⟨e1, e2, e3⟩ := hown a ha
        rcases hw with hw | hw | hw
        · exact e1 hw
        · exact e2 hw
        · exact e3 hw
      cases rem with
      | nil =>
        refine wpAny_mono (IT.fin A k S' st' s' (fun s3 => RR (.ref D) C (.ok .next) s3) L X.mod hR' fun h' tk hk => ?_) (fun r s3 z => ?_) fun w0 w0 x => x.elim
        · have X' : Ext g (fun a => a = C ∨ a = D) S st s S' st' s' := Ext.narrow (fp := fp) (X.wider fun a h => h.elim (fun h => .inl (.inl h)) fun h => h.elim (fun h => .inl (.inr h)) .inr) fun b hb => (hf b hb).2.2.1
          have X'' := X'.drop (tk := tk) (fun b hb => ⟨(hf' b hb).1, (hf' b hb).2.1, (hf b hb).2.2.1⟩) hk
          exact fin S' st' _ D C ob acc m X'' fC fD hCD c1 c2 d1 d2 hDbig (hN.at' fun o e => hk C o hCf e) (hk D _ hDf hL) hA hInv
        · cases r with
          | none => exact z
          | some v => exact z.elim
      | cons x rem =>
        refine wpAny_mono (IT.next A k S' st' s' x rem target (fun v s3 => wpAny (model g.prog g.w) A (assign target (compEnvC scope (clOf scope env) C env) v) (fun w0 s₂ =>
          wpAny (model g.prog g.w) A (forIn ifs true fun c r => if r = true then do let ok ← isTrue c (compEnvC scope (clOf scope env) C env) (eval c (compEnvC scope (clOf scope env) C env)); pure (ForInStep.yield ok) else pure (ForInStep.yield r)) (fun ok s₃ =>
            if ok = true then wpAny (model g.prog g.w) A (eval kx (compEnvC scope (clOf scope env) C env)) (fun kv s₄ => wpAny (model g.prog g.w) A (eval vx (compEnvC scope (clOf scope env) C env)) (fun vv s₅ => wpAny (model g.prog g.w) A (dictSet D kv vv) (fun w0 s₆ => LpN (LpD AccO g S st s C D fp R Inv) (rem.length + 1) s₆) E0 s₅) E0 s₄) E0 s₃
            else LpN (LpD AccO g S st s C D fp R Inv) (rem.length + 1) s₃) E0 s₂) E0 s3) L X.mod hR' (fun b hb => ⟨(hf' b hb).1, (hf' b hb).2.1⟩) ht ?_) (fun r s3 z => ?_) fun w0 w0 x => x.elim
        · intro S3 s3 v X3 rv hR3
          have XX3 : Ext g (fun a => a = C ∨ a = D ∨ a ∈ fp) S st s S3 st' s3 := X.trans (X3.wider fun w0 h => .inr (.inr h))
          have E3 : EnvM g S3 st' env ρ s3.heap := E'.ext X3 fun a ha hm => (hown a ha).2.2 hm
          obtain ⟨oC, hoC⟩ := Ns.look hN
          obtain ⟨c1', c2'⟩ := X3.own c1 c2 (by rw [hoC]; rfl)
          obtain ⟨d1', d2'⟩ := X3.own d1 d2 (by rw [hL]; rfl)
          have hN3 : s3.heap.Ns C m := hN.at' fun o e => X3.keep C o e c2 hCf
          have hL3 : s3.heap.get? D = some ob := X3.keep D _ hL d2 hDf
          have f3 : ∀ b ∈ fp, S3 b = none ∧ st' b = none ∧ (s3.heap.get? b).isSome := fun b hb => by
            obtain ⟨e1, e2, e3⟩ := hf' b hb
            obtain ⟨g1, g2⟩ := X3.own e1 e2 e3
            exact ⟨g1, g2, X3.alive b e3⟩
          have EC : EnvM g S3 st' (compEnvC scope (clOf scope env) C env) (compVars scope ρ) s3.heap := env_comp E3 hcl hkind hN3 c1' c2' fun a ha => (hown a ha).1
          refine wpAny_mono (step C x rem acc st' hInv A S3 s3 v L X3.mod EC rv) (fun w0 s4 z => ?_) fun w0 w0 x => x
          obtain ⟨S4, st4, ρ4, X4, E4, q4⟩ := z
          refine wpAny_mono (q4 A S4 s4 L X4.mod E4) (fun ok s5 z => ?_) fun w0 w0 x => x
          obtain ⟨S5, st5, X5, q5⟩ := z
          have X45 : Ext g (fun a => a = C) S3 st' s3 S5 st5 s5 := X4.trans (X5.wider fun w0 f => f.elim)
          have E5 := E4.ext X5 no_nw
          cases ok with
          | false =>
            simp only [Bool.false_eq_true, if_false] at q5 ⊢
            obtain ⟨mC, _, hNC, _⟩ := E5.ex
            obtain ⟨c1'', c2''⟩ := X45.own c1' c2' (by obtain ⟨o, e⟩ := Ns.look hN3; rw [e]; rfl)
            obtain ⟨d1'', d2''⟩ := X45.own d1' d2' (by rw [hL3]; rfl)
            refine ⟨rem.length, Nat.lt_succ_self _, S5, st5, rem, acc, ob, mC, rfl, XX3.trans (X45.wider fun w0 h => .inl h), IT.stable _ _ _ _ _ _ _ hR3 X45.ext (fun b hb o e => X45.keep b o e (f3 b hb).2.1 fun h => hCf (h ▸ hb)) q5.2,
              fun b hb => ?_, c1'', c2'', d1'', d2'', hNC, X45.keep D _ hL3 d2' (Ne.symm hCD), hmono _ _ _ _ (X3.ext.trans X45.ext) hA, q5.1⟩
            obtain ⟨e1, e2, e3⟩ := f3 b hb
            obtain ⟨g1, g2⟩ := X45.own e1 e2 e3
            exact ⟨g1, g2, X45.alive b e3⟩
          | true =>
            simp only [if_true] at q5 ⊢
            refine wpAny_mono (q5 A S5 s5 L X5.mod E5) (fun kv s6 z => ?_) fun w0 w0 x => x
            obtain ⟨S6, st6, d, X6, r6, q6⟩ := z
            refine wpAny_mono (q6 A S6 s6 L X6.mod (E5.ext X6 no_nw)) (fun vv s7 z => ?_) fun w0 w0 x => x
            obtain ⟨S7, st7, d7, X7, r7, x, hok, hlen, hInv7, hsrc⟩ := z
            have X67 := X6.trans X7
            have X47 : Ext g (fun a => a = C) S3 st' s3 S7 st7 s7 := X45.trans (X67.wider fun w0 f => f.elim)
            have E7 := E5.ext X67 no_nw
            obtain ⟨c1'', c2''⟩ := X47.own c1' c2' (by obtain ⟨o, e⟩ := Ns.look hN3; rw [e]; rfl)
            obtain ⟨d1'', d2''⟩ := X47.own d1' d2' (by rw [hL3]; rfl)
            have hL7 := X47.keep D _ hL3 d2' (Ne.symm hCD)
            refine hstore S7 st7 s7 D ob acc kv vv d x _ X47.mod d1'' d2'' hL7 (hmono _ _ _ _ (X3.ext.trans X47.ext) hA) (r6.mono X7.ext) hok hlen fun h' o' tk a1 a3 a2 => ?_
            have X8 : Ext g (fun a => a = D) S7 st7 s7 S7 st7 { s7 with heap := h', toks := tk } := ext_but X47.mod d1'' d2'' rfl (by rw [a1]; rfl) a2
            obtain ⟨mC, _, hNC, _⟩ := E7.ex
            refine ⟨rem.length, Nat.lt_succ_self _, S7, st7, rem, put acc x, o', mC, rfl, (XX3.trans (X47.wider fun w0 h => .inl h)).trans (X8.wider fun w0 h => .inr (.inl h)),
              IT.stable _ _ _ _ _ _ _ hR3 X47.ext (fun b hb o e => a2 b o (fun h => hDf (h ▸ hb)) (X47.keep b o e (f3 b hb).2.1 fun h => hCf (h ▸ hb))) hsrc,
              fun b hb => ?_, c1'', c2'', d1'', d2'', hNC.at' fun o e => a2 C o hCD e, a1, a3, hInv7⟩
            obtain ⟨e1, e2, e3⟩ := f3 b hb
            obtain ⟨g1, g2⟩ := X47.own e1 e2 e3
            exact ⟨g1, g2, X8.alive b (X47.alive b e3)⟩
        · cases r with
          | none => exact z.elim
          | some v => exact z
    · refine ⟨S2, st2, ds, [], _, _, rfl, ?_, IT.stable _ _ _ _ _ _ _ hR (.refl _) (fun b hb o e => kall b o e) fun w0 w0 => rfl, fun b hb => ?_, oC1, oC2, oD1, oD2, hns₁, hD1, hnew _, hI⟩
      · exact (X2.wider fun w0 f => f.elim).trans (ext_all X2.mod kall)
      · obtain ⟨a1, a2, _, a4⟩ := hf b hb
        obtain ⟨o, e⟩ := Option.isSome_iff_exists.mp a4
        exact ⟨a1, a2, by show (h₁.get? b).isSome; rw [kall b o e]; rfl⟩
  have M1 : Mod g S2 st2 h₁ := (ext_all (W := NoW) (tk := s2.toks) X2.mod kall).mod
  have hR1 : R S2 st2 h₁ ds := IT.stable _ _ _ _ _ _ _ hR (.refl _) (fun b hb o e => kall b o e) fun w0 w0 => rfl
  refine codeAny_compStart_dict (loop _) (wpAny_mono (IT.self A S2 st2 { s2 with heap := h₁, toks := _ } ds (fun it' s' => it' = it ∧ s' = { s2 with heap := h₁, toks := _ }) M1 hR1 ⟨rfl, rfl⟩) (fun it' s' z => ?_) fun w0 w0 x => x.elim)
  obtain ⟨rfl, rfl⟩ := z
  exact loop _
end
end Mine

namespace Mine
section
variable {g : Gr} {k : Nat} {env : Env} {ρ : Vars} {st : Store} {P : Params}

set_option genInjectivity false in
structure DKind (g : Gr) (κ : Type) where
  AccO : Fz → Obj → List κ → Prop
  put : List κ → κ → List κ
  okK : D → κ → Prop
  toD : List κ → D
  new : ∀ S : Fz, AccO S { cls := .type "dict", dict := none, data := .dict #[] } []
  mono : ∀ S S' o acc, Sub S S' → AccO S o acc → AccO S' o acc
  store : ∀ (A : Around) (k : Nat), Lv k A → ∀ (S : Fz) (st : Store) (s : Shared) (D : Addr) (o : Obj) (acc : List κ) (kv vv : Value) (d : Mine.D) (x : κ) (Q : Unit → Shared → Prop), Mod g S st s.heap → S D = none → st D = none → s.heap.get? D = some o → AccO S o acc → Rep g S kv d → okK d x → acc.length ≤ 1000000 →
      (∀ h' o' tk, h'.get? D = some o' → AccO S o' (put acc x) → (∀ b o, b ≠ D → s.heap.get? b = some o → h'.get? b = some o) → Q () { s with heap := h', toks := tk }) → wpAny (model g.prog g.w) A (dictSet D kv vv) Q E0 s
  rep : ∀ (S : Fz) (D : Addr) (o : Obj) (acc : List κ), S D = some o → AccO S o acc → 1 < D → Rep g S (.ref D) (toD acc)

theorem fin_compD {κ : Type} (K : DKind g κ) {W : Addr → Prop} {S S' : Fz} {st' : Store} {s s' : Shared} {D C : Addr} {ob : Obj} {acc : List κ} (X : Ext g W S st s S' st' s') (hs : s.heap.get? D = none) (hCD : C ≠ D)
    (c1 : S' C = none) (d1 : S' D = none) (d2 : st' D = none) (hD : 1 < D) (hL : s'.heap.get? D = some ob) (hA : K.AccO S' ob acc) :
    ∃ S'', Ext g W S st s S'' st' s' ∧ Rep g S'' (.ref D) (K.toD acc) ∧ S'' C = none := by
  obtain ⟨S'', X', e, hsub, hne⟩ := ext_take X hs d1 d2 hL
  exact ⟨S'', X', K.rep _ _ _ _ e (K.mono _ _ _ _ hsub hA) hD, (hne C hCD).trans c1⟩

inductive kDC {κ : Type} (g : Gr) (k : Nat) (env : Env) (ρ : Vars) (scope : Scope) (target kx vx : Expr) (ifs : List Expr) (K : DKind g κ) (Q : PE) (ds : List D) (src : List Addr) (st1 : Store) : Prop
  | mk (Inv : List D → List κ → Store → Prop) (h0 : Inv ds [] st1)
      (step : ∀ C x rem acc st', Inv (x :: rem) acc st' → AsJ g k (fun a => a = C) (compEnvC scope (clOf scope env) C env) (compVars scope ρ) target x st' (kD1 g k (compEnvC scope (clOf scope env) C env) ifs kx vx K.put K.okK Inv rem acc src st'))
      (fin : ∀ acc st', Inv [] acc st' → Q (K.toD acc) st')
theorem ev_dcomp {κ : Type} (K : DKind g κ) {kx vx target iter : Expr} {ifs : List Expr} {scope : Scope} {pos : Pos} {Q : D → Store → Prop}
    (h : ItJ g k env ρ iter target st (kDC g k env ρ scope target kx vx ifs K Q))
    (hcl : closOk scope env = true := by rfl) (hkind : scope.kind = .function := by rfl) (hcell : ∀ y ∈ scope.names, y.2 ≠ .cell := by decide)
    (hnames : ∀ x ∈ scope.names, x.2 = .local → scope.names.lookup x.1 = some .local := by decide)
    (hs : ∀ x, foldedSetIterable iter env x = pure x := by intro _; rfl) : EvJ g k env ρ (.DictComp kx vx [⟨target, iter, ifs, 0⟩] scope pos) st Q := by
  intro A S s L M E
  rw [arm_eval_DictComp]
  refine wpAny_comprehension_free (use := none) rfl hs (closureFor_clOf hcl) hkind hnames (wpAny_mono (h A S s L M E) (fun xv s1 y => wpAny_mono y (fun it s2 z => ?_) fun w0 w0 x => x) fun w0 w0 x => x)
  obtain ⟨S2, st2, fp, src, tg, R, ds, IT, ht, X2, hR, hf, Inv, hI, step, fin⟩ := z
  refine comp_coreD K.AccO K.put K.okK (RR := fun acc C => compPost (model g.prog g.w) A E0 none (EndE g S st s Q) acc C) K.new K.mono (K.store A k L) hcl hkind hcell L E IT ht X2 hR hf Inv hI step ?_
  intro S' st' s' D C ob acc m X fC fD hCD c1 c2 d1 d2 hD hN hL hA hInv
  obtain ⟨S'', X', r, c1'⟩ := fin_compD K X fD hCD c1 d1 d2 hD hL hA
  refine ⟨m, hN, fun h' hs' => ?_⟩
  have X0 : Ext g NoW S st s S'' st' s' := Ext.narrow (fp := [C, D]) (X'.wider fun a h => .inr (by rcases h with rfl | rfl <;> simp)) fun b hb => by
    rcases List.mem_cons.mp hb with rfl | hb
    · exact fC
    · rw [List.mem_singleton] at hb; subst hb; exact fD
  have X1 := X0.drop (h' := h') (tk := s'.toks) (fp := [C]) (fun b hb => by rw [List.mem_singleton] at hb; subst hb; exact ⟨c1', c2, fC⟩) fun b o hb e => (hs'.2 b (by simpa using hb)).trans e
  exact ⟨S'', st', K.toD acc, X1, r, fin _ _ hInv⟩

theorem sm_dcomp {κ : Type} (K : DKind g κ) {kx vx target iter : Expr} {ifs : List Expr} {scope : Scope} {pos py spos : Pos} {y : Str} {Q : Fl → Vars → Store → Prop} (hw : Wr env y)
    (h : ItJ g k env ρ iter target st (kDC g k env ρ scope target kx vx ifs K (kSet ρ y Q)))
    (hsw : swapsWith (.DictComp kx vx [⟨target, iter, ifs, 0⟩] scope pos) (some (.Name y py)) spos.line env = pure true := by rfl)
    (hcl : closOk scope env = true := by rfl) (hkind : scope.kind = .function := by rfl) (hcell : ∀ y ∈ scope.names, y.2 ≠ .cell := by decide)
    (hnames : ∀ x ∈ scope.names, x.2 = .local → scope.names.lookup x.1 = some .local := by decide)
    (hs : ∀ x, foldedSetIterable iter env x = pure x := by intro _; rfl) : SmJ g k env ρ (.Assign [.Name y py] (.DictComp kx vx [⟨target, iter, ifs, 0⟩] scope pos) spos) st Q := by
  intro A S s L M E
  rw [exec_Assign_Name_used _ _ _ _ hsw]
  refine wpAny_bind (wpAny_standAt (wpAny_bind ?_))
  show wpAny _ A (do let _ ← comprehension (.DictComp kx vx [⟨target, iter, ifs, 0⟩] scope pos) scope env _ newDict false (eval iter env) (some (assign (.Name y py) env))) _ _ s
  refine wpAny_bind (wpAny_mono (wpAny_comprehension_free (use := some (assign (.Name y py) env)) (Q := fun w0 s' => EndS g S st env s Q .next s') rfl hs (closureFor_clOf hcl) hkind hnames (wpAny_mono (h A S s L M E) (fun xv s1 yy => wpAny_mono yy (fun it s2 z => ?_) fun w0 w0 x => x) fun w0 w0 x => x)) (fun w0 s' hq => wpAny_pure (wpAny_pure hq)) fun w0 w0 e => e)
  obtain ⟨S2, st2, fp, src, tg, R, ds, IT, ht, X2, hR, hf, Inv, hI, step, fin⟩ := z
  refine comp_coreD K.AccO K.put K.okK (RR := fun acc C => compPost (model g.prog g.w) A E0 (some (assign (.Name y py) env)) (fun w0 s' => EndS g S st env s Q .next s') acc C) K.new K.mono (K.store A k L) hcl hkind hcell L E IT ht X2 hR hf Inv hI step ?_
  intro S' st' s' D C ob acc m X fC fD hCD c1 c2 d1 d2 hD hN hL hA hInv
  obtain ⟨S'', X', r, c1'⟩ := fin_compD K X fD hCD c1 d1 d2 hD hL hA
  have hCo : ∀ a, Own env a → a ≠ C := fun a ha => by rintro rfl; have al := (E.off a ha).2.2; rw [fC] at al; cases al
  have X0 : Ext g NoW S st s S'' st' s' := Ext.narrow (fp := [C, D]) (X'.wider fun a h => .inr (by rcases h with rfl | rfl <;> simp)) fun b hb => by
    rcases List.mem_cons.mp hb with rfl | hb
    · exact fC
    · rw [List.mem_singleton] at hb; subst hb; exact fD
  show wpAny _ A (assign (.Name y py) env (.ref D)) _ _ _
  refine wpAny_assign_Name (store_var X0.mod (E.ext X0 no_nw) hw.own r fun s5 X5 E5 => ?_)
  have hN5 : s5.heap.Ns C m := hN.at' fun o e => X5.keep C o e c2 fun ho => hCo C ho rfl
  refine ⟨m, hN5, fun h' hs' => ?_⟩
  have X05 : Ext g (Own env) S st s S'' st' s5 := (X0.wider fun w0 f => f.elim).trans X5
  have X1 := X05.drop (h' := h') (tk := s5.toks) (fp := [C]) (fun b hb => by rw [List.mem_singleton] at hb; subst hb; exact ⟨c1', c2, fC⟩) fun b o hb e => (hs'.2 b (by simpa using hb)).trans e
  exact ⟨S'', st', _, .next, X1, E5.keepAll fun a o ha e => (hs'.2 a (hCo a ha)).trans e, trivial, fin _ _ hInv⟩

noncomputable def putK {κ : Type} [DecidableEq κ] (acc : List κ) (x : κ) : List κ := if x ∈ acc then acc else acc ++ [x]

theorem stored_keys {K : Type} [DecidableEq K] (kvs : List (K × Value)) (x : K) (v : Value) : (stored kvs x v).map (·.1) = putK (kvs.map (·.1)) x := by
  unfold stored putK
  by_cases h : x ∈ kvs.map (·.1)
  · rw [if_pos h, if_pos, keys_map_store]
    obtain ⟨kv, h1, h2⟩ := List.mem_map.mp h
    exact List.any_eq_true.mpr ⟨kv, h1, decide_eq_true h2⟩
  · rw [if_neg h, if_neg, List.map_append]; · rfl
    intro h'
    obtain ⟨kv, h1, h2⟩ := List.any_eq_true.mp h'
    exact h (List.mem_map.mpr ⟨kv, h1, of_decide_eq_true h2⟩)

noncomputable def dkInt (g : Gr) : DKind g Int where
  AccO := fun w0 o acc => ∃ kvs, Obj.IsDictOf (intKind g.prog g.w) o kvs ∧ kvs.map (·.1) = acc
  put := putK
  okK := fun d x => d = .dat (.int x)
  toD := .dic
  new := fun w0 => ⟨[], ⟨#[], 0, ⟨rfl, rfl, rfl⟩, rfl, fun w0 he => by simp at he, Pairs.nil, List.nodup_nil⟩, rfl⟩
  mono := fun w0 w0 w0 w0 w0 h => h
  store := by
    rintro A k L S st s D o acc kv vv d x Q M hS hst hD ⟨kvs, h1, rfl⟩ r rfl hl q
    cases r
    have hd : s.heap.DictOf (intKind g.prog g.w) D kvs := Heap.dictOf_iff.mpr ⟨o, hD, h1⟩
    refine wpAny_dictSet_pairs (intKind_is _ _ _ _) hd (fun h' hd' hs => ?_) (sizeLine_big (by simpa using hl))
    obtain ⟨o', ho', k1⟩ := Heap.dictOf_iff.mp hd'
    exact q h' o' _ ho' ⟨_, k1, stored_keys ..⟩ fun b ob hb e => (hs.2 b hb).trans e
  rep := by
    rintro S D o acc hD ⟨kvs, h1, rfl⟩ hlt
    refine ⟨D, o, kvs, rfl, hD, h1, rfl, ?_⟩
    have : D ≠ sysModules := Nat.ne_of_gt hlt
    simpa using this
end
end Mine

namespace Mine
section
variable {g : Gr} {k : Nat} {env : Env} {ρ : Vars} {st : Store} {P : Params}

noncomputable def TupK (S : Fz) (x : List Int × Addr × Value) : Prop := ∃ (a b : Int) (t u : Tok) (n : Nat), x.1 = [a, b] ∧ S x.2.1 = some (To [.int a t, .int b u] n)

theorem tupKey {S : Fz} {h : Heap} (hs : ∀ a o, S a = some o → h.get? a = some o) {x : List Int × Addr × Value} (hx : TupK S x) : (tupleKind (intKind g.prog g.w)).is h x.1 x.2.1 := by
  obtain ⟨a, b, t, u, n, e, h1⟩ := hx
  rw [e]
  exact ⟨_, _, n, hs _ _ h1, rfl, rfl, PySem.ItemsAre.cons (intKind_is _ _ _ _) (PySem.ItemsAre.cons (intKind_is _ _ _ _) PySem.ItemsAre.nil)⟩

theorem storedH_keys {K : Type} [DecidableEq K] (xs : List (K × Addr × Value)) (x : K) (a : Addr) (v : Value) : (storedH xs x a v).map (·.1) = putK (xs.map (·.1)) x := by
  unfold putK
  by_cases h : x ∈ xs.map (·.1)
  · rw [if_pos h]
    obtain ⟨y, h1, h2⟩ := List.mem_map.mp h
    unfold storedH
    rw [if_pos, keys_map_putAt]
    unfold atKey
    rw [Option.isSome_map, List.find?_isSome]
    exact ⟨y, h1, decide_eq_true h2⟩
  · rw [if_neg h]
    unfold storedH
    rw [if_neg, List.map_append]; · rfl
    unfold atKey
    rw [Option.isSome_map, List.find?_isSome]
    rintro ⟨y, h1, h2⟩
    exact h (List.mem_map.mpr ⟨y, h1, of_decide_eq_true h2⟩)

theorem putK_map {α β : Type} [DecidableEq α] [DecidableEq β] {f : α → β} (hf : ∀ a b, f a = f b → a = b) (l : List α) (x : α) : (putK l x).map f = putK (l.map f) (f x) := by
  unfold putK
  by_cases h : x ∈ l
  · rw [if_pos h, if_pos (List.mem_map_of_mem h)]
  · rw [if_neg h, if_neg, List.map_append]; · rfl
    intro h'
    obtain ⟨y, h1, h2⟩ := List.mem_map.mp h'
    exact h (hf _ _ h2 ▸ h1)

noncomputable def keyL (p : Int × Int) : List Int := [p.1, p.2]
theorem keyL_inj (a b : Int × Int) (h : keyL a = keyL b) : a = b := by
  obtain ⟨a1, a2⟩ := a; obtain ⟨b1, b2⟩ := b
  unfold keyL at h; simp at h; rw [h.1, h.2]

theorem tup_rd {S : Fz} : ∀ {xs : List (List Int × Addr × Value)} {acc : List (Int × Int)}, (∀ x ∈ xs, TupK S x) → xs.map (·.1) = acc.map keyL → RdAll S (xs.map fun x => Value.ref x.2.1) (acc.map fun p => .tuple [.int p.1, .int p.2])
  | [], [], _, _ => .nil
  | [], _ :: _, _, e => by cases e
  | _ :: _, [], _, e => by cases e
  | x :: xs, p :: acc, h, e => by
    rw [List.map_cons, List.map_cons] at e
    injection e with e1 e2
    obtain ⟨a, b, t, u, n, k1, k2⟩ := h x (.head _)
    rw [k1] at e1
    unfold keyL at e1
    simp at e1
    obtain ⟨rfl, rfl⟩ := e1
    exact .cons (.tuple k2 (.cons (.int _ _) (.cons (.int _ _) .nil))) (tup_rd (fun y hy => h y (.tail _ hy)) e2)

noncomputable def dkTup (g : Gr) : DKind g (Int × Int) where
  AccO := fun S o acc => ∃ (xs : List (List Int × Addr × Value)) (es : Array DictEntry) (ep : Nat), o.ExactDict ∧ o.data = .dict es ep ∧ es.toList = xs.map (entryOfKey (tupleKind (intKind g.prog g.w))) ∧ (∀ x ∈ xs, TupK S x) ∧ (xs.map (·.1)).Nodup ∧ xs.map (·.1) = acc.map keyL
  put := putK
  okK := fun d x => d = .dat (prD x)
  toD := .tdic
  new := by
    intro S
    refine ⟨[], #[], 0, ⟨rfl, rfl, rfl⟩, rfl, rfl, fun x hx => ?_, List.nodup_nil, rfl⟩
    cases hx
  mono := by
    rintro S S' o acc hs ⟨xs, es, ep, h1, h2, h3, h4, h5, h6⟩
    exact ⟨xs, es, ep, h1, h2, h3, fun x hx => by obtain ⟨a, b, t, u, n, e1, e2⟩ := h4 x hx; exact ⟨a, b, t, u, n, e1, hs _ _ e2⟩, h5, h6⟩
  store := by
    rintro A k L S st s D o acc kv vv d x Q M hS hst hD ⟨xs, es, ep, h1, h2, h3, h4, h5, h6⟩ r rfl hl q
    obtain ⟨a, t, u, n, rfl, hka⟩ := rd_prD r
    have hkey : TupK S (keyL x, a, vv) := ⟨x.1, x.2, t, u, n, rfl, hka⟩
    have hd : Heap.DictOfH (tupleKind (intKind g.prog g.w)) s.heap D xs := ⟨o, es, ep, hD, h1, h2, h3, fun y hy => tupKey M.sub (h4 y hy), h5⟩
    have hlen : xs.length = acc.length := by have := congrArg List.length h6; simpa using this
    refine wpAny_dictSet_heap (knd := tupleKind (intKind g.prog g.w)) (by have := L.room; show A.units < cLine; omega) (tupKey M.sub hkey) hd (fun h' hm' hs => ?_) (sizeLine_big (by (first | with_reducible exact Nat.le_trans (Nat.le_of_eq (by assumption)) (Nat.le_trans (by assumption) (by decide)) | omega)))
    obtain ⟨o', es', ep', ho', hc', hd', he', _, hn'⟩ := hm'
    refine q h' o' _ ho' ⟨_, es', ep', hc', hd', he', fun y hy => ?_, hn', ?_⟩ fun b ob hb e => (hs.2 b hb).trans e
    · rcases mem_storedH hy with ⟨z, hz, e1, e2⟩ | ⟨e1, e2⟩
      · obtain ⟨a', b', t', u', n', k1, k2⟩ := h4 z hz
        exact ⟨a', b', t', u', n', e1.trans k1, by rw [e2]; exact k2⟩
      · exact ⟨x.1, x.2, t, u, n, e1, by rw [e2]; exact hka⟩
    · rw [storedH_keys, h6, putK_map keyL_inj]
  rep := by
    rintro S D o acc hD ⟨xs, es, ep, h1, h2, h3, h4, h5, h6⟩ hlt
    have hne : D ≠ sysModules := Nat.ne_of_gt hlt
    refine ⟨D, o, es, ep, rfl, hD, h1, h2, by simpa using hne, ?_⟩
    rw [h3, List.map_map]
    exact tup_rd h4 h6
end
end Mine

namespace Mine
section
variable {g : Gr} {k : Nat} {env : Env} {ρ : Vars} {st : Store} {P : Params}
variable {prog : Program} {w : World} {A : Around} {E : Value → Shared → Prop} {s : Shared}

theorem keys_iter {d : Addr} {o : Obj} {es : Array DictEntry} {ep : Nat} {Q : Value → Shared → Prop} (hd : (d == sysModules) = false) (ho : s.heap.get? d = some o) (hc : o.ExactDict) (hdat : o.data = .dict es ep)
    (hQ : Q (.ref s.heap.objs.size) { s with heap := s.heap.push { cls := .type "dict_keyiterator", data := .fields #[.ref d, .int 0 0, .int es.size 0, .int ep 0] } }) :
    wpAny (model prog w) A (pyIter (.ref d)) Q E s := by
  have hT : s.TypeIs (.ref d) "dict" := ⟨o, ho, hc.1⟩
  refine wpAny_pyIter_slot hT PySem.F.slot_dict_iter (wpAny_call_entry PySem.F.slot_dict_iter hT PySem.F.entry_dict_iter ?_ (PySem.F.args_dict_iter_1 _))
  unfold Builtin.«dict.__iter__»
  refine wpAny_bind ?_
  unfold Builtin.Dict.dictSlotNone
  refine wpAny_bind (wpAny_notOrdered_dict hT (wpAny_pure ?_))
  show wpAny _ _ (Builtin.Dict.showsAll d >>= _) _ _ s
  unfold Builtin.Dict.showsAll
  rw [if_neg (by rw [hd]; exact Bool.false_ne_true)]
  refine wpAny_bind (wpAny_pure ?_)
  refine wpAny_bind (wpAny_dictEntries ho hdat (wpAny_bind (wpAny_dictEpoch ho hdat ?_)))
  refine wpAny_bind (wpAny_newObj_type (wpAny_pure ⟨_, rfl, "dict_keyiterator", _, ⟨_, Heap.get?_push_size _ rfl, rfl⟩, PySem.F.slot_dict_keyiterator_next.lookup, ?_⟩))
  simpa [rawInt] using hQ

theorem keys_next {it d : Addr} {i ep : Nat} {o : Obj} {es : Array DictEntry} {Q : Option Value → Shared → Prop} (hit : s.heap.IsKeyIter it d i es.size ep) (ho : s.heap.get? d = some o) (hdat : o.data = .dict es ep) (hlt : i < es.size)
    (hQ : ∀ h', h'.IsKeyIter it d (i + 1) es.size ep → Heap.SameBut it s.heap h' → Q (some es[i].key) { s with heap := h' }) : wpAny (model prog w) A (pyNext (.ref it)) Q E s := by
  obtain ⟨oi, hoi, hc, hd⟩ := id hit
  have hT := hit.typeIs
  unfold pyNext
  refine wpAny_bind (wpAny_attempt (wpAny_callSpecial?_slot (name := Str.ofString "__next__") hT PySem.F.slot_dict_keyiterator_next
    (wpAny_call_entry PySem.F.slot_dict_keyiterator_next hT PySem.F.entry_dict_keyiterator_next ?_ (PySem.F.args_dict_keyiterator_next_1 _))))
  refine wpAny_bind (wpAny_pure ?_)
  refine wpAny_bind ?_
  refine wpAny_bind ?_
  first | refine wpAny_bind (wpAny_typeNameOfWhole_keyiter hT (wpAny_pure ?_)) | refine wpAny_bind (wpAny_typeNameOf_keyiter hT (wpAny_pure ?_))
  refine wpAny_bind (wpAny_fieldsOf hoi hd ?_)
  simp only [show Builtin.Dict_items.ownsTuple "dict_keyiterator" = false by decide, Bool.false_eq_true, if_false]
  show wpAny _ _ (if (Value.ref d == Value.none) = true then _ else _) _ _ s
  rw [if_neg (show ¬ ((Value.ref d == Value.none) = true) from Bool.false_ne_true)]
  refine wpAny_bind (wpAny_pure (wpAny_bind (wpAny_dictEntries ho hdat ?_)))
  rw [if_neg (by simp)]
  refine wpAny_bind (wpAny_pure (wpAny_bind (wpAny_dictEpoch ho hdat ?_)))
  rw [if_neg (by simp)]
  refine wpAny_pure ?_
  simp only [show ¬ ((i : Int) < 0) from by (first | with_reducible exact Mine.zv9 | omega), if_false, Int.toNat_natCast, Array.getElem?_eq_getElem hlt]
  refine wpAny_bind ?_
  first | refine wpAny_bind (wpAny_typeNameOfWhole_keyiter hT (wpAny_pure ?_)) | refine wpAny_bind (wpAny_typeNameOf_keyiter hT (wpAny_pure ?_))
  refine wpAny_bind (wpAny_isOneOf_keyiter hT ?_)
  show wpAny _ _ (setField (.ref it) 1 (rawInt ((i : Int) + 1)) >>= _) _ _ s
  refine wpAny_bind (wpAny_setField hoi hd (by simp) ?_)
  have hit' : (s.heap.update it (Obj.mapFields (·.setIfInBounds 1 (rawInt ((i : Int) + 1))))).IsKeyIter it d (i + 1) es.size ep :=
    ⟨_, Heap.get?_update_self _ hoi (Obj.isFreed_of_fields (Obj.data_mapFields hd _)), (Obj.cls_mapFields ..).trans hc, by rw [Obj.data_mapFields hd]; simp [rawInt]⟩
  refine wpAny_bind (wpAny_holding ?_)
  refine wpAny_bind (wpAny_isOneOf_keyiter (s := { s with heap := s.heap.update it (Obj.mapFields (·.setIfInBounds 1 (rawInt ((i : Int) + 1)))) }) hit'.typeIs ?_)
  show wpAny _ _ (pure es[i].key) _ _ _
  exact wpAny_pure (wpAny_pure ⟨_, rfl, wpAny_pure (hQ _ hit' (Heap.SameBut.update ..))⟩)

theorem keys_end {it d : Addr} {ep : Nat} {o : Obj} {es : Array DictEntry} {Q : Option Value → Shared → Prop} (hh : A.handled = none) (hit : s.heap.IsKeyIter it d es.size es.size ep) (ho : s.heap.get? d = some o) (hdat : o.data = .dict es ep)
    (hQ : ∀ h', Heap.ExtBut it s.heap h' → Q none { s with heap := h' }) : wpAny (model prog w) A (pyNext (.ref it)) Q E s := by
  obtain ⟨oi, hoi, hc, hd⟩ := id hit
  have hT := hit.typeIs
  unfold pyNext
  refine wpAny_bind (wpAny_attempt (wpAny_callSpecial?_slot (name := Str.ofString "__next__") hT PySem.F.slot_dict_keyiterator_next
    (wpAny_call_entry PySem.F.slot_dict_keyiterator_next hT PySem.F.entry_dict_keyiterator_next ?_ (PySem.F.args_dict_keyiterator_next_1 _))))
  refine wpAny_bind (wpAny_pure ?_)
  refine wpAny_bind ?_
  refine wpAny_bind ?_
  first | refine wpAny_bind (wpAny_typeNameOfWhole_keyiter hT (wpAny_pure ?_)) | refine wpAny_bind (wpAny_typeNameOf_keyiter hT (wpAny_pure ?_))
  refine wpAny_bind (wpAny_fieldsOf hoi hd ?_)
  simp only [show Builtin.Dict_items.ownsTuple "dict_keyiterator" = false by decide, Bool.false_eq_true, if_false]
  show wpAny _ _ (if (Value.ref d == Value.none) = true then _ else _) _ _ s
  rw [if_neg (show ¬ ((Value.ref d == Value.none) = true) from Bool.false_ne_true)]
  refine wpAny_bind (wpAny_pure (wpAny_bind (wpAny_dictEntries ho hdat ?_)))
  rw [if_neg (by simp)]
  refine wpAny_bind (wpAny_pure (wpAny_bind (wpAny_dictEpoch ho hdat ?_)))
  rw [if_neg (by simp)]
  refine wpAny_pure ?_
  simp only [show ¬ ((es.size : Int) < 0) from by (first | with_reducible exact Mine.zv9 | omega), if_false, Int.toNat_natCast, Array.getElem?_eq_none (Nat.le_refl es.size)]
  refine wpAny_bind ?_
  first | refine wpAny_bind (wpAny_typeNameOfWhole_keyiter hT (wpAny_pure ?_)) | refine wpAny_bind (wpAny_typeNameOf_keyiter hT (wpAny_pure ?_))
  show wpAny _ _ (setField (.ref it) 0 .none >>= _) _ _ s
  refine wpAny_bind (wpAny_setField hoi hd (by simp) ?_)
  show wpAny _ _ (newExc (.type "StopIteration") [] >>= _) _ _ _
  refine wpAny_bind ?_
  simp only [newExc, newTuple]
  refine wpAny_bind (wpAny_newObj_type ?_ (by size_fits))
  refine wpAny_bind (m := firstArgMember _ _) (wpAny_of_eq (a := Value.none) (by first | rfl | (simp only [firstArgMember]; rfl)) ?_)
  refine wpAny_newObj_type ?_ (by size_fits)
  simp only [raiseNew]
  refine wpAny_bind (wpAny_handled ?_)
  rw [show A.in1.handled = none from hh]
  refine wpAny_bind (wpAny_pure (wpAny_throw ?_))
  refine wpAny_bind (wpAny_isInstance (T := "StopIteration") (b := true) ⟨_, Heap.get?_push_size _ rfl, rfl⟩ isSubtype_stop ?_)
  exact wpAny_pure (hQ _ (((Heap.SameBut.update ..).extBut.push _).push _))

theorem keyiter_self {it d : Addr} {i n ep : Nat} {Q : Value → Shared → Prop} (hit : s.heap.IsKeyIter it d i n ep) (q : Q (.ref it) s) : wpAny (model prog w) A (pyIter (.ref it)) Q E s := wpAny_pyIter_keyiter hit q

theorem keys_walk (hh : A.handled = none) (it d : Addr) (hne : d ≠ it) (o : Obj) (es : Array DictEntry) (ep : Nat) (hdat : o.data = .dict es ep) :
    Walks prog w A it [it, d] [it] es.size (fun i v => ∃ e, es[i]? = some e ∧ v = e.key) (fun i h => h.IsKeyIter it d i es.size ep ∧ h.get? d = some o) where
  sub := fun b hb => by simp at hb; simp [hb]
  frame := fun i h h' st hk => ⟨let ⟨oi, hoi, r⟩ := st.1; ⟨oi, hk it (by simp) oi hoi, r⟩, hk d (by simp) o st.2⟩
  item := fun i s Q E hi st hQ => keys_next st.1 st.2 hdat hi fun h' hit' hs => hQ _ h' s.toks ⟨es[i], by simp [hi], rfl⟩ ⟨hit', (hs.2 d hne).trans st.2⟩ fun b ob hb e => (hs.2 b (by simpa using hb)).trans e
  done := fun s Q E st hQ => keys_end hh st.1 st.2 hdat fun h' he => hQ h' s.toks fun b ob hb e => he b ob (by simpa using hb) e
  self := fun i s Q E st hQ => keyiter_self st.1 hQ

theorem keys_src {d : Addr} (o : Obj) (es : Array DictEntry) (ep : Nat) (lo : (d == sysModules) = false) (hc : o.ExactDict) (hdat : o.data = .dict es ep) :
    KdlSrc prog w "dict" d d es.size (fun i v => ∃ e, es[i]? = some e ∧ v = e.key) (fun h => h.get? d = some o) where
  type := fun s ho => ⟨o, ho, hc.1⟩
  there := fun w0 ho => ⟨Heap.lt_size ho, Heap.lt_size ho⟩
  keep := fun w0 w0 ho hk => hk d (.inl rfl) o ho
  notList := by decide
  notTuple := by decide
  hint := fun A E s Q ho hq => kdl_hint_dict ⟨o, ho, hc.1⟩ hq
  iter := fun A s hh ho => ⟨_, _, (fun w0 w0 hq => keys_iter lo ho hc hdat hq), keys_walk hh _ d (Nat.ne_of_lt (Heap.lt_size ho)) o es ep hdat, ⟨⟨_, Heap.get?_push_size _ rfl, rfl, rfl⟩, Heap.get?_push_of_some _ ho⟩⟩
end
end Mine

namespace Mine
section
variable {g : Gr} {k : Nat} {env : Env} {ρ : Vars} {st : Store} {P : Params}
theorem collect_keys {prog : Program} {w : World} {A : Around} {E : Value → Shared → Prop} {s : Shared} {d : Addr} {o : Obj} {es : Array DictEntry} {ep : Nat} {Q : List Value → Shared → Prop} (hh : A.handled = none) (ho : s.heap.get? d = some o) (lo : (d == sysModules) = false) (hc : o.ExactDict) (hdat : o.data = .dict es ep) (hl : es.size ≤ sizeLine)
    (q : ∀ h' tk, (∀ b o, s.heap.get? b = some o → h'.get? b = some o) → Q (es.toList.map (·.key)) { s with heap := h', toks := tk }) : wpAny (model prog w) A (collect (.ref d)) Q E s := by
  refine kdu_collect (keys_src o es ep lo hc hdat) hh ho hl fun h1 tk acc hk hacc => ?_
  have hacc' : acc.toList = es.toList.map (·.key) := by
    refine List.ext_getElem? fun j => ?_
    rw [List.getElem?_map, Array.getElem?_toList, Array.getElem?_toList]
    cases e : acc[j]? with
    | none =>
      have : es.size ≤ j := by rw [← hacc.1]; exact Array.getElem?_eq_none_iff.mp e
      rw [Array.getElem?_eq_none this]; rfl
    | some v =>
      obtain ⟨en, h1, rfl⟩ := hacc.2 j v e
      rw [h1]; rfl
  rw [hacc']
  exact q h1 tk hk
theorem rep_tdic {S : Fz} {v : Value} {ps : List (Int × Int)} (r : Rep g S v (.tdic ps)) : ∃ (a : Addr) (o : Obj) (es : Array DictEntry) (ep : Nat), v = .ref a ∧ S a = some o ∧ o.ExactDict ∧ o.data = .dict es ep ∧ (a == sysModules) = false ∧ RdAll S (es.toList.map (·.key)) (prsL ps) := by
  obtain ⟨a, o, es, ep, e, h1, h2, h3, h4, h5⟩ := r
  exact ⟨a, o, es, ep, e, h1, h2, h3, h4, h5⟩
theorem ca_sortedT {ps : List (Int × Int)} {Q : D → Store → Prop} (hok : SortOk ps) (q : Q (.dat (.list (prsL (sortP ps)))) st) : CaJ g k (.builtin "sorted") [.tdic ps] st Q := by
  intro A S s vs Lv' M r0
  obtain ⟨v, rfl, r1⟩ := repAll_one r0
  obtain ⟨d, o, es, ep, rfl, hSd, hc, hdat, lo, hrd⟩ := rep_tdic r1
  have hz := hok.1
  have hlen : es.size = ps.length := by
    have := hrd.length
    unfold prsL at this
    rw [List.length_map, List.length_map, Array.length_toList] at this; exact this
  refine Calls.call_function_entry kind_sorted plain_sorted entry_sorted (args_sorted1 _) ?_
  unfold Builtin.«sorted»
  refine wpAny_bind (m := checkCount "sorted" 1 1 _) (wpAny_pure ?_)
  refine wpAny_bind (collect_keys (A := A.in1) Lv'.1 (M.sub _ _ hSd) lo hc hdat (by rw [sizeLine_eq]; (first | with_reducible exact Nat.le_trans (Nat.le_of_eq (by assumption)) (Nat.le_trans (by assumption) (by decide)) | omega)) fun h1 tk hk => ?_)
  refine wpAny_bind (wpAny_newList ?_ (by rw [List.length_map, Array.length_toList, sizeLine_eq]; (first | with_reducible exact Nat.le_trans (Nat.le_of_eq (by assumption)) (Nat.le_trans (by assumption) (by decide)) | omega)))
  have hoL : (h1.push (Lo (es.toList.map (·.key)) 0)).get? h1.objs.size = some (Lo (es.toList.map (·.key)) 0) := Heap.get?_push_size _ rfl
  have keep : ∀ b o, s.heap.get? b = some o → (h1.push (Lo (es.toList.map (·.key)) 0)).get? b = some o := fun b o e => Heap.get?_push_of_some _ (hk b o e)
  have fresh1 : s.heap.get? h1.objs.size = none := by
    cases e : s.heap.get? h1.objs.size with
    | none => rfl
    | some o' => exact absurd (Heap.lt_size (hk _ _ e)) (Nat.lt_irrefl _)
  refine wpAny_bind (wpAny_holding (wpAny_call_entry slot_list_sort ⟨_, hoL, rfl⟩ entry_list_sort ?_ (args_list_sort _)))
  refine sort_new (S := S) (s := { s with heap := h1.push (Lo (es.toList.map (·.key)) 0), toks := tk }) (fun b o e => ⟨keep b o (M.sub b o e), fun hb => ?_⟩) hrd hoL hok fun h' e us g1 g2 g3 => ⟨_, rfl, wpAny_pure ⟨_, rfl, ?_⟩⟩
  · subst hb; have := M.sub _ o e; rw [fresh1] at this; cases this
  · have hkeep : ∀ b o, s.heap.get? b = some o → h'.get? b = some o := fun b o e => g3 b o (by rintro rfl; rw [fresh1] at e; cases e) (keep b o e)
    have X0 : Ext g NoW S st s S st { s with heap := h', toks := tk } := ext_all (tk := tk) M hkeep
    obtain ⟨o1, o2⟩ := fresh_off M fresh1
    obtain ⟨S'', X1, k1, k2, _⟩ := ext_take X0 fresh1 o1 o2 g1
    exact ⟨S'', st, .dat (.list (prsL (sortP ps))), X1, Rd.list k1 (g2.mono k2), q⟩
end
end Mine

namespace Mine
section
variable {g : Gr} {k : Nat} {env : Env} {ρ : Vars} {st : Store} {P : Params}

theorem ex_freeze {x : Str} {a : Addr} {xs : List PyData} {cs : List Stmt} {Q : Fl → Vars → Store → Prop} (hx : ρ x = some (.cell a)) (h : st a = some xs) (e : ExJ g k env (ρ.set x (.dat (.list xs))) cs (st.del a) Q) : ExJ g k env ρ cs st Q := by
  intro A S s L M E
  obtain ⟨S', X, r⟩ := freeze M h
  have E1 := E.ext X no_nw
  obtain ⟨m, cm, h1, h2, h3⟩ := E1.ex
  have E2 : EnvM g S' (st.del a) env (ρ.set x (.dat (.list xs))) s.heap := ⟨E1.fn, E1.glob, E1.blt, ⟨m, cm, h1, h2, fun y d hy => by
    by_cases hyx : y = x
    · subst hyx
      have hd : D.dat (.list xs) = d := by simpa [Vars.set] using hy
      subst hd
      obtain ⟨v, k1, k2⟩ := h3 y _ hx
      have hv : v = .ref a := k1
      subst hv
      exact ⟨_, r, k2⟩
    · exact h3 y d (by simpa [Vars.set, hyx] using hy)⟩, E1.off, E1.apart, E1.lc⟩
  exact wpAny_mono (e A S' s L X.mod E2) (fun f s' z => z.after (X.wider fun w0 f => f.elim)) fun w0 w0 z => z

noncomputable def rowD (p : Int × Int) : PyData := .tuple [.list [], .int p.1, .int p.2]
noncomputable def minOf (b : Option Int) (x : Int) : Int := match b with
  | none => x
  | some y => min y x
noncomputable def minsGo : List (Int × Int) → Option Int → List Int
  | [], _ => []
  | p :: l, b => minOf b p.1 :: minsGo l (some (minOf b p.1))
noncomputable def leasts (rows : List (Int × Int)) : List Int := (minsGo rows.reverse none).reverse
noncomputable def cutsGo (L : List Int) : List (Int × Int) → Nat → Int → List Int
  | [], _, _ => []
  | p :: l, i, r => if r ≤ L.getD i 0 then (i : Int) :: cutsGo L l (i + 1) (max r p.2) else cutsGo L l (i + 1) (max r p.2)
noncomputable def cuts (rows : List (Int × Int)) : List Int := cutsGo (leasts rows) rows 0 0
theorem minsGo_cons {p : Int × Int} {l : List (Int × Int)} {b : Option Int} : minsGo (p :: l) b = minOf b p.1 :: minsGo l (some (minOf b p.1)) := rfl
theorem cutsGo_cons {L : List Int} {p : Int × Int} {l : List (Int × Int)} {i : Nat} {r : Int} : cutsGo L (p :: l) i r = if r ≤ L.getD i 0 then (i : Int) :: cutsGo L l (i + 1) (max r p.2) else cutsGo L l (i + 1) (max r p.2) := rfl
theorem minsGo_len : ∀ (l : List (Int × Int)) (b : Option Int), (minsGo l b).length = l.length
  | [], _ => rfl
  | p :: l, b => by rw [minsGo_cons, List.length_cons, List.length_cons, minsGo_len l]
theorem leasts_len (rows : List (Int × Int)) : (leasts rows).length = rows.length := by
  unfold leasts; rw [List.length_reverse, minsGo_len, List.length_reverse]

theorem enums_map (rows : List (Int × Int)) : ∀ i, enums i (rows.map rowD) = (List.range rows.length).map fun j => .dat (.tuple [.int ((i + j : Nat) : Int), rowD (rows.getD j (0, 0))]) := by
  induction rows with
  | nil => intro i; rfl
  | cons p l ih =>
    intro i
    rw [List.map_cons, List.length_cons, List.range_succ_eq_map, List.map_cons, List.map_map]
    show D.dat (.tuple [.int (i : Int), rowD p]) :: enums (i + 1) (l.map rowD) = _
    rw [ih (i + 1)]
    refine congrArg (List.cons _) ?_
    refine congrFun (congrArg List.map (funext fun j => ?_)) _
    show D.dat (.tuple [.int ((i + 1 + j : Nat) : Int), rowD (l.getD j (0, 0))]) = D.dat (.tuple [.int ((i + (j + 1) : Nat) : Int), rowD ((p :: l).getD (j + 1) (0, 0))])
    rw [show i + 1 + j = i + (j + 1) by (first | with_reducible exact Mine.za4 | omega), List.getD_cons_succ]

inductive ivN12a (st : Store) (c : Addr) (rows : List (Int × Int)) (ρ1 : Vars) (st1 : Store) : Prop
  | mk (q1 : st1 = st.set c ((minsGo rows.reverse none).map .int)) (q2 : ρ1 "groups" = some (.dat (.list (rows.map rowD)))) (q3 : ρ1 "least" = some (.cell c))
inductive ivN12b (rows : List (Int × Int)) (st : Store) (c : Addr) (rem : List D) (ρ' : Vars) (st' : Store) : Prop
  | mk (rest : List (Int × Int)) (acc : List Int) (b : Option Int) (q1 : rem = rest.map (fun p => .dat (rowD p))) (q2 : acc.length + rest.length ≤ rows.length) (q3 : acc ++ minsGo rest b = minsGo rows.reverse none) (q4 : st' = st.set c (acc.map .int)) (q5 : ρ' "groups" = some (.dat (.list (rows.map rowD)))) (q6 : ρ' "least" = some (.cell c)) (q7 : ρ' "behind" = some (.dat (opD .int b)))
inductive ivN12c (st : Store) (c : Addr) (acc : List Int) (rows : List (Int × Int)) (b : Option Int) (p : Int × Int) (ρ1 : Vars) (st1 : Store) : Prop
  | mk (q1 : st1 = st.set c (acc.map .int)) (q2 : ρ1 "groups" = some (.dat (.list (rows.map rowD)))) (q3 : ρ1 "least" = some (.cell c)) (q4 : ρ1 "behind" = some (.dat (.int (minOf b p.1))))
inductive ivN12d (rows : List (Int × Int)) (st2 : Store) (c2 : Addr) (rem : List D) (ρ' : Vars) (st' : Store) : Prop
  | mk (i : Nat) (acc : List Int) (r : Int) (q1 : i ≤ rows.length) (q2 : rem = ((List.range rows.length).drop i).map (fun j => .dat (.tuple [.int ((0 + j : Nat) : Int), rowD (rows.getD j (0, 0))]))) (q3 : acc.length ≤ i) (q4 : acc ++ cutsGo (leasts rows) (rows.drop i) i r = cuts rows) (q5 : st' = st2.set c2 (acc.map .int)) (q6 : ρ' "least" = some (.dat (iL (leasts rows)))) (q7 : ρ' "cuts" = some (.cell c2)) (q8 : ρ' "reached" = some (.dat (.int r)))
inductive ivN12e (i : Nat) (rows : List (Int × Int)) (r : Int) (p : Int × Int) (st2 : Store) (c2 : Addr) (ρ2 : Vars) (st3 : Store) : Prop
  | mk (acc2 : List Int) (q1 : acc2.length ≤ i + 1) (q2 : acc2 ++ cutsGo (leasts rows) (rows.drop (i + 1)) (i + 1) (max r p.2) = cuts rows) (q3 : st3 = st2.set c2 (acc2.map .int)) (q4 : ρ2 "least" = some (.dat (iL (leasts rows)))) (q5 : ρ2 "cuts" = some (.cell c2)) (q6 : ρ2 "reached" = some (.dat (.int r))) (q7 : ρ2 "end" = some (.dat (.int p.2)))
theorem c_cuts (T : Tx g P) {rows : List (Int × Int)} {Q : D → Store → Prop} (hl : rows.length ≤ 1000) (q : Q (.dat (iL (cuts rows))) st) : CaJ g (k + 1) (.ref 47) [.dat (.list (rows.map rowD))] st Q := by
  refine ca_freeze ?_
  refine ca_own T.K ["groups"] rfl (fun L a => ?_) rfl (hb1 fun w0 => rfl) (fun w0 => rfl) ⟨rfl, rfl, rfl, rfl, rfl, rfl⟩
  refine ex_cons <| sm_swap2 (.inl rfl) (.inl rfl) <| evs_cons <| ev_listC <| evs_nil ⟨[], rfl, sm rfl, fun c hc => ?_⟩
  refine evs_cons <| ev_none <| evs_nil ⟨_, _, rfl, ?_⟩
  refine ex_cut (ivN12a st c rows)
    (sm_for <| it_list (ht := .inr ⟨_, _, _, rfl⟩) <| ev_rev <| ev_name rfl <| pt_some <| ev_neg1 ⟨_, rfl, rows.map rowD, rfl, .dat, len_map hl, rows.reverse.map fun p => .dat (rowD p), [], .inl ⟨_, rfl, rfl, by simp⟩, ?_⟩) ?_
  · refine ⟨ivN12b rows st c, ?_, ?_, ?_⟩
    · exact ⟨rows.reverse, [], none, rfl, by simp, rfl, rfl, rfl, rfl, rfl⟩
    · rintro x rem ρ' st' ⟨rest, acc, b, e, hln, h1, rfl, h2, h3, h4⟩
      cases rest with
      | nil => cases e
      | cons p rest =>
        injection e with e1 e2
        subst e1 e2
        rw [List.length_cons] at hln
        rw [minsGo_cons] at h1
        refine as_tuple <| ass_cons (as_name (Wr.own (.inl rfl)) <| ass_cons (as_name (Wr.own (.inl rfl)) <| ass_cons (as_name (Wr.own (.inl rfl)) <| ass_nil ?_)))
        refine ex_cut (ivN12c st c acc rows b p) (sm_assign (.inl rfl) <| ev_ifexp <| tr_cmp <| ev_name h4 <| ev_none <| cm_is_none ?_) ?_
        · cases b with
          | none => exact ite_t rfl <| ev_name rfl ⟨rfl, h2, h3, rfl⟩
          | some y => exact ite_f rfl <| ev_call T.min okB <| evs_cons <| ev_name h4 <| evs_cons <| ev_name rfl <| evs_nil <| ca_min2 ⟨rfl, h2, h3, rfl⟩
        rintro ρ1 st1 ⟨rfl, k2, k3, k4⟩
        refine ex_cons <| sm_append k3 (Store.set_same ..) <| ev_name k4 ⟨_, _, rfl, Store.set_same .., by rw [List.length_map]; (first | with_reducible exact Mine.za7 (by assumption) (by assumption) (by decide) | omega), ?_⟩
        refine ex_nil ⟨⟨rest, acc ++ [minOf b p.1], some (minOf b p.1), rfl, by simp; (first | with_reducible exact Mine.za1 (by assumption) | omega), by rw [List.append_assoc]; exact h1, ?_, k2, k3, k4⟩, fun w0 h => nomatch h⟩
        rw [Store.set_set, List.map_append]; rfl
    · rintro ρ' st' ⟨rest, acc, b, e, hln, h1, rfl, h2, h3, h4⟩
      cases rest with
      | cons p rest => cases e
      | nil =>
        have e' : acc = minsGo rows.reverse none := by
          have : minsGo [] b = [] := rfl
          rw [this, List.append_nil] at h1; exact h1
        subst e'
        exact ⟨rfl, h2, h3⟩
  rintro ρ1 st1 ⟨rfl, h2, h3⟩
  refine ex_cons <| sm_assign (.inl rfl) <| ev_rev <| ev_name h3 <| pt_some <| ev_neg1 ⟨_, rfl, (minsGo rows.reverse none).map .int, rfl, .inr ⟨c, rfl, Store.set_same ..⟩, by rw [List.length_map, minsGo_len, List.length_reverse]; (first | with_reducible exact Nat.le_trans (by assumption) (by decide) | omega), ?_⟩
  rw [← List.map_reverse, show (PyData.list ((minsGo rows.reverse none).reverse.map .int)) = iL (leasts rows) from rfl]
  generalize hst : st.set c ((minsGo rows.reverse none).map .int) = st2
  have hle : StLe st st2 := by rw [← hst]; exact (StLe.refl st).setN _ hc
  refine ex_cons <| sm_swap2 (.inl rfl) (.inl rfl) <| evs_cons <| ev_listC <| evs_nil ⟨[], rfl, sm rfl, fun c2 hc2 => ?_⟩
  refine evs_cons <| ev_int <| evs_nil ⟨_, _, rfl, ?_⟩
  have hLl := leasts_len rows
  refine ex_cons <| sm_for <| it_enum T.enumerate <| ev_name h2 ⟨rows.map rowD, [], .inl ⟨_, rfl, rfl, rfl⟩, ?_⟩
  rw [enums_map]
  refine ⟨ivN12d rows st2 c2, ?_, ?_, ?_⟩
  · exact ⟨0, [], 0, by (first | with_reducible exact Nat.zero_le _ | omega), rfl, by simp, rfl, rfl, rfl, rfl, rfl⟩
  · rintro x rem ρ' st' ⟨i, acc, r, hi, e, hln, h1, rfl, k1, k2, k3⟩
    have hil : i < rows.length := by
      rcases Nat.lt_or_ge i rows.length with h | h
      · exact h
      · rw [List.drop_eq_nil_of_le (by simpa using h)] at e; cases e
    rw [List.drop_eq_getElem_cons (by simpa using hil), List.getElem_range] at e
    injection e with e1 e2
    subst e1 e2
    have hp : rows.getD i (0, 0) = rows[i] := getD_lt hil
    rw [List.drop_eq_getElem_cons hil, cutsGo_cons, ← hp] at h1
    obtain ⟨p, hpe⟩ : ∃ p, p = rows.getD i (0, 0) := ⟨_, rfl⟩
    rw [← hpe] at h1
    have hiL : i < (leasts rows).length := by (first | with_reducible exact Mine.zu3 (by assumption) (by assumption) | omega)
    refine as_tuple <| ass_cons (as_name (Wr.own (.inl rfl)) <| ass_cons (as_tuple <| ass_cons (as_name (Wr.own (.inl rfl)) <| ass_cons (as_name (Wr.own (.inl rfl)) <| ass_cons (as_name (Wr.own (.inl rfl)) <| ass_nil (ass_nil ?_))))) )
    have h0 : (0 + i : Nat) = i := Nat.zero_add i
    rw [h0]
    have hget : PickOk ((leasts rows).map PyData.int) (i : Int) (.int ((leasts rows).getD i 0)) := .map (f := PyData.int) rfl (by rw [List.getD_eq_getElem?_getD, List.getElem?_eq_getElem hiL]; rfl) (by rw [hLl]; exact hl)
    refine ex_cut (ivN12e i rows r p st2 c2)
      (sm_if <| tr_cmp <| ev_name k3 <| ev_item <| ev_name k1 <| ev_name rfl ⟨_, _, _, .dat, rfl, hget, cm_le ?_⟩) ?_
    · by_cases hr : r ≤ (leasts rows).getD i 0
      · rw [if_pos hr] at h1
        refine ite_t (decide_eq_true hr) <| ex_cons <| sm_append k2 (Store.set_same ..) <| ev_name rfl ⟨_, _, rfl, Store.set_same .., by rw [List.length_map]; (first | with_reducible exact Nat.le_trans (by assumption) (Nat.le_trans (by assumption) (Nat.le_trans (by assumption) (by decide))) | omega), ?_⟩
        rw [Store.set_set, show acc.map PyData.int ++ [.int (i : Int)] = (acc ++ [(i : Int)]).map .int by rw [List.map_append]; rfl]
        exact ex_nil ⟨acc ++ [(i : Int)], by simp; (first | with_reducible assumption | omega), by rw [List.append_assoc]; exact h1, rfl, k1, k2, k3, by rw [hpe]; rfl⟩
      · rw [if_neg hr] at h1
        exact ite_f (decide_eq_false hr) <| ex_nil ⟨acc, by (first | with_reducible exact Nat.le_succ_of_le (by assumption) | omega), h1, rfl, k1, k2, k3, by rw [hpe]; rfl⟩
    rintro ρ2 st3 ⟨acc2, b1, b2, rfl, b3, b4, b5, b6⟩
    exact ex_cons <| sm_assign (.inl rfl) <| ev_call T.max okB <| evs_cons <| ev_name b5 <| evs_cons <| ev_name b6 <| evs_nil <| ca_max2 <| ex_nil ⟨⟨i + 1, acc2, max r p.2, hil, rfl, b1, b2, rfl, b3, b4, rfl⟩, fun w0 h => nomatch h⟩
  · rintro ρ' st' ⟨i, acc, r, hi, e, hln, h1, rfl, k1, k2, k3⟩
    have hil : rows.length ≤ i := by
      rcases Nat.lt_or_ge i rows.length with h | h
      · rw [List.drop_eq_getElem_cons (by simpa using h)] at e; cases e
      · exact h
    have e' : acc = cuts rows := by
      rw [List.drop_eq_nil_of_le hil] at h1
      simpa [cutsGo] using h1
    subst e'
    have hst2 : st c2 = none := by
      cases e2 : st c2 with
      | none => rfl
      | some ys => rw [hle _ _ e2] at hc2; cases hc2
    exact ex_cons <| sm_return <| ev_name k2 ⟨st.set c2 ((cuts rows).map .int), hle.set _ _, c2, _, rfl, Store.set_same .., by rw [Store.del_set _ _ hst2]; exact q⟩
end
end Mine

namespace Mine
section
variable {g : Gr} {k : Nat} {env : Env} {ρ : Vars} {st : Store} {P : Params}

theorem c_drawS (T : Tx g P) {w : Addr} {xs : List PyData} {below : Int} {Q : D → Store → Prop} (hw : WellOk xs) (hb : 0 < below)
    (q : ∀ r ys, 0 ≤ r → r < below → WellOk ys → Q (.dat (.int r)) (st.set w ys)) : CaJ g (k + 1) (.ref 113) [.cell w, .dat (.int below)] (st.set w xs) Q :=
  c_draw T (Store.set_same ..) hw hb fun r ys h1 h2 h3 => by rw [Store.set_set]; exact q r ys h1 h2 h3

inductive kW3 (F : PyData → Prop) (st : Store) (w : Addr) (d : D) (st4 : Store) : Prop
  | mk (p : PyData) (ys' : List PyData) (h : d = .dat p) (hF : F p) (hs : st4 = st.set w ys') (hw : WellOk ys')
noncomputable abbrev kW2 (g : Gr) (k : Nat) (ce : Env) (elt : Expr) (F : PyData → Prop) (st : Store) (w : Addr) : PV := fun ρ1 st2 => EvJ g k ce ρ1 elt st2 (kW3 F st w)
inductive kW (g : Gr) (k : Nat) (env : Env) (ρ : Vars) (scope : Scope) (target elt : Expr) (F : PyData → Prop) (st : Store) (w : Addr) (Q : PE) (ds : List D) (src : List Addr) (st1 : Store) : Prop
  | mk (h0 : src = []) (n : Nat) (xs : List PyData) (h1 : ds = numsD 0 n) (hn : n ≤ 1000) (h2 : st1 = st.set w xs) (hw : WellOk xs)
      (hx : ∀ C i ys, WellOk ys → AsJ g k (fun a => a = C) (compEnvC scope (clOf scope env) C env) (compVars scope ρ) target (.dat (.int i)) (st.set w ys) (kW2 g k (compEnvC scope (clOf scope env) C env) elt F st w))
      (q : ∀ (ps : List PyData) ys, ps.length = n → (∀ p ∈ ps, F p) → WellOk ys → Q (.dat (.list ps)) (st.set w ys))
inductive ivN13a (n : Nat) (F : PyData → Prop) (st : Store) (w : Addr) (rem : List D) (acc : List D) (st' : Store) : Prop
  | mk (i : Int) (m : Nat) (ps : List PyData) (ys : List PyData) (q1 : rem = numsD i m) (q2 : ps.length + m = n) (q3 : acc = ps.map D.dat) (q4 : (∀ p ∈ ps, F p)) (q5 : st' = st.set w ys) (q6 : WellOk ys)
theorem comp_w {w : Addr} {F : PyData → Prop} {elt target iter : Expr} {scope : Scope} {Q : D → Store → Prop} {st0 : Store}
    (h : ItJ g k env ρ iter target st0 (kW g k env ρ scope target elt F st w Q)) : ItJ g k env ρ iter target st0 (kComp g k env ρ scope target elt [] Q) := by
  refine fun A S s L M E => wpAny_mono (h A S s L M E) (fun xv s1 y => wpAny_mono y (fun it s2 z => ?_) fun w0 w0 x => x) fun w0 w0 x => x
  obtain ⟨S', st1, fp, src, tg, R, ds, h1, h2, h3, h4, h5, rfl, n, xs, rfl, hn, rfl, hw, hx, hq⟩ := z
  refine ⟨S', _, fp, [], tg, R, _, h1, h2, h3, h4, h5, ivN13a n F st w, ?_, ?_, ?_⟩
  · exact ⟨0, n, [], xs, rfl, by simp, rfl, fun w0 h => (nomatch h), rfl, hw⟩
  · rintro C x rem acc st' ⟨i, m, ps, ys, e, hl, rfl, hF, rfl, hy⟩
    obtain ⟨m', rfl, rfl, rfl⟩ := numsD_cons e
    intro A S s v L M E r
    refine wpAny_mono (hx C i ys hy A S s v L M E r) (fun w0 s' z => ?_) fun w0 w0 x => x
    obtain ⟨S2, st2, ρ', X2, E2, q2⟩ := z
    refine ⟨S2, st2, ρ', X2, E2, ifs_nil <| ite_t rfl <| q2.mono fun d st4 z => ?_⟩
    obtain ⟨p, ys', rfl, hp, rfl, hy'⟩ := z
    refine ⟨by rw [List.length_map]; (first | with_reducible exact Mine.za9 (by assumption) (by assumption) (by decide) | omega), ⟨i + 1, m', ps ++ [p], ys', rfl, by rw [List.length_append]; simp; (first | with_reducible exact Mine.za3 (by assumption) | omega), by simp, fun z hz => ?_, rfl, hy'⟩, fun w0 h => nomatch h⟩
    rcases List.mem_append.mp hz with hz | hz
    · exact hF z hz
    · rw [List.mem_singleton] at hz; subst hz; exact hp
  · rintro acc st' ⟨i, m, ps, ys, e, hl, rfl, hF, rfl, hy⟩
    have := numsD_nil e
    exact .inl ⟨ps, rfl, hq ps ys (by (first | with_reducible exact Mine.za11 (by assumption) (by assumption) | omega)) hF hy⟩

theorem ints_of {ps : List PyData} (h : ∀ p ∈ ps, ∃ i : Int, p = .int i) : ∃ l : List Int, ps = l.map .int := by
  induction ps with
  | nil => exact ⟨[], rfl⟩
  | cons p ps ih =>
    obtain ⟨i, rfl⟩ := h p (.head _)
    obtain ⟨l, rfl⟩ := ih fun q hq => h q (.tail _ hq)
    exact ⟨i :: l, rfl⟩
theorem lists_of {n : Nat} {ps : List PyData} (h : ∀ p ∈ ps, ∃ l : List Int, p = iL l ∧ l.length ≤ n) : ∃ lv : List (List Int), ps = lv.map iL ∧ ∀ l ∈ lv, l.length ≤ n := by
  induction ps with
  | nil => exact ⟨[], rfl, fun w0 h => nomatch h⟩
  | cons p ps ih =>
    obtain ⟨l, rfl, hl⟩ := h p (.head _)
    obtain ⟨lv, rfl, hlv⟩ := ih fun q hq => h q (.tail _ hq)
    refine ⟨l :: lv, rfl, fun z hz => ?_⟩
    rcases List.mem_cons.mp hz with rfl | hz
    · exact hl
    · exact hlv z hz

theorem c_weights (T : Tx g P) {w : Addr} {xs : List PyData} {d : Nat} (hw : WellOk xs) (hd0 : 1 ≤ d) (hd1 : d ≤ 3) {Q : D → Store → Prop} (q : ∀ (lv : List (List Int)) ys, lv.length = d → (∀ l ∈ lv, l.length ≤ 3) → WellOk ys → Q (.dat (lvD lv)) (st.set w ys)) :
    CaJ g (k + 2) (.ref 118) [.cell w, .dat (.int d)] (st.set w xs) Q := by
  refine ca_own T.K ["well", "depth"] rfl (fun L a => ?_) rfl (hb2 fun w0 w0 => rfl) (fun w0 => rfl) ⟨rfl, rfl, rfl, rfl, rfl, rfl⟩
  refine ex_cons <| sm_comp (.inl rfl) <| comp_w (F := fun p => ∃ l, p = iL l ∧ l.length ≤ 3) <| it_range1 T.range <| ev_name rfl ⟨d, rfl, .nat (by (first | with_reducible exact Nat.le_trans (by assumption) (by decide) | omega)), rfl, d, xs, rfl, by (first | with_reducible exact Nat.le_trans (by assumption) (by decide) | omega), rfl, hw, fun C i ys hy => ?_, fun ps ys hl hF hy => ?_⟩
  · refine as_name (.inl ⟨rfl, rfl⟩) <| ev_comp <| comp_w (F := fun p => ∃ i : Int, p = .int i) <| it_range1 T.range <| ev_call (T.nm (v := .ref 113)) T.ok <| evs_cons <| ev_name rfl <| evs_cons <| ev_int <| evs_nil <| c_drawS T hy (by decide) fun r ys1 h1 h2 hy1 => ⟨r, rfl, ⟨by omega, by (first | with_reducible exact Mine.zy13 (by assumption) (by decide) | omega)⟩, rfl, r.toNat, ys1, rfl, by (first | with_reducible exact Mine.zi9 (by assumption) (by assumption) (by decide) | omega), rfl, hy1, fun C' i' ys2 hy2 => ?_, fun ps ys3 hl hF hy3 => ?_⟩
    · exact as_name (.inl ⟨rfl, rfl⟩) <| ev_bin <| ev_int <| ev_call (T.nm (v := .ref 113)) T.ok <| evs_cons <| ev_name rfl <| evs_cons <| ev_int <| evs_nil <| c_drawS T hy2 (by decide) fun r ys' w0 w0 hy' => op_add_int ⟨_, ys', rfl, ⟨_, rfl⟩, rfl, hy'⟩
    · obtain ⟨l, rfl⟩ := ints_of hF
      rw [List.length_map] at hl
      exact ⟨_, ys3, rfl, ⟨l, rfl, by (first | with_reducible exact Mine.zi10 (by assumption) (by assumption) (by assumption) (by decide) | omega)⟩, rfl, hy3⟩
  obtain ⟨lv, rfl, hlv⟩ := lists_of hF
  rw [List.length_map] at hl
  refine ex_cons <| sm_return <| ev_ifexp <| tr_cmp <| ev_compP (f := fun l => .dat (iL l)) (F := nonE) (xs := lv) <| it_list (ht := .inl ⟨_, _, rfl⟩) <| ev_name rfl ⟨lv.map fun l => .dat (iL l), [], .inl ⟨_, rfl, rfl, maps⟩, rfl, by (first | with_reducible exact Nat.le_trans (Nat.le_of_eq (by assumption)) (Nat.le_trans (by assumption) (by decide)) | omega), fun C l hl => ?_, .inl ?_⟩
  · refine as_name (.inl ⟨rfl, rfl⟩) <| ifs_one <| tr_cmp <| ev_name rfl <| ev_list <| evs_nil ⟨[], rfl, sm rfl, cm_ne .dat .dat (sh_iL l).ok (sh_iL []).ok ?_⟩
    rw [iL_nil, eqv_iL]
    by_cases h : l = []
    · subst h; exact ite_f rfl ⟨rfl, rfl⟩
    · exact ite_t (by rw [decide_eq_false h]; rfl) (ev_name rfl ⟨rfl, _, rfl, if_neg h⟩)
  refine ev_list <| evs_nil ⟨[], rfl, sm rfl, cm_ne .dat .dat ?_ (sh_iL []).ok ?_⟩
  · rw [filterMap_nonE]; exact (sh_lvD _).ok
  rw [eqv_nil, nonE_empty]
  cases hi : idle lv with
  | false => exact ite_t rfl <| ev_name rfl ⟨_, .refl _, q lv ys hl hlv hy⟩
  | true =>
    refine ite_f rfl <| ev_bin <| ev_list <| evs_cons <| ev_list <| evs_cons <| ev_int <| evs_nil ⟨[.int 1], rfl, sm rfl, evs_nil ⟨[iL [1]], rfl, sm rfl, ev_slice <| ev_name rfl <| pt_some <| ev_int ⟨1, rfl, pt_none ⟨lv.map iL, .dat, by rw [List.length_map]; (first | with_reducible exact Nat.le_trans (Nat.le_of_eq (by assumption)) (Nat.le_trans (by assumption) (by decide)) | omega), op_add_list .dat .dat ?_ ⟨_, .refl _, ?_⟩⟩⟩⟩⟩
    · simp [Option.elim]; omega
    · have h1 : clipAt (lv.map iL).length 1 = 1 := clip_eq (i := 1) (by rw [List.length_map]; (first | with_reducible exact Mine.zv4 (by assumption) (by assumption) | omega))
      simp only [Option.elim, h1]
      rw [List.take_of_length_le (by rw [List.length_drop]; exact Nat.le_refl _)]
      rw [← List.map_drop]
      exact q ([1] :: lv.drop 1) ys (by simp; omega) (fun l hl => by
        rcases List.mem_cons.mp hl with rfl | hl
        · decide
        · exact hlv l (List.mem_of_mem_drop hl)) hy
end
end Mine

namespace Mine
section
variable {g : Gr} {k : Nat} {env : Env} {ρ : Vars} {st : Store} {P : Params}

noncomputable def Runs : Int → List Pc → Int → Prop
  | x, [], y => x = y
  | x, p :: r, y => p.a = x ∧ p.a < p.b ∧ Runs p.b r y
theorem Runs.snoc {y z : Int} {p : Pc} : ∀ {x : Int} {ps : List Pc}, Runs x ps y → p.a = y → p.a < p.b → p.b = z → Runs x (ps ++ [p]) z
  | x, [], h, h1, h2, h3 => ⟨h1.trans (Eq.symm h), h2, h3⟩
  | x, q :: r, h, h1, h2, h3 => ⟨h.1, h.2.1, Runs.snoc h.2.2 h1 h2 h3⟩

theorem Store.swapW (st : Store) {c w : Addr} (A B : List PyData) (ys : List PyData) (h : c ≠ w) : ((st.set c A).set w ys).set c B = (st.set c B).set w ys := by
  rw [Store.set_comm _ _ _ (Ne.symm h), Store.set_set]
theorem Store.swapD (st : Store) {c w : Addr} (A : List PyData) (ys : List PyData) (h : c ≠ w) (hc : st c = none) : ((st.set c A).set w ys).del c = st.set w ys := by
  rw [Store.del_comm _ _ (Ne.symm h), Store.del_set _ _ hc]

inductive ivN14a (n : Nat) (d : Nat) (st : Store) (c : Addr) (w : Addr) (rem : List D) (ρ' : Vars) (st' : Store) : Prop
  | mk (i : Int) (m : Nat) (ps : List Pc) (z : Int) (ys : List PyData) (q1 : rem = numsD i m) (q2 : ps.length + m = n) (q3 : (∀ p ∈ ps, p.lv.length = d ∧ ∀ l ∈ p.lv, l.length ≤ 3)) (q4 : Runs 0 ps z) (q5 : WellOk ys) (q6 : st' = (st.set c (ps.map pcD)).set w ys) (q7 : ρ' "well" = some (.cell w)) (q8 : ρ' "depth" = some (.dat (.int d))) (q9 : ρ' "found" = some (.cell c)) (q10 : ρ' "at" = some (.dat (.int z)))
inductive ivN14b (d : Nat) (st : Store) (c : Addr) (ps : List Pc) (w : Addr) (dd : D) (st' : Store) : Prop
  | mk (lv : List (List Int)) (ys3 : List PyData) (q1 : dd = .dat (lvD lv)) (q2 : lv.length = d) (q3 : (∀ l ∈ lv, l.length ≤ 3)) (q4 : WellOk ys3) (q5 : st' = (st.set c (ps.map pcD)).set w ys3)
theorem c_pieces (T : Tx g P) {w : Addr} {xs : List PyData} {d : Nat} (hw : WellOk xs) (hd0 : 1 ≤ d) (hd1 : d ≤ 3) {Q : D → Store → Prop} (q : ∀ (ps : List Pc) (z : Int) ys, PsOk d ps → 1 ≤ ps.length → ps.length ≤ 9 → Runs 0 ps z → WellOk ys → Q (.dat (.list (ps.map pcD))) (st.set w ys)) :
    CaJ g (k + 3) (.ref 123) [.cell w, .dat (.int d)] (st.set w xs) Q := by
  refine ca_freeze ?_
  refine ca_own T.K ["well", "depth"] rfl (fun L a => ?_) rfl (hb2 fun w0 w0 => rfl) (fun w0 => rfl) ⟨rfl, rfl, rfl, rfl, rfl, rfl⟩
  refine ex_cons <| sm_swap2 (.inl rfl) (.inl rfl) <| evs_cons <| ev_listC <| evs_nil ⟨[], rfl, sm rfl, fun c hc => ?_⟩
  have hcw : c ≠ w := by rintro rfl; rw [Store.set_same] at hc; cases hc
  have hc' : st c = none := by rw [Store.set_ne _ _ hcw] at hc; exact hc
  refine evs_cons <| ev_int <| evs_nil ⟨_, _, rfl, ?_⟩
  rw [Store.set_comm _ _ _ (Ne.symm hcw)]
  refine ex_cons <| sm_for <| it_range1 T.range <| ev_bin <| ev_int <| ev_call (T.nm (v := .ref 113)) T.ok <| evs_cons <| ev_name rfl <| evs_cons <| ev_int <| evs_nil <| c_drawS T hw (by decide) fun r ys r0 r1 hy => op_add_int ⟨_, rfl, ⟨by (first | with_reducible exact Mine.zy16 (by assumption) | omega), by (first | with_reducible exact Mine.zy15 (by assumption) (by decide) | omega)⟩, ?_⟩
  obtain ⟨n, hn⟩ : ∃ n : Nat, n = (1 + r).toNat := ⟨_, rfl⟩
  have hn1 : 1 ≤ n ∧ n ≤ 9 := by omega
  rw [← hn]
  refine ⟨ivN14a n d st c w, ?_, ?_, ?_⟩
  · exact ⟨0, n, [], 0, ys, rfl, by simp, fun w0 h => (nomatch h), rfl, hy, rfl, rfl, rfl, rfl, rfl⟩
  · rintro x rem ρ' st' ⟨i, m, ps, z, ys, e, hl, hps, hr, hy, rfl, h1, h2, h3, h4⟩
    obtain ⟨m', rfl, rfl, rfl⟩ := numsD_cons e
    refine as_name (Wr.own (.inl rfl)) ?_
    refine ex_cons <| sm_assign (.inl rfl) <| ev_bin <| ev_int <| ev_call (T.nm (v := .ref 113)) T.ok <| evs_cons <| ev_name h1 <| evs_cons <| ev_int <| evs_nil <| c_drawS T hy (by decide) fun r1 ys1 a1 a2 hy1 => op_add_int ?_
    refine ex_cons <| sm_assign (.inl rfl) <| ev_cmp <| ev_call (T.nm (v := .ref 113)) T.ok <| evs_cons <| ev_name h1 <| evs_cons <| ev_int <| evs_nil <| c_drawS T hy1 (by decide) fun r2 ys2 b1 b2 hy2 => ev_int <| cm_eq_int ?_
    refine ex_cons <| sm_append (xs0 := ps.map pcD) h3 (by rw [Store.set_ne _ _ hcw, Store.set_same]) <| ev_tuple <| evs_cons <| ev_name h4 <| evs_cons <| ev_bin <| ev_name h4 <| ev_name rfl <| op_add_int <| evs_cons <|
      EvJ.mono (Q := ivN14b d st c ps w) (ev_ifexp <| tr_val <| ev_name rfl ⟨_, rfl, ?_⟩) ?_
    · cases (r2 == 1) with
      | true =>
        refine ite_t rfl <| ev_compP (f := fun i => .dat (.int (i : Nat))) (F := fun w0 => some (iL [])) (xs := List.range d) <| it_range1 T.range <| ev_name h2 ⟨_, rfl, .nat (by (first | with_reducible exact Nat.le_trans (by assumption) (by decide) | omega)), by rw [Int.toNat_natCast, numsD_zero], by rw [List.length_range]; (first | with_reducible exact Nat.le_trans (by assumption) (by decide) | omega), fun C x w0 => ?_, .inl ?_⟩
        · exact as_name (.inl ⟨rfl, rfl⟩) <| ifs_nil <| ite_t rfl <| ev_list <| evs_nil ⟨[], rfl, sm rfl, rfl, _, rfl, rfl⟩
        · rw [filterMap_some]
          refine ⟨(List.range d).map fun w0 => [], ys2, by rw [lvD_eq, List.map_map]; rfl, by simp, fun l hl => ?_, hy2, rfl⟩
          obtain ⟨_, _, rfl⟩ := List.mem_map.mp hl; simp
      | false =>
        exact ite_f rfl <| ev_call (T.nm (v := .ref 118)) T.ok <| evs_cons <| ev_name h1 <| evs_cons <| ev_name h2 <| evs_nil <| c_weights T hy2 hd0 hd1 fun lv ys3 c1 c2 c3 => ⟨lv, ys3, rfl, c1, c2, c3, rfl⟩
    · rintro dd st' ⟨lv, ys3, rfl, c1, c2, hy3, rfl⟩
      refine evs_nil ⟨[.int z, .int (z + (1 + r1)), lvD lv], rfl, by simp, pcD ⟨z, z + (1 + r1), lv⟩, ps.map pcD, rfl, by rw [Store.set_ne _ _ hcw, Store.set_same], by rw [List.length_map]; omega, ?_⟩
      rw [Store.swapW _ _ _ _ hcw]
      refine ex_cons <| sm_assign (.inl rfl) <| ev_bin <| ev_name h4 <| ev_name rfl <| op_add_int <| ex_nil ⟨⟨i + 1, m', ps ++ [⟨z, z + (1 + r1), lv⟩], z + (1 + r1), ys3, rfl, by rw [List.length_append]; simp; (first | with_reducible exact Mine.za3 (by assumption) | omega), fun p hp => ?_, hr.snoc rfl (by show z < z + (1 + r1); omega) rfl, hy3, by rw [List.map_append]; rfl, h1, h2, h3, rfl⟩, fun w0 h => nomatch h⟩
      rcases List.mem_append.mp hp with hp | hp
      · exact hps p hp
      · rw [List.mem_singleton] at hp; subst hp; exact ⟨c1, c2⟩
  · rintro ρ' st' ⟨i, m, ps, z, ys, e, hl, hps, hr, hy, rfl, h1, h2, h3, h4⟩
    have := numsD_nil e
    exact ex_cons <| sm_return <| ev_name h3 ⟨_, .refl _, c, ps.map pcD, rfl, by rw [Store.set_ne _ _ hcw, Store.set_same], by
      rw [Store.swapD _ _ _ hcw hc']
      exact q ps z ys ⟨by omega, fun p hp => (hps p hp).1, fun p hp => (hps p hp).2, hd0, hd1⟩ (by omega) (by omega) hr hy⟩
end
end Mine

namespace Mine

structure RowsOk (rows : List (Int × Int)) : Prop where
  rise : rows.Pairwise fun p q => p.1 < q.1
  pos : ∀ p ∈ rows, 0 ≤ p.1

theorem mins_fall : ∀ (l : List (Int × Int)) (b : Option Int), l.Pairwise (fun p q => q.1 < p.1) → (∀ y, b = some y → ∀ p ∈ l, p.1 ≤ y) → minsGo l b = l.map (·.1)
  | [], _, _, _ => rfl
  | p :: l, b, h, hb => by
    rw [List.pairwise_cons] at h
    have e : minOf b p.1 = p.1 := by
      cases b with
      | none => rfl
      | some y => have := hb y rfl p (.head _); show min y p.1 = p.1; omega
    rw [minsGo_cons, e, mins_fall l (some p.1) h.2 fun y hy q hq => by cases hy; exact Int.le_of_lt (h.1 q hq)]
    rfl
theorem leasts_rise {rows : List (Int × Int)} (h : RowsOk rows) : leasts rows = rows.map (·.1) := by
  unfold leasts
  rw [mins_fall rows.reverse none (List.pairwise_reverse.mpr h.rise) (fun y hy => by cases hy), List.map_reverse, List.reverse_reverse]

noncomputable def condC (rows : List (Int × Int)) (k : Nat) : Bool := (rows.take k).all fun p => decide (p.2 ≤ (rows.getD k (0, 0)).1)
noncomputable def dueC (rows : List (Int × Int)) : List Int := ((List.range rows.length).filter (condC rows)).map fun (k : Nat) => (k : Int)

theorem cutsGo_due {rows : List (Int × Int)} (h : RowsOk rows) : ∀ (m i : Nat) (r : Int), i + m = rows.length → (∀ x : Int, 0 ≤ x → (r ≤ x ↔ ∀ p ∈ rows.take i, p.2 ≤ x)) →
    cutsGo (rows.map (·.1)) (rows.drop i) i r = ((List.range' i m).filter (condC rows)).map fun (k : Nat) => (k : Int) := by
  intro xx
  induction xx with
  | zero =>
    intro i r hm _
    rw [List.drop_eq_nil_of_le (by omega)]; rfl
  | succ m ih =>
    intro i r hm hr
    have hi : i < rows.length := by (first | with_reducible exact Mine.za5 (by assumption) | omega)
    have ih := ih (i + 1) (max r rows[i].2) (by (first | with_reducible exact Mine.za3 (by assumption) | omega)) (fun x hx => by
      rw [List.take_add_one, List.getElem?_eq_getElem hi]
      constructor
      · intro hle p hp
        rcases List.mem_append.mp hp with hp | hp
        · exact (hr x hx).mp (by omega) p hp
        · simp at hp; subst hp; omega
      · intro hall
        have h1 := (hr x hx).mpr fun p hp => hall p (List.mem_append_left _ hp)
        have h2 := hall rows[i] (List.mem_append_right _ (by simp))
        omega)
    have hg : (rows.map (·.1)).getD i 0 = rows[i].1 := by rw [List.getD_eq_getElem?_getD, List.getElem?_map, List.getElem?_eq_getElem hi]; rfl
    have hc : condC rows i = decide (r ≤ rows[i].1) := by
      unfold condC
      rw [getD_lt hi]
      apply Bool.eq_iff_iff.mpr
      rw [List.all_eq_true, decide_eq_true_iff, hr _ (h.pos _ (List.getElem_mem hi))]
      exact ⟨fun x p hp => of_decide_eq_true (x p hp), fun x p hp => decide_eq_true (x p hp)⟩
    rw [List.drop_eq_getElem_cons hi, cutsGo_cons, hg, ih, List.range'_succ]
    by_cases hle : r ≤ rows[i].1
    · rw [if_pos hle, List.filter_cons_of_pos (by rw [hc]; exact decide_eq_true hle)]; rfl
    · rw [if_neg hle, List.filter_cons_of_neg (by rw [hc]; simpa using hle)]

theorem cuts_due {rows : List (Int × Int)} (h : RowsOk rows) : cuts rows = dueC rows := by
  unfold cuts dueC
  rw [leasts_rise h, List.range_eq_range']
  exact cutsGo_due h rows.length 0 0 (by (first | with_reducible exact Nat.zero_add _ | omega)) fun x hx => by simp [hx]
end Mine

namespace Mine
section
variable {g : Gr} {k : Nat} {env : Env} {ρ : Vars} {st : Store} {P : Params}

noncomputable def keepC (rows : List (Int × Int)) (k : Nat) : Option PyData := if condC rows k then some (.int (k : Nat)) else none
theorem keepC_eq (rows : List (Int × Int)) : ∀ l : List Nat, l.filterMap (keepC rows) = ((l.filter (condC rows)).map fun (k : Nat) => (k : Int)).map .int
  | [] => rfl
  | x :: l => by
    have ih := keepC_eq rows l
    cases h : condC rows x with
    | true => rw [List.filterMap_cons_some (f := keepC rows) (b := .int (x : Nat)) (by unfold keepC; rw [h]; rfl), ih, List.filter_cons_of_pos h]; rfl
    | false => rw [List.filterMap_cons_none (f := keepC rows) (by unfold keepC; rw [h]; rfl), ih, List.filter_cons_of_neg (by rw [h]; decide)]

theorem RowsOk.snoc {rows : List (Int × Int)} {z e : Int} (h : RowsOk rows) (h1 : ∀ p ∈ rows, p.1 < z) (h0 : 0 ≤ z) : RowsOk (rows ++ [(z, e)]) :=
  ⟨List.pairwise_append.mpr ⟨h.rise, List.pairwise_singleton _ _, fun p hp q hq => by rw [List.mem_singleton] at hq; subst hq; exact h1 p hp⟩, fun p hp => by
    rcases List.mem_append.mp hp with hp | hp
    · exact h.pos p hp
    · rw [List.mem_singleton] at hp; subst hp; exact h0⟩

inductive kPr (ρ : Vars) (x y : Str) (Q : PS) (ds : List D) (st1 : Store) : Prop
  | mk (d1 d2 : D) (h : ds = [d1, d2]) (q : Q .next ((ρ.set x d1).set y d2) st1)
theorem sm_pair2 {x y : Str} {xp yp tp vp pos : Pos} {kd kd' : Nat} {e1 e2 : Expr} {Q : Fl → Vars → Store → Prop} (hwx : Wr env x) (hwy : Wr env y)
    (h : EvsJ g k env ρ [e1, e2] st (kPr ρ x y Q))
    (hs : swapsWithSole [.Tuple [.Name x xp, .Name y yp] kd tp] (.Tuple [e1, e2] kd' vp) pos.line env = pure false := by rfl)
    (hw : swappedStores [.Tuple [.Name x xp, .Name y yp] kd tp] (.Tuple [e1, e2] kd' vp) env = pure none := by rfl) :
    SmJ g k env ρ (.Assign [.Tuple [.Name x xp, .Name y yp] kd tp] (.Tuple [e1, e2] kd' vp) pos) st Q := by
  intro A S s L M E
  refine Assign_Tuple (Tuple_ (wpAny_mono (h vp A S s L M E) (fun vs s1 z => ?_) fun w0 w0 x => x)) hs hw
  obtain ⟨S1, st1, ds, X1, r1, d1, d2, rfl, q⟩ := z
  obtain ⟨S2, X2, hn⟩ := ext_push X1.mod (To vs 0) rfl
  refine wpAny_newObj_type ?_ (by show vs.toArray.size ≤ sizeLine; rw [List.size_toArray, r1.length]; exact sizeLine_big (by simp))
  have ht := to_isTup (X2.mod.sub _ _ hn)
  obtain ⟨v1, v2, hv, ra, rb⟩ := repAll_two r1
  subst hv
  refine assign_Tuple_tuple (items := #[v1, v2]) L.1 ht rfl rfl fun h' he => ?_
  have hk : ∀ b o, (s1.heap.push (To [v1, v2] 0)).get? b = some o → h'.get? b = some o := fun b o e => he b o (Nat.ne_of_lt (Heap.lt_size e)) e
  have X3 : Ext g NoW S2 st1 { s1 with heap := s1.heap.push (To [v1, v2] 0) } S2 st1 { s1 with heap := h' } := ext_all (tk := s1.toks) X2.mod hk
  have X13 := (X1.trans X2).trans X3
  have E3 := E.ext X13 no_nw
  show wpAny _ _ (assignInOrder [assign (.Name x xp) env, assign (.Name y yp) env] [v1, v2]) _ _ _
  refine assignInOrder_cons (wpAny_assign_Name (store_var X3.mod E3 hwx.own (ra.mono X2.ext) fun s4 X4 E4 => ?_))
  refine assignInOrder_cons (wpAny_assign_Name (store_var X4.mod E4 hwy.own (rb.mono X2.ext) fun s5 X5 E5 => ?_))
  refine assignInOrder_nil ?_
  exact ⟨S2, st1, _, .next, ((X13.wider fun w0 f => f.elim).trans X4).trans X5, E5, trivial, q⟩

inductive ivN15a (st : Store) (c : Addr) (w : Addr) (ρ1 : Vars) (st1 : Store) : Prop
  | mk (rows : List (Int × Int)) (ys : List PyData) (q1 : rows.length ≤ 10) (q2 : RowsOk rows) (q3 : WellOk ys) (q4 : st1 = (st.set c (rows.map rowD)).set w ys) (q5 : ρ1 "rows" = some (.cell c))
inductive ivN15b (n : Nat) (st : Store) (c : Addr) (w : Addr) (rem : List D) (ρ' : Vars) (st' : Store) : Prop
  | mk (i : Int) (m : Nat) (rows : List (Int × Int)) (z : Int) (ys : List PyData) (q1 : rem = numsD i m) (q2 : rows.length + m = n) (q3 : RowsOk rows) (q4 : 0 ≤ z) (q5 : (∀ p ∈ rows, p.1 < z)) (q6 : WellOk ys) (q7 : st' = (st.set c (rows.map rowD)).set w ys) (q8 : ρ' "well" = some (.cell w)) (q9 : ρ' "rows" = some (.cell c)) (q10 : ρ' "at" = some (.dat (.int z)))
theorem c_cuts_right (T : Tx g P) {w : Addr} {xs : List PyData} (hw : WellOk xs) {Q : D → Store → Prop} (q : ∀ ys, WellOk ys → Q (.dat (.bool true)) (st.set w ys)) : CaJ g (k + 2) (.ref 169) [.cell w] (st.set w xs) Q := by
  refine ca_own T.K ["well"] rfl (fun L a => ?_) rfl (hb1 fun w0 => rfl) (fun w0 => rfl) ⟨rfl, rfl, rfl, rfl, rfl, rfl⟩
  refine ex_cons <| sm_pair2 (.inr ⟨rfl, _, rfl⟩) (.inl rfl) <| evs_cons <| ev_listC <| evs_nil ⟨[], rfl, sm rfl, fun c hc => ?_⟩
  have hcw : c ≠ w := by rintro rfl; rw [Store.set_same] at hc; cases hc
  have hc' : st c = none := by rw [Store.set_ne _ _ hcw] at hc; exact hc
  refine evs_cons <| ev_int <| evs_nil ⟨_, _, rfl, ?_⟩
  rw [Store.set_comm _ _ _ (Ne.symm hcw)]
  refine ex_cut (ivN15a st c w)
    (sm_for <| it_range1 T.range <| ev_bin <| ev_int <| ev_call (T.nm (v := .ref 113)) T.ok <| evs_cons <| ev_name rfl <| evs_cons <| ev_int <| evs_nil <| c_drawS T hw (by decide) fun r ys r0 r1 hy => op_add_int ⟨_, rfl, ⟨by (first | with_reducible exact Mine.zy16 (by assumption) | omega), by (first | with_reducible exact Mine.zy15 (by assumption) (by decide) | omega)⟩, ?_⟩) ?_
  · obtain ⟨n, hn⟩ : ∃ n : Nat, n = (1 + r).toNat := ⟨_, rfl⟩
    have hn1 : n ≤ 10 := by omega
    rw [← hn]
    refine ⟨ivN15b n st c w, ?_, ?_, ?_⟩
    · exact ⟨0, n, [], 0, ys, rfl, by simp, ⟨List.Pairwise.nil, fun w0 h => (nomatch h)⟩, by (first | with_reducible exact Int.le_refl _ | omega), fun w0 h => (nomatch h), hy, rfl, rfl, rfl, rfl⟩
    · rintro x rem ρ' st' ⟨i, m, rows, z, ys, e, hl, hR, hz, hlt, hy, rfl, h1, h2, h3⟩
      obtain ⟨m', rfl, rfl, rfl⟩ := numsD_cons e
      refine as_name (Wr.own (.inl rfl)) ?_
      refine ex_cons <| sm_append (xs0 := rows.map rowD) h2 (by rw [Store.set_ne _ _ hcw, Store.set_same]) <| ev_tuple <| evs_cons <| ev_list <| evs_nil ⟨[], rfl, sm rfl, ?_⟩
      refine evs_cons <| ev_name h3 <| evs_cons <| ev_bin <| ev_bin <| ev_name h3 <| ev_int <| op_add_int <| ev_call (T.nm (v := .ref 113)) T.ok <| evs_cons <| ev_name h1 <| evs_cons <| ev_int <| evs_nil <| c_drawS T hy (by decide) fun r1 ys1 a1 a2 hy1 => op_add_int ?_
      refine evs_nil ⟨[.list [], .int z, .int (z + 1 + r1)], rfl, by simp, rowD (z, z + 1 + r1), rows.map rowD, rfl, by rw [Store.set_ne _ _ hcw, Store.set_same], by rw [List.length_map]; (first | with_reducible exact Mine.za9 (by assumption) (by assumption) (by decide) | omega), ?_⟩
      rw [Store.swapW _ _ _ _ hcw]
      refine ex_cons <| sm_assign (.inl rfl) <| ev_bin <| ev_bin <| ev_name h3 <| ev_int <| op_add_int <| ev_call (T.nm (v := .ref 113)) T.ok <| evs_cons <| ev_name h1 <| evs_cons <| ev_int <| evs_nil <| c_drawS T hy1 (by decide) fun r2 ys2 b1 b2 hy2 => op_add_int ?_
      refine ex_nil ⟨⟨i + 1, m', rows ++ [(z, z + 1 + r1)], z + 1 + r2, ys2, rfl, by rw [List.length_append]; simp; (first | with_reducible exact Mine.za3 (by assumption) | omega), hR.snoc hlt hz, by omega, fun p hp => ?_, hy2, by rw [List.map_append]; rfl, h1, h2, rfl⟩, fun w0 h => nomatch h⟩
      rcases List.mem_append.mp hp with hp | hp
      · have := hlt p hp; omega
      · rw [List.mem_singleton] at hp; subst hp; show z < _; omega
    · rintro ρ' st' ⟨i, m, rows, z, ys, e, hl, hR, hz, hlt, hy, rfl, h1, h2, h3⟩
      exact ⟨rows, ys, by (first | with_reducible exact Mine.za10 (by assumption) (by assumption) (by decide) | omega), hR, hy, rfl, h2⟩
  rintro ρ1 st1 ⟨rows, ys, hl, hR, hy, rfl, h2⟩
  refine ex_freeze h2 (by rw [Store.set_ne _ _ hcw, Store.set_same]) ?_
  rw [Store.swapD _ _ _ hcw hc']
  refine ex_cons <| sm_compP (.inl rfl) (f := fun i => .dat (.int (i : Nat))) (F := keepC rows) (xs := List.range rows.length) <| it_range1 T.range <| ev_call T.len okB <| evs_cons <| ev_name rfl <| evs_nil <| ca_len .dat (len_map (ten_th hl)) ⟨_, rfl, by rw [List.length_map]; exact .nat (ten_th hl), by rw [List.length_map, Int.toNat_natCast, numsD_zero], by rw [List.length_range]; (first | with_reducible exact Nat.le_trans (by assumption) (by decide) | omega), fun C x hx => ?_, .inl ?_⟩
  · have hx := List.mem_range.mp hx
    refine as_name (.inl ⟨rfl, rfl⟩) <| ifs_one <| TrJ.mono (Q := fun b st1 => b = condC rows x ∧ st1 = st.set w ys) (tr_or <| tr_cmp <| ev_name rfl <| ev_int <| cm_eq_int ?_) ?_
    · by_cases hx0 : x = 0
      · subst hx0
        exact ite_t rfl ⟨rfl, rfl⟩
      · have e : (PyData.list (List.take ((some (x : Int)).elim (rows.map rowD).length (clipAt (rows.map rowD).length) - (none : Option Int).elim 0 (clipAt (rows.map rowD).length)) (List.drop ((none : Option Int).elim 0 (clipAt (rows.map rowD).length)) (rows.map rowD)))) = .list ((rows.take x).map rowD) := by
          simp only [Option.elim, List.drop_zero, Nat.sub_zero]
          rw [clip_eq (by rw [List.length_map]; (first | with_reducible exact Nat.le_of_lt (by assumption) | omega)), List.map_take]
        refine ite_f (by simpa using hx0) <| tr_or <| tr_cmp <| ev_call T.max okB <| evs_cons <| ev_compP (f := fun p => .dat (rowD p)) (F := fun p => some (.int p.2)) (xs := rows.take x) <| it_list (ht := .inl ⟨_, _, rfl⟩) <| ev_slice <| ev_name rfl <| pt_none <| pt_some <| ev_name rfl ⟨_, rfl, rows.map rowD, .dat, len_map (ten_th hl), (rows.take x).map fun p => .dat (rowD p), [], .inl ⟨(rows.take x).map rowD, by rw [e], rfl, maps⟩, rfl, by rw [List.length_take]; omega, fun C' p w0 => ?_, .inl ?_⟩
        · exact as_name (.inl ⟨rfl, rfl⟩) <| ifs_nil <| ite_t rfl <| ev_itemT <| ev_name rfl <| ev_int ⟨_, _, _, rfl, rfl, by decide, rfl, sm rfl, rfl, _, rfl, rfl⟩
        · rw [filterMap_some]
          have hrx : rows[x]? = some (rows.getD x (0, 0)) := by rw [List.getD_eq_getElem?_getD, List.getElem?_eq_getElem hx]; rfl
          refine evs_nil <| ca_maxl (ns := (rows.take x).map (·.2)) (by rw [List.map_map]; exact .dat) (by rw [List.length_map, List.length_take]; omega) fun m hm hmax => ?_
          refine ev_itemT <| ev_item <| ev_name rfl <| ev_name rfl ⟨_, _, _, .dat, rfl, .map (n := x) rfl hrx (ten_th hl), ev_int ⟨_, _, _, rfl, rfl, by decide, rfl, sm rfl, cm_le ?_⟩⟩
          have hc : condC rows x = decide (m ≤ (rows.getD x (0, 0)).1) := by
            unfold condC
            apply Bool.eq_iff_iff.mpr
            rw [List.all_eq_true, decide_eq_true_iff]
            constructor
            · intro h
              obtain ⟨p, hp, rfl⟩ := List.mem_map.mp hm
              exact of_decide_eq_true (h p hp)
            · intro h p hp
              have := hmax p.2 (List.mem_map_of_mem hp)
              exact decide_eq_true (by (first | with_reducible exact Int.le_trans (by assumption) (by assumption) | omega))
          rw [← hc]
          cases condC rows x with
          | true => exact ite_t rfl ⟨rfl, rfl⟩
          | false => exact ite_f rfl <| tr_or_nil ⟨rfl, rfl⟩
    · rintro b st1 ⟨rfl, rfl⟩
      cases hcx : condC rows x with
      | true => exact ite_t rfl <| ev_name rfl ⟨rfl, _, rfl, by unfold keepC; rw [hcx]; rfl⟩
      | false => exact ite_f rfl ⟨rfl, by unfold keepC; rw [hcx]; rfl⟩
  rw [keepC_eq]
  refine ex_cons <| sm_return <| ev_cmp <| ev_call T.list okT <| evs_cons <| ev_call (T.nm (v := .ref 47)) T.ok <| evs_cons <| ev_name rfl <| evs_nil <| c_cuts T (by (first | with_reducible exact Nat.le_trans (by assumption) (by decide) | omega)) <| evs_nil <| ca_list .dat ?_ <| ev_name rfl <| cm_eq .dat .dat (sh_iL _).ok (sh_iL (dueC rows)).ok ⟨_, .refl _, ?_⟩
  · rw [List.length_map, cuts_due hR]; unfold dueC; rw [List.length_map]
    have := List.length_filter_le (condC rows) (List.range rows.length)
    rw [List.length_range] at this; (first | with_reducible exact Nat.le_trans (by assumption) (Nat.le_trans (by assumption) (by decide)) | omega)
  · show Q (.dat (.bool (PyData.eqv (iL (cuts rows)) (iL (dueC rows))))) _
    rw [eqv_iL, cuts_due hR, decide_eq_true rfl]
    exact q ys hy
end
end Mine

namespace Mine

theorem lexLt_le {a b : Int × Int} (h : lexLt a b = true) : a.1 ≤ b.1 := by
  unfold lexLt at h
  split at h
  · (first | with_reducible exact Int.le_of_eq (by assumption) | omega)
  · have := of_decide_eq_true h; (first | with_reducible exact Int.le_of_lt (by assumption) | omega)
theorem Rising.nodup {l : List (Int × Int)} (h : Rising l) : l.Nodup := List.Pairwise.imp (fun {a b} hab e => by subst e; rw [lexLt_irrefl] at hab; cases hab) h

theorem ap_law : ∀ (l acc : List (Int × Int)) (r : Int), Rising l → (∀ p ∈ l, 0 ≤ p.1 ∧ p.1 < p.2) → (∀ o ∈ acc, o.2 ≤ r ∧ ∀ p ∈ l, o.1 ≤ p.1) → (r = 0 ∨ ∃ o ∈ acc, o.2 = r) → lawAp l acc = acc ++ ap l r := by
  intro xx
  induction xx with
  | nil =>
    intro acc r _ _ _ _
    show acc = acc ++ []; rw [List.append_nil]
  | cons p l ih =>
    intro acc r hR hp ha hr
    have hR' : (∀ q ∈ l, lexLt p q = true) ∧ Rising l := List.pairwise_cons.mp hR
    have p0 := hp p (.head _)
    have key : (acc.all fun o => !hits p o) = decide (r ≤ p.1) := by
      apply Bool.eq_iff_iff.mpr
      rw [List.all_eq_true, decide_eq_true_iff]
      constructor
      · intro h
        rcases hr with rfl | ⟨o, ho, rfl⟩
        · exact p0.1
        · have h1 := h o ho
          have h2 := (ha o ho).2 p (.head _)
          unfold hits at h1
          simp only [Bool.not_eq_true', Bool.and_eq_false_iff, decide_eq_false_iff_not] at h1
          omega
      · intro h o ho
        have h1 := (ha o ho).1
        unfold hits
        rw [decide_eq_false (by omega)]; rfl
    rw [lawAp_cons, ap_cons, key]
    by_cases h : r ≤ p.1
    · rw [if_pos (decide_eq_true h), if_pos h, ih (acc ++ [p]) p.2 hR'.2 (fun q hq => hp q (.tail _ hq)) (fun o ho => ?_) (.inr ⟨p, List.mem_append_right _ (.head _), rfl⟩), List.append_assoc]; · rfl
      rcases List.mem_append.mp ho with ho | ho
      · have := (ha o ho).1
        exact ⟨by omega, fun q hq => (ha o ho).2 q (.tail _ hq)⟩
      · rw [List.mem_singleton] at ho; subst ho
        exact ⟨Int.le_refl _, fun q hq => lexLt_le (hR'.1 q hq)⟩
    · rw [if_neg (by simpa using h), if_neg h]
      exact ih acc r hR'.2 (fun q hq => hp q (.tail _ hq)) (fun o ho => ⟨(ha o ho).1, fun q hq => (ha o ho).2 q (.tail _ hq)⟩) hr

theorem apB_law : ∀ (l acc : List (Int × Int)) (r : Option Int), l.Pairwise (fun a b => lexLt b a = true) → (∀ p ∈ l, p.1 < p.2) → (∀ o ∈ acc, o.1 < o.2 ∧ ∀ p ∈ l, p.1 ≤ o.1) →
    (match r with | none => acc = [] | some r => (∀ o ∈ acc, r ≤ o.1) ∧ ∃ o ∈ acc, o.1 = r) → lawAp l acc = acc ++ apB l r := by
  intro xx
  induction xx with
  | nil =>
    intro acc r _ _ _ _
    have : apB [] r = [] := by cases r <;> rfl
    rw [this, List.append_nil]; rfl
  | cons p l ih =>
    intro acc r hR hp ha hr
    have hR' := List.pairwise_cons.mp hR
    have p0 := hp p (.head _)
    have step : ∀ acc' : List (Int × Int), (∀ o ∈ acc', o ∈ acc ∨ o = p) → ∀ o ∈ acc', o.1 < o.2 ∧ ∀ q ∈ l, q.1 ≤ o.1 := fun acc' h o ho => by
      rcases h o ho with ho | rfl
      · exact ⟨(ha o ho).1, fun q hq => (ha o ho).2 q (.tail _ hq)⟩
      · exact ⟨p0, fun q hq => lexLt_le (hR'.1 q hq)⟩
    cases r with
    | none =>
      have hr : acc = [] := hr
      subst hr
      rw [lawAp_cons]
      rw [if_pos (show (([] : List (Int × Int)).all fun o => !hits p o) = true from rfl), ih ([] ++ [p]) (some p.1) hR'.2 (fun q hq => hp q (.tail _ hq)) (step _ fun o ho => .inr (by simpa using ho)) ⟨fun o ho => by simp at ho; subst ho; exact Int.le_refl _, p, by simp, rfl⟩]
      rfl
    | some r =>
      have hr : (∀ o ∈ acc, r ≤ o.1) ∧ ∃ o ∈ acc, o.1 = r := hr
      have key : (acc.all fun o => !hits p o) = decide (p.2 ≤ r) := by
        apply Bool.eq_iff_iff.mpr
        rw [List.all_eq_true, decide_eq_true_iff]
        constructor
        · intro h
          obtain ⟨o, ho, rfl⟩ := hr.2
          have h1 := h o ho
          have h2 := (ha o ho).2 p (.head _)
          have h3 := (ha o ho).1
          unfold hits at h1
          simp only [Bool.not_eq_true', Bool.and_eq_false_iff, decide_eq_false_iff_not] at h1
          omega
        · intro h o ho
          have h1 := hr.1 o ho
          unfold hits
          rw [decide_eq_false (show ¬ o.1 < p.2 by omega), Bool.and_false]; rfl
      rw [lawAp_cons, apB_cons, key]
      by_cases h : p.2 ≤ r
      · rw [if_pos (decide_eq_true h), if_pos h, ih (acc ++ [p]) (some p.1) hR'.2 (fun q hq => hp q (.tail _ hq)) (step _ fun o ho => by simpa using ho) ⟨fun o ho => ?_, p, by simp, rfl⟩, List.append_assoc]; · rfl
        rcases List.mem_append.mp ho with ho | ho
        · exact (ha o ho).2 p (.head _)
        · rw [List.mem_singleton] at ho; subst ho; exact Int.le_refl _
      · rw [if_neg (by simpa using h), if_neg h]
        exact ih acc (some r) hR'.2 (fun q hq => hp q (.tail _ hq)) (step _ fun o ho => .inl ho) hr

theorem ap_sub : ∀ (l : List (Int × Int)) (r : Int), (ap l r).Sublist l
  | [], _ => .slnil
  | p :: l, r => by
    rw [ap_cons]
    split
    · exact (ap_sub l p.2).cons_cons p
    · exact (ap_sub l r).cons p
theorem apB_sub : ∀ (l : List (Int × Int)) (r : Option Int), (apB l r).Sublist l
  | [], r => by cases r <;> exact .slnil
  | p :: l, none => (apB_sub l (some p.1)).cons_cons p
  | p :: l, some r => by
    rw [apB_cons]
    split
    · exact (apB_sub l (some p.1)).cons_cons p
    · exact (apB_sub l (some r)).cons p

theorem nodup_len : ∀ {l m : List (Int × Int)}, l.Nodup → (∀ x ∈ l, x ∈ m) → l.length ≤ m.length
  | [], m, _, _ => Nat.zero_le _
  | x :: l, m, h, hm => by
    rw [List.nodup_cons] at h
    have hx := hm x (.head _)
    have := nodup_len (l := l) (m := m.erase x) h.2 fun y hy => (List.mem_erase_of_ne (by rintro rfl; exact h.1 hy)).mpr (hm y (.tail _ hy))
    rw [List.length_erase_of_mem hx] at this
    have := List.length_pos_of_mem hx
    rw [List.length_cons]; (first | with_reducible exact Mine.zw8b (by assumption) (by assumption) | omega)

theorem lists_law {ps : List (Int × Int)} (hn : ps.Nodup) (hl : ps.length ≤ 5) (hp : ∀ p ∈ ps, 0 ≤ p.1 ∧ p.1 < p.2) :
    SortOk ps ∧ (sortP ps).length ≤ 5 ∧ SortOk (ap (sortP ps) 0) ∧ SortOk (apB (sortP ps).reverse none) ∧ lawAp (sortP ps) [] = ap (sortP ps) 0 ∧ lawAp (sortP ps).reverse [] = apB (sortP ps).reverse none := by
  obtain ⟨h1, h2, h3⟩ := sort_small hn hl
  have hlen : (sortP ps).length ≤ 5 := Nat.le_trans (nodup_len h2.nodup h3) hl
  have hp' : ∀ p ∈ sortP ps, 0 ≤ p.1 ∧ p.1 < p.2 := fun p h => hp p (h3 p h)
  have hrev : (sortP ps).reverse.Pairwise (fun a b => lexLt b a = true) := List.pairwise_reverse.mpr h2
  have s1 := ap_sub (sortP ps) 0
  have s2 := apB_sub (sortP ps).reverse none
  refine ⟨h1, hlen, (sort_small (h2.nodup.sublist s1) (Nat.le_trans s1.length_le hlen)).1, (sort_small ((show (sortP ps).reverse.Nodup from List.pairwise_reverse.mpr (List.Pairwise.imp (fun {a b} h => Ne.symm h) h2.nodup)).sublist s2) (Nat.le_trans s2.length_le (by rw [List.length_reverse]; exact hlen))).1, ?_, ?_⟩
  · exact (ap_law _ [] 0 h2 hp' (fun o ho => by cases ho) (.inl rfl)).trans (List.nil_append _)
  · exact (apB_law _ [] none hrev (fun p h => (hp' p (List.mem_reverse.mp h)).2) (fun o ho => by cases ho) rfl).trans (List.nil_append _)
end Mine

namespace Mine
section
variable {g : Gr} {k : Nat} {env : Env} {ρ : Vars} {st : Store} {P : Params}

theorem natsD_of {n : Nat} {ps : List PyData} (h : ∀ p ∈ ps, ∃ i : Int, p = .int i ∧ 0 ≤ i) (hl : ps.length = n) : ∃ l : List Int, ps = l.map .int ∧ l.length = n ∧ ∀ i ∈ l, 0 ≤ i := by
  subst hl
  induction ps with
  | nil => exact ⟨[], rfl, rfl, fun w0 h => nomatch h⟩
  | cons p ps ih =>
    obtain ⟨i, rfl, hi⟩ := h p (.head _)
    obtain ⟨l, rfl, hl, hh⟩ := ih fun q hq => h q (.tail _ hq)
    refine ⟨i :: l, rfl, by rw [List.length_cons, List.length_cons, hl], fun z hz => ?_⟩
    rcases List.mem_cons.mp hz with rfl | hz
    · exact hi
    · exact hh z hz

theorem putK_ok {acc : List (Int × Int)} {x : Int × Int} (h : acc.Nodup) : (putK acc x).Nodup ∧ (putK acc x).length ≤ acc.length + 1 ∧ ∀ p ∈ putK acc x, p ∈ acc ∨ p = x := by
  unfold putK
  by_cases hx : x ∈ acc
  · rw [if_pos hx]; exact ⟨h, by omega, fun p hp => .inl hp⟩
  · rw [if_neg hx]
    refine ⟨List.nodup_append.mpr ⟨h, by simp, fun a ha b hb => ?_⟩, by simp, fun p hp => by simpa using hp⟩
    rw [List.mem_singleton] at hb
    rintro rfl; subst hb; exact hx ha

theorem sh_tf (b : Bool) : SeqAt.shaped (.str (if b then "True" else "False")) = true := by cases b <;> decide +kernel
theorem eqv_str (x : Str) : PyData.eqv (.str x) (.str x) = true := by simp [PyData.eqv]

inductive ivN16a (st : Store) (w : Addr) (ρ1 : Vars) (st1 : Store) : Prop
  | mk (ps : List (Int × Int)) (ys : List PyData) (q1 : ps.Nodup) (q2 : ps.length ≤ 5) (q3 : (∀ p ∈ ps, 0 ≤ p.1 ∧ p.1 < p.2)) (q4 : WellOk ys) (q5 : st1 = st.set w ys) (q6 : ρ1 "well" = some (.cell w)) (q7 : ρ1 "some" = some (.dat (.list (prsL (sortP ps)))))
inductive ivN16b (st : Store) (w : Addr) (rem : List D) (acc : List (Int × Int)) (st' : Store) : Prop
  | mk (rest : List Int) (ys : List PyData) (q1 : rem = rest.map (fun i => .dat (.int i))) (q2 : (∀ i ∈ rest, 0 ≤ i)) (q3 : acc.length + rest.length ≤ 5) (q4 : acc.Nodup) (q5 : (∀ p ∈ acc, 0 ≤ p.1 ∧ p.1 < p.2)) (q6 : WellOk ys) (q7 : st' = st.set w ys)
theorem c_lists_right (T : Tx g P) {w : Addr} {xs : List PyData} (hw : WellOk xs) {Q : D → Store → Prop} (q : ∀ ys, WellOk ys → Q (.dat (.bool true)) (st.set w ys)) : CaJ g (k + 2) (.ref 174) [.cell w] (st.set w xs) Q := by
  refine ca_own T.K ["well"] rfl (fun L a => ?_) rfl (hb1 fun w0 => rfl) (fun w0 => rfl) ⟨rfl, rfl, rfl, rfl, rfl, rfl⟩
  refine ex_cons <| sm_comp (.inl rfl) <| comp_w (F := fun p => ∃ i : Int, p = .int i ∧ 0 ≤ i) <| it_range1 T.range <| ev_call (T.nm (v := .ref 113)) T.ok <| evs_cons <| ev_name rfl <| evs_cons <| ev_int <| evs_nil <| c_drawS T hw (by decide) fun r ys1 h1 h2 hy1 => ⟨r, rfl, ⟨by omega, by (first | with_reducible exact Mine.zy13 (by assumption) (by decide) | omega)⟩, rfl, r.toNat, ys1, rfl, by (first | with_reducible exact Mine.zi9 (by assumption) (by assumption) (by decide) | omega), rfl, hy1, fun C' i' ys2 hy2 => ?_, fun ps ys hl hF hy => ?_⟩
  · exact as_name (.inl ⟨rfl, rfl⟩) <| ev_call (T.nm (v := .ref 113)) T.ok <| evs_cons <| ev_name rfl <| evs_cons <| ev_int <| evs_nil <| c_drawS T hy2 (by decide) fun r ys' h0 w0 hy' => ⟨_, ys', rfl, ⟨_, rfl, h0⟩, rfl, hy'⟩
  obtain ⟨bs, rfl, hbl, hb0⟩ := natsD_of hF hl
  have hb5 : bs.length ≤ 5 := by (first | with_reducible exact Mine.zi10 (by assumption) (by assumption) (by assumption) (by decide) | omega)
  refine ex_cut (ivN16a st w)
    (sm_assign (.inl rfl) <| ev_call T.sorted okB <| evs_cons <| ev_dcomp (dkTup g) <| it_list (ht := .inl ⟨_, _, rfl⟩) <| ev_name rfl ⟨bs.map fun i => .dat (.int i), [], .inl ⟨_, rfl, rfl, maps⟩, ?_⟩) ?_
  · refine ⟨ivN16b st w, ?_, ?_, ?_⟩
    · exact ⟨bs, ys, rfl, hb0, by simpa using hb5, List.nodup_nil, fun w0 h => (nomatch h), hy, rfl⟩
    · rintro C x rem acc st' ⟨rest, ys, e, h0, hl, hn, hp, hy, rfl⟩
      cases rest with
      | nil => cases e
      | cons i rest =>
        injection e with e1 e2
        subst e1 e2
        rw [List.length_cons] at hl
        refine as_name (.inl ⟨rfl, rfl⟩) <| ifs_nil <| ite_t rfl <| ev_tuple <| evs_cons <| ev_name rfl <| evs_cons <| ev_bin <| ev_bin <| ev_name rfl <| ev_int <| op_add_int <| ev_call (T.nm (v := .ref 113)) T.ok <| evs_cons <| ev_name rfl <| evs_cons <| ev_int <| evs_nil <| c_drawS T hy (by decide) fun r ys' r0 w0 hy' => op_add_int <| evs_nil ⟨[.int i, .int (i + 1 + r)], rfl, sm rfl, ev_bool ⟨(i, i + 1 + r), rfl, by (first | with_reducible exact Mine.za8 (by assumption) (by decide) | omega), ?_, fun w0 h => nomatch h⟩⟩
        obtain ⟨k1, k2, k3⟩ := putK_ok (x := (i, i + 1 + r)) hn
        refine ⟨rest, ys', rfl, fun j hj => h0 j (.tail _ hj), ?_, k1, fun p hp' => ?_, hy', rfl⟩
        · show (putK acc (i, i + 1 + r)).length + _ ≤ 5; omega
        · rcases k3 p hp' with hp' | rfl
          · exact hp p hp'
          · have := h0 i (.head _); exact ⟨this, by show i < i + 1 + r; omega⟩
    · rintro acc st' ⟨rest, ys, e, h0, hl, hn, hp, hy, rfl⟩
      have hl5 : acc.length ≤ 5 := by omega
      exact evs_nil <| ca_sortedT (lists_law hn hl5 hp).1 ⟨acc, ys, hn, hl5, hp, hy, rfl, rfl, rfl⟩
  rintro ρ1 st1 ⟨ps, ys, hn, hl5, hp, hy, rfl, g1, g2⟩
  obtain ⟨a1, a2, a3, a4, a5, a6⟩ := lists_law hn hl5 hp
  refine ex_cons <| sm_if <| tr_cmp <| ev_call T.sorted okB <| evs_cons <| ev_call (T.nm (v := .ref 99)) T.ok <| evs_cons <| ev_name g2 <| evs_nil <| c_ap T (by (first | with_reducible exact Nat.le_trans (by assumption) (by decide) | omega)) <| evs_nil <| ca_sortedP .dat a3 <| ev_call (T.nm (v := .ref 164)) T.ok <| evs_cons <| ev_name g2 <| evs_cons <| ev_bool <| evs_nil <| c_lawAp T (by (first | with_reducible exact Nat.le_trans (by assumption) (by decide) | omega)) (by show SortOk (lawAp (sortP ps) []); rw [a5]; exact a3) <| cm_ne .dat .dat (sh_prsL _).ok (sh_prsL _).ok ?_
  rw [eqv_prsL]
  refine ite_f (by show (!decide (sortP (ap (sortP ps) 0) = sortP (lawAp (sortP ps) []))) = false; rw [a5, decide_eq_true rfl]; rfl) <| ex_nil ?_
  refine ex_cons <| sm_if <| tr_cmp <| ev_call T.sorted okB <| evs_cons <| ev_call (T.nm (v := .ref 106)) T.ok <| evs_cons <| ev_name g2 <| evs_nil <| c_apB T (by (first | with_reducible exact Nat.le_trans (by assumption) (by decide) | omega)) <| evs_nil <| ca_sortedP .dat a4 <| ev_call (T.nm (v := .ref 164)) T.ok <| evs_cons <| ev_name g2 <| evs_cons <| ev_bool <| evs_nil <| c_lawAp T (by (first | with_reducible exact Nat.le_trans (by assumption) (by decide) | omega)) (by show SortOk (lawAp (sortP ps).reverse []); rw [a6]; exact a4) <| cm_ne .dat .dat (sh_prsL _).ok (sh_prsL _).ok ?_
  rw [eqv_prsL]
  refine ite_f (by show (!decide (sortP (apB (sortP ps).reverse none) = sortP (lawAp (sortP ps).reverse []))) = false; rw [a6, decide_eq_true rfl]; rfl) <| ex_nil ?_
  refine ex_cons <| sm_comp (.inl rfl) <| comp_w (F := fun p => ∃ i : Int, p = .int i ∧ 0 ≤ i) <| it_range1 T.range <| ev_call (T.nm (v := .ref 113)) T.ok <| evs_cons <| ev_name g1 <| evs_cons <| ev_int <| evs_nil <| c_drawS T hy (by decide) fun r ys1 h1 h2 hy1 => ⟨r, rfl, ⟨by omega, by (first | with_reducible exact Mine.zy13 (by assumption) (by decide) | omega)⟩, rfl, r.toNat, ys1, rfl, by (first | with_reducible exact Mine.zi9 (by assumption) (by assumption) (by decide) | omega), rfl, hy1, fun C' i' ys2 hy2 => ?_, fun ps1 ys3 hl1 hF1 hy3 => ?_⟩
  · exact as_name (.inl ⟨rfl, rfl⟩) <| ev_call (T.nm (v := .ref 113)) T.ok <| evs_cons <| ev_name g1 <| evs_cons <| ev_int <| evs_nil <| c_drawS T hy2 (by decide) fun r ys' h0 w0 hy' => ⟨_, ys', rfl, ⟨_, rfl, h0⟩, rfl, hy'⟩
  obtain ⟨x, rfl, hx, _⟩ := natsD_of hF1 hl1
  refine ex_cons <| sm_comp (.inl rfl) <| comp_w (F := fun p => ∃ i : Int, p = .int i ∧ 0 ≤ i) <| it_range1 T.range <| ev_call (T.nm (v := .ref 113)) T.ok <| evs_cons <| ev_name g1 <| evs_cons <| ev_int <| evs_nil <| c_drawS T hy3 (by decide) fun r2 ys4 h3 h4 hy4 => ⟨r2, rfl, ⟨by omega, by (first | with_reducible exact Mine.zy13 (by assumption) (by decide) | omega)⟩, rfl, r2.toNat, ys4, rfl, by (first | with_reducible exact Mine.zi9 (by assumption) (by assumption) (by decide) | omega), rfl, hy4, fun C' i' ys2 hy2 => ?_, fun ps2 ys5 hl2 hF2 hy5 => ?_⟩
  · exact as_name (.inl ⟨rfl, rfl⟩) <| ev_call (T.nm (v := .ref 113)) T.ok <| evs_cons <| ev_name g1 <| evs_cons <| ev_int <| evs_nil <| c_drawS T hy2 (by decide) fun r ys' h0 w0 hy' => ⟨_, ys', rfl, ⟨_, rfl, h0⟩, rfl, hy'⟩
  obtain ⟨y, rfl, hy', _⟩ := natsD_of hF2 hl2
  have e : (PyData.list (List.take ((some ((x.map PyData.int).length : Int)).elim (y.map PyData.int).length (clipAt (y.map PyData.int).length) - (none : Option Int).elim 0 (clipAt (y.map PyData.int).length)) (List.drop ((none : Option Int).elim 0 (clipAt (y.map PyData.int).length)) (y.map PyData.int)))) = iL (y.take x.length) := by
    rw [take_clip, List.length_map, ← List.map_take]; rfl
  refine ex_cons <| sm_return <| ev_cmp <| ev_call T.repr okB <| evs_cons <| ev_call (T.nm (v := .ref 54)) T.ok <| evs_cons <| ev_name rfl <| evs_cons <| ev_name rfl <| evs_nil <| c_begins T (x := x) (y := y) (by (first | with_reducible exact Mine.zi10 (by assumption) (by assumption) (by assumption) (by decide) | omega)) (by (first | with_reducible exact Mine.zi10 (by assumption) (by assumption) (by assumption) (by decide) | omega)) <| evs_nil <| ca_reprB <|
    ev_call T.repr okB <| evs_cons <| ev_cmp <| ev_slice <| ev_name rfl <| pt_none <| pt_some <| ev_call T.len okB <| evs_cons <| ev_name rfl <| evs_nil <| ca_len (xs := x.map .int) .dat (by simp; (first | with_reducible exact Mine.zi10 (by assumption) (by assumption) (by assumption) (by decide) | omega)) ⟨_, rfl, y.map .int, .dat, by simp; (first | with_reducible exact Mine.zi10 (by assumption) (by assumption) (by assumption) (by decide) | omega), ev_name rfl ?_⟩
  rw [e]
  refine cm_eq .dat .dat (sh_iL _).ok (sh_iL x).ok ?_
  have e2 : PyData.eqv (iL (y.take x.length)) (.list (x.map .int)) = decide (y.take x.length = x) := eqv_iL _ _
  rw [e2]
  refine evs_nil <| ca_reprB <| cm_eq .dat .dat (sh_tf _) (sh_tf _) ⟨_, .refl _, ?_⟩
  rw [eqv_str]
  exact q ys5 hy5
end
end Mine

namespace Mine
section
variable {g : Gr} {k : Nat} {env : Env} {ρ : Vars} {st : Store} {P : Params}
variable {prog : Program} {w : World} {A : Around} {E : Value → Shared → Prop} {s : Shared} {K : Frag} {C x dx : Addr}

set_option tactic.hygienic true in
theorem set_raw {od od' : Obj} {name : Str} {v : Value} {es : List DictEntry} {n : Nat} {Q : Unit → Shared → Prop} (X : K.In s.heap) (hx : s.heap.get? x = some (instObj C dx)) (hdx : s.heap.get? dx = some od)
    (hs : findIn K (.ref C) "__setattr__" = some (some (.builtin "object.__setattr__"))) (hp : plainOver K C = true) (ht : takerIn K C name = some none) (hh : (clsIn K C).any (·.hasDict) = true)
    (hl : (lookIn name od).isSome = true) (e : Obj.putName name (PyData.keyHash w.params name) (.str name (s.toks + 1)) v od = od') (e' : od'.data = .dict es.toArray n) (hz : es.length ≤ 1000)
    (q : ∀ h', h'.get? dx = some od' → (∀ b o, b ≠ dx → s.heap.get? b = some o → h'.get? b = some o) → Q () { s with heap := h', toks := s.toks + 2 }) : wpAny (model prog w) A (setAttr (.ref x) name v) Q E s := by
  have I : InstAt s.heap x (instObj C dx) C (some od) := ⟨hx, rfl, rfl, hdx⟩
  refine set_plain X I hs (osa_open (s := { s with toks := s.toks + 1 }) X I hp ht fun b => ?_)
  obtain ⟨cd, hc, hd'⟩ := any_some hh
  refine wpAny_bind (wpAny_pure (wpAny_bind (wpAny_bind (wpAny_loadPart hx (wpAny_bind (Looks.here (s := { s with toks := s.toks + 1 }) (looks_clsIn X hc) ?_))))))
  rw [hd']
  refine wpAny_pure (a := some dx) (wpAny_bind (wpAny_pure (wpAny_bind ?_)))
  unfold nsSet
  refine wpAny_bind (wpAny_bind (wpAny_askSetting (wpAny_pure (wpAny_bind (wpAny_mkText (wpAny_bind (wpAny_loadPart hdx ?_)))))))
  have hfreed : (Obj.putName name (PyData.keyHash w.params name) (.str name (s.toks + 1)) v od).isFreed = false := by rw [e]; exact Obj.isFreed_of_dict e'
  have D' : (s.heap.update dx (Obj.putName name (PyData.keyHash w.params name) (.str name (s.toks + 1)) v)).get? dx = some od' := by rw [← e]; exact Heap.get?_update_self _ hdx hfreed
  unfold lookIn at hl
  split at hl
  · rename_i es₀ n₀ q0
    rw [q0]
    dsimp only
    have c : (!es₀.any (·.key.isStr name) && es₀.any (·.refKey)) = false := by
      rw [← Array.any_toList, ← Array.any_toList]
      split at hl
      · rename_i en he
        rw [List.any_eq_true.mpr ⟨en, List.mem_of_find?_eq_some he, List.find?_some he⟩]; rfl
      · split at hl
        · cases hl
        · rename_i z; rw [Bool.not_eq_true] at z; rw [z, Bool.and_false]
    rw [aRefKeyMayBeTheName_at, c]
    refine wpAny_updatePart hdx ?_
    refine wpAny_bind (wpAny_lookBehind D' (by rw [e']; exact pastItsLine_dict (by rw [List.size_toArray, sizeLine_eq]; (first | with_reducible exact Nat.le_trans (by assumption) (by decide) | omega))) ?_)
    exact wpAny_pure (q _ D' fun b o hb eo => (Heap.get?_update_other _ _ (Ne.symm hb)).trans eo)
  · cases hl
end
end Mine

namespace Mine
section
variable {g : Gr} {k : Nat} {env : Env} {ρ : Vars} {st : Store} {P : Params}
variable {prog : Program} {w : World} {A : Around} {E : Value → Shared → Prop} {s : Shared} {K : Frag} {C x dx : Addr}

noncomputable def dobj (l : List DictEntry) (n : Nat) : Obj := { cls := .type "dict", data := .dict l.toArray n }

theorem init_step {m : Str → Option Value} {od : Obj} {nm : Str} {v : Value} {es : List DictEntry} {n : Nat} {p1 p2 p3 pos : Pos} {Q : Flow → Shared → Prop} (X : K.In s.heap) (hx : s.heap.get? x = some (instObj C dx)) (hdx : s.heap.get? dx = some od)
    (hfn : env.scope.kind = .function) (hns : s.heap.Ns env.locals m) (k1 : env.kindOf nm = some .local) (k2 : env.kindOf "self" = some .local) (m1 : m nm = some v) (m2 : m "self" = some (.ref x))
    (hs : findIn K (.ref C) "__setattr__" = some (some (.builtin "object.__setattr__"))) (hp : plainOver K C = true) (ht : takerIn K C nm = some none) (hh : (clsIn K C).any (·.hasDict) = true)
    (hl : (lookIn nm od).isSome = true) (e : Obj.putName nm (PyData.keyHash w.params nm) (.str nm (s.toks + 1)) v od = dobj es n) (hz : es.length ≤ 1000)
    (q : ∀ h', h'.get? dx = some (dobj es n) → (∀ b o, b ≠ dx → s.heap.get? b = some o → h'.get? b = some o) → Q .next { s with heap := h', toks := s.toks + 2 })
    (hd : (nm == ("__debug__" : Str)) = false) (hsw : swapsWith (.Name nm p3) (some (.Attribute (.Name "self" p1) nm p2)) pos.line env = pure false := by rfl) :
    wpAny (model prog w) A (exec (.Assign [.Attribute (.Name "self" p1) nm p2] (.Name nm p3) pos) env) Q E s := by
  refine plainObj_wpAny_Assign_Attribute (wpAny_Name (wpAny_loadName_local hfn k1 hns m1 ?_) hd) hsw
  refine wpAny_Name (wpAny_loadName_local hfn k2 hns m2 ?_) (by decide)
  exact set_raw X hx hdx hs hp ht hh hl e rfl hz q

theorem code_own {P : Params} (hK : g.K = Kx P) {f : Addr} {body : List Stmt} {sc : Scope} {nm q : Str} {cd df kd dc pm ct : Value} {pr : Arguments} {gl bl : Addr} {cl : List (Str × Addr)} {an : Option Addr} {vals : List Value} {binds : List (Str × Value)} {R : Result → Shared → Prop}
    (e : fdOf (Kx P) f = some ⟨nm, q, pr, .stmts body, sc, gl, cl, df, kd, dc, pm, an, cd, ct, bl⟩)
    (hk : ∀ b o, g.H0.get? b = some o → s.heap.get? b = some o) (hdep : A.depth < 1000)
    (h : ∀ s1, InCallC s (envF sc q cd s.heap.objs.size f).locals (bindL (envF sc q cd s.heap.objs.size f).kindOf binds fun w0 => none) (envF sc q cd s.heap.objs.size f).cells (bindC (envF sc q cd s.heap.objs.size f).kindOf binds fun w0 => none) s1 →
      wpAny (model g.prog g.w) (A.deeper (envF sc q cd s.heap.objs.size f)) (execs body (envF sc q cd s.heap.objs.size f)) (fun fl s' => R (.ok (.ret (match fl with | .ret v => v | _ => .none))) s') E0 s1)
    (hcd : codeIn (Kx P) cd q = true)
    (hbind : bindArgs ⟨nm, q, pr, .stmts body, sc, gl, cl, df, kd, dc, pm, an, cd, ct, bl⟩ ⟨vals, []⟩ = pure binds)
    (hkind : (binds.all fun x => sc.names.lookup x.1 == some .local) = true)
    (hr : cl = [] ∧ gl = mainGlobals ∧ bl = builtinsNs ∧ sc.isCoroutine = false ∧ sc.isGenerator = false ∧ sc.kind = .function) : codeAny (model g.prog g.w) A (.call (.ref f) ⟨vals, []⟩) R s := by
  obtain ⟨o, ho, hd'⟩ := fdOf_get (hK ▸ g.kin) e
  obtain ⟨hcl, hgl, hbl, hco, hgen, hkd⟩ := hr
  refine codeAny_call_cells (fd := ⟨nm, q, pr, .stmts body, sc, gl, cl, df, kd, dc, pm, an, cd, ct, bl⟩) (body := body) (binds := binds) hdep (hk _ _ ho) hd' (g.hnl.keeps hk) ((codeRec_of (hK ▸ g.kin) hcd).keeps hk) rfl hbind hcl (fun x hx => .inl ?_) (fun s1 X => ?_) hco hgen hkd
  · have := List.all_eq_true.mp hkind x hx
    exact beq_iff_eq.mp this
  · have henv : callEnvC ⟨nm, q, pr, .stmts body, sc, gl, cl, df, kd, dc, pm, an, cd, ct, bl⟩ s.heap.objs.size f = envF sc q cd s.heap.objs.size f := by unfold callEnvC envF; rw [hgl, hbl]
    rw [henv] at X ⊢
    exact wpAny_mono (h s1 X) (fun w0 w0 z => z) fun w0 w0 z => z.elim
end
end Mine

namespace Mine
section
variable {g : Gr} {k : Nat} {env : Env} {ρ : Vars} {st : Store} {P : Params}

theorem repAll_three {S : Fz} {d1 d2 d3 : D} {vs : List Value} (h : RepAll g S vs [d1, d2, d3]) : ∃ v1 v2 v3, vs = [v1, v2, v3] ∧ Rep g S v1 d1 ∧ Rep g S v2 d2 ∧ Rep g S v3 d3 := by
  obtain ⟨v1, r, rfl, h1, h2⟩ := repAll_cons h
  obtain ⟨v2, v3, rfl, h3, h4⟩ := repAll_two h2
  exact ⟨v1, v2, v3, rfl, h1, h3, h4⟩

theorem weight_new (C : Addr) (rest : List Value) (kw : List (Str × Value)) : (Code.builtin "type.__call__" ⟨.ref C :: rest, kw⟩).weight = 1 := by kernel_rfl

theorem find_init (P : Params) : findIn (Kx P) (.ref 36) "__init__" = some (some (.ref 28)) := by rfl
theorem find_set (P : Params) : findIn (Kx P) (.ref 36) "__setattr__" = some (some (.builtin "object.__setattr__")) := by rfl
theorem new_dict (P : Params) : (clsIn (Kx P) 36).any (·.hasDict) = true := by rfl
theorem new_over (P : Params) : plainOver (Kx P) 36 = true := by rfl
theorem new_makes (P : Params) : makesIn (Kx P) 36 = true := by rfl
theorem new_fn (P : Params) : typeIn (Kx P) (.ref 28) = some (.type "function") := by rfl

theorem new_end {S : Fz} {s : Shared} {p : Pc} {v1 v2 v3 : Value} {h5 : Heap} {tk : Nat} {x dx : Addr} {h1 h2 h3 : Int} {t1 t2 t3 : Tok} {Q : D → Store → Prop} (M : Mod g S st s.heap) (r1 : Rd S v1 (.int p.a)) (r2 : Rd S v2 (.int p.b)) (r3 : Rd S v3 (lvD p.lv))
    (hC : g.C = 36) (hxd : dx ≠ x) (nx : s.heap.get? x = none) (nd : s.heap.get? dx = none) (hk : ∀ b o, s.heap.get? b = some o → h5.get? b = some o) (hx : h5.get? x = some (instObj 36 dx))
    (hdx : h5.get? dx = some (dobj [⟨h1, .str "first" t1, v1⟩, ⟨h2, .str "behind" t2, v2⟩, ⟨h3, .str "levels" t3, v3⟩] 3)) (q : Q (.pc p) st) : EndE g S st s Q (.ref x) { s with heap := h5, toks := tk } := by
  have X0 : Ext g NoW S st s S st { s with heap := h5, toks := tk } := ext_all (tk := tk) M hk
  obtain ⟨o1, o2⟩ := fresh_off M nx
  obtain ⟨o3, o4⟩ := fresh_off M nd
  obtain ⟨S1, X1, a1, a2, a3⟩ := ext_take X0 nx o1 o2 hx
  obtain ⟨S2, X2, b1, b2, b3⟩ := ext_take X1 nd ((a3 dx hxd).trans o3) o4 hdx
  refine ⟨S2, st, .pc p, X2, ⟨x, dx, v1, v2, v3, _, nsFind [⟨h1, .str "first" t1, v1⟩, ⟨h2, .str "behind" t2, v2⟩, ⟨h3, .str "levels" t3, v3⟩].toArray, rfl, by rw [hC]; exact b2 _ _ a1, b1, ⟨_, 3, rfl, ?_, fun w0 => rfl⟩, rfl, rfl, rfl, rfl, r1.mono (a2.trans b2), r2.mono (a2.trans b2), r3.mono (a2.trans b2)⟩, q⟩
  intro e he
  simp only [List.mem_toArray, List.mem_cons, List.not_mem_nil, or_false] at he
  rcases he with rfl | rfl | rfl <;> exact ⟨_, _, rfl⟩

theorem c_new (T : Tx g P) {p : Pc} {Q : D → Store → Prop} (q : Q (.pc p) st) : CaJ g (k + 1) (.ref 36) [.dat (.int p.a), .dat (.int p.b), .dat (lvD p.lv)] st Q := by
  intro A S s vs Lv' M r
  obtain ⟨v1, v2, v3, rfl, r1, r2, r3⟩ := repAll_three r
  have X : (Kx P).In s.heap := T.K ▸ M.kin
  obtain ⟨hh, gg, dd, tt, oo⟩ := s
  have X : (Kx P).In hh := X
  refine wpAny_call (make_core (C := 36) (makes_of X (new_makes P)) (looks_findIn X (find_init P)) (fun self => bind_fn X self (new_fn P)) (.inl rfl) ?_)
  have hk1 : ∀ b o, hh.get? b = some o → ((hh.push emptyDict).push (instObj 36 hh.objs.size)).get? b = some o := fun b o e => Heap.get?_push_of_some _ (Heap.get?_push_of_some _ e)
  have hx1 : ((hh.push emptyDict).push (instObj 36 hh.objs.size)).get? (hh.objs.size + 1) = some (instObj 36 hh.objs.size) := by
    have := Heap.get?_push_size (hh.push emptyDict) (o := instObj 36 hh.objs.size) rfl
    rwa [Heap.size_push] at this
  have hd1 : ((hh.push emptyDict).push (instObj 36 hh.objs.size)).get? hh.objs.size = some emptyDict := Heap.get?_push_of_some _ (Heap.get?_push_size _ rfl)
  have hsz : ((hh.push emptyDict).push (instObj 36 hh.objs.size)).objs.size = hh.objs.size + 2 := by rw [Heap.size_push, Heap.size_push]
  generalize (hh.push emptyDict).push (instObj 36 hh.objs.size) = H at hk1 hx1 hd1 hsz ⊢
  refine code_own T.K (f := 28) rfl (fun b o e => hk1 _ _ (M.sub _ _ (M.base _ _ e))) ?_ (fun s1 XC => ?_) rfl rfl rfl ⟨rfl, rfl, rfl, rfl, rfl, rfl⟩
  · show A.depth + (Code.builtin "type.__call__" ⟨.ref 36 :: [v1, v2, v3], []⟩).weight < 1000
    rw [weight_new]; have := Lv'.2.1; (first | with_reducible exact Mine.zx9 (by assumption) | omega)
  · obtain ⟨h2, tk, rfl, hk2⟩ := XC.done
    have ns2 := XC.toInCall.ns
    have hfr := XC.toInCall.fresh
    generalize hm : bindL _ _ _ = mm at ns2
    have m0 : mm "self" = some (.ref (hh.objs.size + 1)) := by rw [← hm]; rfl
    have m1 : mm "first" = some v1 := by rw [← hm]; rfl
    have m2 : mm "behind" = some v2 := by rw [← hm]; rfl
    have m3 : mm "levels" = some v3 := by rw [← hm]; rfl
    have nd : hh.get? hh.objs.size = none := Heap.get?_none_of_le (Nat.le_refl _)
    have nx : hh.get? (hh.objs.size + 1) = none := Heap.get?_none_of_le (Nat.le_succ _)
    have hne : ∀ b o, hh.get? b = some o → b ≠ hh.objs.size := fun b o e => by rintro rfl; rw [nd] at e; cases e
    have hLne : H.objs.size ≠ hh.objs.size := by omega
    have ka : ∀ b o, hh.get? b = some o → h2.get? b = some o := fun b o e => hk2 _ _ (hk1 _ _ e)
    have kx := hk2 _ _ hx1
    have kd := hk2 _ _ hd1
    have K2 : (Kx P).In h2 := fun a o e => ka a o (X a o e)
    refine wpAny_execs_cons (init_step K2 kx kd rfl ns2 rfl rfl m1 m0 (find_set P) (new_over P) rfl (new_dict P) rfl rfl (by simp) (fun h3 e3 k3 => ?_) (by decide))
    have kb : ∀ b o, hh.get? b = some o → h3.get? b = some o := fun b o e => k3 b o (hne b o e) (ka b o e)
    have kx3 := k3 _ _ (Nat.succ_ne_self _) kx
    have ns3 := ns2.at' fun o e => k3 _ o hLne e
    have K3 : (Kx P).In h3 := fun a o e => kb a o (X a o e)
    refine wpAny_execs_cons (init_step K3 kx3 e3 rfl ns3 rfl rfl m2 m0 (find_set P) (new_over P) rfl (new_dict P) rfl rfl (by simp) (fun h4 e4 k4 => ?_) (by decide))
    have kc : ∀ b o, hh.get? b = some o → h4.get? b = some o := fun b o e => k4 b o (hne b o e) (kb b o e)
    have kx4 := k4 _ _ (Nat.succ_ne_self _) kx3
    have ns4 := ns3.at' fun o e => k4 _ o hLne e
    have K4 : (Kx P).In h4 := fun a o e => kc a o (X a o e)
    refine wpAny_execs_cons (init_step K4 kx4 e4 rfl ns4 rfl rfl m3 m0 (find_set P) (new_over P) rfl (new_dict P) rfl rfl (by simp) (fun h5 e5 k5 => ?_) (by decide))
    refine wpAny_execs_nil ⟨rfl, ?_⟩
    exact new_end (s := ⟨hh, gg, dd, tt, oo⟩) M r1 r2 r3 T.C (Nat.ne_of_lt (Nat.lt_succ_self _)) nx nd (fun b o e => k5 b o (hne b o e) (kc b o e)) (k5 _ _ (Nat.succ_ne_self _) kx4) e5 q
end
end Mine

namespace Mine

noncomputable def cutT (ps : List Pc) (low m : Nat) : List Pc := (ps.drop low).take m
noncomputable def T (ps : List Pc) (d low m : Nat) : List (List Int) := together (cutT ps low m) d

theorem together_len (ps : List Pc) (d : Nat) : (together ps d).length = d := by unfold together; simp
theorem together_get {ps : List Pc} {d l : Nat} (h : l < d) : (together ps d).getD l [] = rowOf ps l := by unfold together; exact getD_map_range _ _ _ _ h
theorem cutT_succ {ps : List Pc} {low m : Nat} {p : Pc} (h : ps[low + m]? = some p) : cutT ps low (m + 1) = cutT ps low m ++ [p] := by
  unfold cutT
  rw [List.take_add_one, List.getElem?_drop, h]; rfl
theorem T_succ {ps : List Pc} {d low m : Nat} {p : Pc} (h : ps[low + m]? = some p) : zipApp (T ps d low m) p.lv = T ps d low (m + 1) := by
  unfold T
  refine ext_getD (by rw [zipApp_len, together_len, together_len]) fun j hj => ?_
  rw [zipApp_len, together_len] at hj
  rw [zipApp_get (by rw [together_len]; exact hj), together_get hj, together_get hj, cutT_succ h, rowOf_snoc]
theorem T_zero (ps : List Pc) (d low : Nat) (W : List (List Int)) (hW : W.length = d) : (W.map fun w0 => ([] : List Int)) = T ps d low 0 := by
  subst hW
  unfold T together cutT
  refine ext_getD (by simp) fun j hj => ?_
  rw [List.length_map] at hj
  rw [getD_map_range _ _ _ _ hj, List.getD_eq_getElem?_getD, List.getElem?_map, List.getElem?_eq_getElem hj]; rfl

theorem row_grow {ps : List Pc} {low l : Nat} : ∀ {m m' : Nat}, m ≤ m' → ∃ r, rowOf (cutT ps low m') l = rowOf (cutT ps low m) l ++ r := by
  intro m m' h
  refine ⟨rowOf ((cutT ps low m').drop m) l, ?_⟩
  have e : cutT ps low m' = cutT ps low m ++ (cutT ps low m').drop m := by
    have h1 : cutT ps low m = (cutT ps low m').take m := by unfold cutT; rw [List.take_take, Nat.min_eq_left h]
    rw [h1]; exact (List.take_append_drop m _).symm
  unfold rowOf
  conv => lhs; rw [e]
  rw [List.map_append, List.flatten_append]

theorem idle_level {lv : List (List Int)} (h : idle lv = false) : ∃ l, l < lv.length ∧ lv.getD l [] ≠ [] := by
  unfold idle at h
  rw [List.all_eq_false] at h
  obtain ⟨x, hx, hne⟩ := h
  obtain ⟨l, hl, rfl⟩ := List.getElem_of_mem hx
  refine ⟨l, hl, ?_⟩
  rw [List.getD_eq_getElem?_getD, List.getElem?_eq_getElem hl]
  intro e
  have e' : lv[l] = [] := e
  rw [e'] at hne; exact hne rfl

theorem T_ne {ps : List Pc} {d low m m' : Nat} (hp : ∀ p ∈ ps, p.lv.length = d) (h : m < m') (hl : low + m' ≤ ps.length) (hi : idleAt ps (low + m' - 1) = false) : T ps d low m ≠ T ps d low m' := by
  obtain ⟨n, rfl⟩ : ∃ n, m' = n + 1 := ⟨m' - 1, by (first | with_reducible exact Mine.zp6 (by assumption) | omega)⟩
  obtain ⟨p, he⟩ := get_of_lt (show low + n < ps.length by (first | with_reducible exact Mine.zx2 (by assumption) | omega))
  rw [show low + (n + 1) - 1 = low + n by (first | with_reducible exact Mine.zq17 (by assumption) | omega), idleAt_of he] at hi
  obtain ⟨l, hl1, hl2⟩ := idle_level hi
  rw [hp p (List.mem_of_getElem? he)] at hl1
  intro e
  have e1 : rowOf (cutT ps low m) l = rowOf (cutT ps low (n + 1)) l := by
    rw [← together_get (ps := cutT ps low m) hl1, ← together_get (ps := cutT ps low (n + 1)) hl1]
    exact congrArg (fun t => t.getD l []) e
  obtain ⟨r, hr⟩ := row_grow (ps := ps) (low := low) (l := l) (show m ≤ n by (first | with_reducible exact Nat.le_of_lt_succ (by assumption) | omega))
  rw [cutT_succ he, rowOf_snoc, hr, List.append_assoc] at e1
  have := congrArg List.length e1
  rw [List.length_append, List.length_append] at this
  exact hl2 (List.eq_nil_of_length_eq_zero (by omega))

theorem prefixes_of {ps : List Pc} {d low m m' : Nat} {W : List (List Int)} (h : m ≤ m') (e : T ps d low m' = W) : prefixes (T ps d low m) W = true := by
  subst e
  unfold prefixes T
  rw [List.all_eq_true]
  intro j hj
  have hj := List.mem_range.mp hj
  rw [together_len] at hj
  rw [together_get hj, together_get hj]
  obtain ⟨r, hr⟩ := row_grow (ps := ps) (low := low) (l := j) h
  rw [hr]
  exact decide_eq_true (by simp)

theorem stGo_law {ps : List Pc} {d low : Nat} {W : List (List Int)} : ∀ (r : List Pc) (m : Nat), ps.drop (low + m) = r →
    (∀ h, stGo W r (low + m) (T ps d low m) = some h → ∃ j, m < j ∧ h = low + j ∧ low + j ≤ ps.length ∧ T ps d low j = W ∧ ∀ i, m < i → i < j → T ps d low i ≠ W) ∧
    (stGo W r (low + m) (T ps d low m) = none → ∀ j, m < j → low + j ≤ ps.length → T ps d low j ≠ W) := by
  intro xx
  induction xx with
  | nil =>
    intro m hd
    have hlen : ps.length ≤ low + m := List.drop_eq_nil_iff.mp hd
    exact ⟨fun h e => (by cases e), fun w0 j h1 h2 => by (first | with_reducible exact Mine.zx3 (by assumption) (by assumption) (by assumption) | omega)⟩
  | cons p r ih =>
    intro m hd
    have hn : low + m < ps.length := by
      rcases Nat.lt_or_ge (low + m) ps.length with x | x
      · exact x
      · rw [List.drop_eq_nil_of_le x] at hd; cases hd
    rw [List.drop_eq_getElem_cons hn] at hd
    injection hd with hd1 hd2
    have he : ps[low + m]? = some p := (List.getElem?_eq_getElem hn).trans (congrArg some hd1)
    obtain ⟨ih1, ih2⟩ := ih (m + 1) (by rw [← Nat.add_assoc]; exact hd2)
    rw [stGo_cons, T_succ he]
    by_cases hz : T ps d low (m + 1) = W
    · rw [if_pos hz]
      refine ⟨fun h e => ?_, fun e => by cases e⟩
      cases e
      exact ⟨m + 1, by (first | with_reducible exact Nat.lt_succ_self _ | omega), by omega, by (first | with_reducible exact Mine.zr2b (by assumption) | omega), hz, fun i h1 h2 => by omega⟩
    · rw [if_neg hz]
      cases hpr : prefixes (T ps d low (m + 1)) W with
      | true =>
        rw [if_pos rfl]
        refine ⟨fun h e => ?_, fun e j h1 h2 => ?_⟩
        · obtain ⟨j, a1, a2, a3, a4, a5⟩ := ih1 h e
          refine ⟨j, by (first | with_reducible exact Nat.lt_of_succ_lt (by assumption) | omega), a2, a3, a4, fun i h1 h2 => ?_⟩
          by_cases hi : i = m + 1
          · subst hi; exact hz
          · exact a5 i (by (first | with_reducible exact Mine.zp15 (by assumption) (by assumption) | omega)) h2
        · by_cases hi : j = m + 1
          · subst hi; exact hz
          · exact ih2 e j (by (first | with_reducible exact Mine.zp15 (by assumption) (by assumption) | omega)) h2
      | false =>
        rw [if_neg (by decide)]
        refine ⟨fun h e => (by cases e), fun w0 j h1 h2 e => ?_⟩
        have := prefixes_of (ps := ps) (d := d) (low := low) (show m + 1 ≤ j by (first | with_reducible exact Nat.succ_le_of_lt (by assumption) | omega)) e
        rw [hpr] at this; cases this

theorem isM_iff {ps : List Pc} {W : List (List Int)} {d low j : Nat} : isM ps W d low (low + j) = true ↔ idleAt ps low = false ∧ idleAt ps (low + j - 1) = false ∧ T ps d low j = W := by
  unfold isM T cutT
  rw [show low + j - low = j by (first | with_reducible exact Nat.add_sub_cancel_left _ _ | omega), Bool.and_eq_true, Bool.and_eq_true, Bool.not_eq_true', Bool.not_eq_true', decide_eq_true_iff]
  exact ⟨fun ⟨⟨a, b⟩, c⟩ => ⟨a, b, c⟩, fun ⟨a, b, c⟩ => ⟨⟨a, b⟩, c⟩⟩

theorem stretch_law {ps : List Pc} {W : List (List Int)} {d low : Nat} (hp : ∀ p ∈ ps, p.lv.length = d) (hW : W.length = d) (hWi : idle W = false) :
    (∀ h, stretch ps low W = some h → ∃ j, 0 < j ∧ h = low + j ∧ low + j ≤ ps.length ∧ isM ps W d low (low + j) = true ∧ ∀ i, 0 < i → low + i ≤ ps.length → i ≠ j → isM ps W d low (low + i) = false) ∧
    (stretch ps low W = none → ∀ i, 0 < i → low + i ≤ ps.length → isM ps W d low (low + i) = false) := by
  cases hi : idleAt ps low with
  | true =>
    have none : ∀ i, isM ps W d low (low + i) = false := fun i => by
      cases hb : isM ps W d low (low + i) with
      | false => rfl
      | true => have := (isM_iff.mp hb).1; rw [hi] at this; cases this
    refine ⟨fun h e => ?_, fun w0 i w0 w0 => none i⟩
    unfold stretch at e; rw [hi, if_pos rfl] at e; cases e
  | false =>
    have hs : stretch ps low W = stGo W (ps.drop (low + 0)) (low + 0) (T ps d low 0) := by
      unfold stretch; rw [hi, if_neg (by decide), ← T_zero ps d low W hW]; rfl
    obtain ⟨s1, s2⟩ := stGo_law (ps := ps) (d := d) (low := low) (W := W) _ 0 rfl
    refine ⟨fun h e => ?_, fun e i h1 h2 => ?_⟩
    · have sp := stretch_spec hWi e
      rw [hs] at e
      obtain ⟨j, a1, a2, a3, a4, a5⟩ := s1 h e
      subst a2
      refine ⟨j, a1, rfl, a3, isM_iff.mpr ⟨hi, sp.2.2.1, a4⟩, fun i h1 h2 h3 => ?_⟩
      cases hb : isM ps W d low (low + i) with
      | false => rfl
      | true =>
        obtain ⟨b1, b2, b3⟩ := isM_iff.mp hb
        rcases Nat.lt_or_gt_of_ne h3 with h4 | h4
        · exact absurd b3 (a5 i h1 h4)
        · exact absurd (a4.trans b3.symm) (T_ne hp h4 h2 b2)
    · rw [hs] at e
      cases hb : isM ps W d low (low + i) with
      | false => rfl
      | true => exact absurd (isM_iff.mp hb).2.2 (s2 e i h1 h2)
theorem idle_law {ps : List Pc} {W : List (List Int)} {d low : Nat} (hp : ∀ p ∈ ps, p.lv.length = d) (hW : W.length = d) (hWi : idle W = true) (i : Nat) (h1 : 0 < i) (h2 : low + i ≤ ps.length) : isM ps W d low (low + i) = false := by
  cases hb : isM ps W d low (low + i) with
  | false => rfl
  | true =>
    obtain ⟨b1, b2, b3⟩ := isM_iff.mp hb
    have h0 : T ps d low 0 = W := by
      rw [← T_zero ps d low W hW]
      refine ext_getD (by simp) fun j hj => ?_
      rw [List.length_map] at hj
      have e1 : W.getD j [] = [] := by
        rw [List.getD_eq_getElem?_getD, List.getElem?_eq_getElem hj]
        exact List.isEmpty_iff.mp (List.all_eq_true.mp hWi _ (List.getElem_mem hj))
      rw [e1, List.getD_eq_getElem?_getD, List.getElem?_map, List.getElem?_eq_getElem hj]; rfl
    exact absurd (h0.trans b3.symm) (T_ne hp h1 h2 b2)
end Mine

namespace Mine

theorem ahead_succ (ps : List Pc) (n : Nat) : ahead ps (n + 1) = if idleAt ps n then ahead ps n + 1 else 0 := rfl
theorem begins_succ (ps : List Pc) (n : Nat) : begins ps (n + 1) = aAt ps (n + 1) :: if idleAt ps n then begins ps n else [] := by
  unfold begins
  rw [ahead_succ]
  cases idleAt ps n with
  | true =>
    rw [if_pos rfl, if_pos rfl, List.range_succ_eq_map, List.map_cons, List.map_map]
    refine congrArg (List.cons _) (List.map_congr_left fun i w0 => ?_)
    show aAt ps (n + 1 - (i + 1)) = aAt ps (n - i)
    rw [show n + 1 - (i + 1) = n - i by (first | with_reducible exact Mine.zq1 | omega)]
  | false => rfl
theorem wholeF_fit (ps : List Pc) (ks : List Int) : ∀ n, (wholeF ps ks n).map (aAt ps) = (begins ps n).find? fun x => ks.contains x := by
  intro xx
  induction xx with
  | zero =>
    show (if ks.contains (aAt ps 0) then some 0 else none : Option Nat).map (aAt ps) = List.find? _ [aAt ps 0]
    rw [List.find?_cons]
    cases ks.contains (aAt ps 0) <;> rfl
  | succ n ih =>
    have ih := ih
    rw [begins_succ, List.find?_cons]
    show (if ks.contains (aAt ps (n + 1)) then some (n + 1) else if idleAt ps n then wholeF ps ks n else none : Option Nat).map (aAt ps) = _
    cases ks.contains (aAt ps (n + 1)) with
    | true => rfl
    | false =>
      cases idleAt ps n with
      | true => exact ih
      | false => rfl

theorem behinds_step {ps : List Pc} {b : Nat} (h0 : 0 < b) (h : b < ps.length) : behinds ps b = bAt ps (b - 1) :: if idleAt ps b then behinds ps (b + 1) else [] := by
  unfold behinds
  rw [behind_step h]
  cases idleAt ps b with
  | true =>
    rw [if_pos rfl, if_pos rfl, List.range_succ_eq_map, List.map_cons, List.map_map]
    refine congrArg (List.cons _) (List.map_congr_left fun i w0 => ?_)
    show bAt ps (b - 1 + (i + 1)) = bAt ps (b + 1 - 1 + i)
    rw [show b - 1 + (i + 1) = b + 1 - 1 + i by (first | with_reducible exact Mine.zq2 (by assumption) | omega)]
  | false => rfl
theorem behinds_end {ps : List Pc} {b : Nat} (h : ps.length ≤ b) : behinds ps b = [bAt ps (b - 1)] := by
  unfold behinds
  rw [behind_end h]; rfl
theorem wholeB_fit (ps : List Pc) (ks : List Int) : ∀ (f b : Nat), ps.length - b = f → 0 < b → (wholeB ps ks b).map (fun y => bAt ps (y - 1)) = (behinds ps b).find? fun x => ks.contains x := by
  intro xx
  induction xx with
  | zero =>
    intro b hf h0
    rw [wholeB_end (by (first | with_reducible exact Mine.zs5 (by assumption) | omega)), behinds_end (by (first | with_reducible exact Mine.zs5 (by assumption) | omega)), List.find?_cons]
    cases ks.contains (bAt ps (b - 1)) <;> rfl
  | succ f ih =>
    intro b hf h0
    have ih := ih (b + 1) (by (first | with_reducible exact Mine.zs1 (by assumption) | omega)) (by (first | with_reducible exact Nat.lt_succ_of_lt (by assumption) | omega))
    rw [wholeB_step (by (first | with_reducible exact Mine.zs2 (by assumption) | omega)), behinds_step h0 (by (first | with_reducible exact Mine.zs2 (by assumption) | omega)), List.find?_cons]
    cases ks.contains (bAt ps (b - 1)) with
    | true => rfl
    | false =>
      cases idleAt ps b with
      | true => exact ih
      | false => rfl

theorem ahead_idle {ps : List Pc} : ∀ {n j : Nat}, n - ahead ps n ≤ j → j < n → idleAt ps j = true
  | n + 1, j, h1, h2 => by
    rw [ahead_succ] at h1
    cases hi : idleAt ps n with
    | false => rw [hi, if_neg (by decide)] at h1; (first | with_reducible exact Mine.zq15 (by assumption) (by assumption) | omega)
    | true =>
      rw [hi, if_pos rfl] at h1
      by_cases hj : j = n
      · subst hj; exact hi
      · exact ahead_idle (n := n) (by (first | with_reducible exact Mine.zq14 (by assumption) | omega)) (by (first | with_reducible exact Mine.zx7c (by assumption) (by assumption) | omega))
theorem behind_idle {ps : List Pc} : ∀ {f b j : Nat}, ps.length - b = f → b ≤ j → j < b + behind ps b → idleAt ps j = true
  | 0, b, j, hf, h1, h2 => by rw [behind_end (by (first | with_reducible exact Mine.zs5 (by assumption) | omega))] at h2; (first | with_reducible exact Mine.zx5 (by assumption) (by assumption) | omega)
  | f + 1, b, j, hf, h1, h2 => by
    rw [behind_step (by (first | with_reducible exact Mine.zs2 (by assumption) | omega))] at h2
    cases hi : idleAt ps b with
    | false => rw [hi, if_neg (by decide)] at h2; (first | with_reducible exact Mine.zx5 (by assumption) (by assumption) | omega)
    | true =>
      rw [hi, if_pos rfl] at h2
      by_cases hj : j = b
      · subst hj; exact hi
      · exact behind_idle (f := f) (b := b + 1) (by (first | with_reducible exact Mine.zs1 (by assumption) | omega)) (by (first | with_reducible exact Mine.zx7 (by assumption) (by assumption) | omega)) (by (first | with_reducible exact Mine.zx6 (by assumption) | omega))

theorem begins_rev (ps : List Pc) (f : Nat) : (begins ps f).reverse = (List.range (f - (f - ahead ps f) + 1)).map fun i => aAt ps (f - ahead ps f + i) := by
  have hle := ahead_le ps f
  refine List.ext_getElem ?_ fun i h1 h2 => ?_
  · unfold begins; simp; (first | with_reducible exact Mine.zq16 (by assumption) | omega)
  · have h3 : i < ahead ps f + 1 := by simpa [begins] using h1
    rw [List.getElem_reverse, List.getElem_map, List.getElem_range]
    unfold begins
    rw [List.getElem_map, List.getElem_range, List.length_map, List.length_range]
    rw [show f - (ahead ps f + 1 - 1 - i) = f - ahead ps f + i by (first | with_reducible exact Mine.zq4 (by assumption) (by assumption) | omega)]
theorem behinds_rev (ps : List Pc) {b : Nat} (h0 : 0 < b) : (behinds ps b).reverse = (List.range (b + behind ps b - (b - 1))).map fun i => bAt ps (b + behind ps b - 1 - i) := by
  refine List.ext_getElem ?_ fun i h1 h2 => ?_
  · unfold behinds; simp; (first | with_reducible exact Mine.zq5 (by assumption) | omega)
  · have h3 : i < behind ps b + 1 := by simpa [behinds] using h1
    rw [List.getElem_reverse, List.getElem_map, List.getElem_range]
    unfold behinds
    rw [List.getElem_map, List.getElem_range, List.length_map, List.length_range]
    rw [show b - 1 + (behind ps b + 1 - 1 - i) = b + behind ps b - 1 - i by (first | with_reducible exact Mine.zq3 (by assumption) (by assumption) | omega)]

theorem narF_fit {ps : List Pc} (ks : List Int) {f : Nat} (hf : f < ps.length) (hi : idleAt ps f = false) : ∀ (t m : Nat), f - m = t → m ≤ f → (∀ j, m ≤ j → j < f → idleAt ps j = true) →
    (narF ps ks m).map (aAt ps) = ((List.range (f - m + 1)).map fun i => aAt ps (m + i)).find? fun x => ks.contains x := by
  intro xx
  induction xx with
  | zero =>
    intro m ht hm hj
    have e : m = f := by (first | with_reducible exact Mine.zs4 (by assumption) (by assumption) | omega)
    subst e
    rw [narF_step hf, hi, show m - m + 1 = 1 by omega]
    show _ = List.find? _ [aAt ps m]
    rw [List.find?_cons]
    cases ks.contains (aAt ps m) <;> rfl
  | succ t ih =>
    intro m ht hm hj
    have ih := ih (m + 1) (by (first | with_reducible exact Mine.zs1 (by assumption) | omega)) (by (first | with_reducible exact Mine.zs3 (by assumption) | omega)) fun j h1 h2 => hj j (by (first | with_reducible exact Nat.le_of_succ_le (by assumption) | omega)) h2
    rw [narF_step (by (first | with_reducible exact Nat.lt_of_le_of_lt (by assumption) (by assumption) | omega)), hj m (Nat.le_refl _) (by (first | with_reducible exact Mine.zs2 (by assumption) | omega)), if_pos rfl, show f - m + 1 = (f - (m + 1) + 1) + 1 by (first | with_reducible exact Mine.zq6 (by assumption) | omega), List.range_succ_eq_map, List.map_cons, List.map_map, List.find?_cons]
    have e : (List.range (f - (m + 1) + 1)).map ((fun i => aAt ps (m + i)) ∘ Nat.succ) = (List.range (f - (m + 1) + 1)).map fun i => aAt ps (m + 1 + i) := List.map_congr_left fun i w0 => by
      show aAt ps (m + (i + 1)) = aAt ps (m + 1 + i)
      rw [show m + (i + 1) = m + 1 + i by (first | with_reducible exact Mine.za4.symm | omega)]
    rw [e, ← ih, Nat.add_zero]
    cases ks.contains (aAt ps m) <;> rfl
theorem narB_fit {ps : List Pc} (ks : List Int) {u : Nat} (hi : idleAt ps u = false) : ∀ (t m : Nat), m - (u + 1) = t → u < m → (∀ j, u < j → j < m → idleAt ps j = true) →
    (narB ps ks m).map (fun y => bAt ps (y - 1)) = ((List.range (m - u)).map fun i => bAt ps (m - 1 - i)).find? fun x => ks.contains x := by
  intro xx
  induction xx with
  | zero =>
    intro m ht hm hj
    have e : m = u + 1 := by (first | with_reducible exact Mine.zq12 (by assumption) (by assumption) | omega)
    subst e
    rw [narB_step (by (first | with_reducible exact Nat.succ_pos _ | omega)), show u + 1 - 1 = u by (first | with_reducible exact Mine.zw1 | omega), hi, show u + 1 - u = 1 by (first | with_reducible exact Nat.add_sub_cancel_left _ _ | omega)]
    show _ = List.find? _ [bAt ps u]
    rw [List.find?_cons]
    cases ks.contains (bAt ps u) <;> rfl
  | succ t ih =>
    intro m ht hm hj
    have ih := ih (m - 1) (by (first | with_reducible exact Mine.zq10 (by assumption) | omega)) (by (first | with_reducible exact Mine.zq11 (by assumption) | omega)) fun j h1 h2 => hj j h1 (by (first | with_reducible exact Nat.lt_of_lt_of_le (by assumption) (Nat.sub_le _ _) | omega))
    rw [narB_step (by (first | with_reducible exact Mine.zp9 (by assumption) | omega)), hj (m - 1) (by (first | with_reducible exact Mine.zq11 (by assumption) | omega)) (by (first | with_reducible exact Mine.zp4 (by assumption) | omega)), if_pos rfl, show m - u = (m - 1 - u) + 1 by (first | with_reducible exact Mine.zq7 (by assumption) | omega), List.range_succ_eq_map, List.map_cons, List.map_map, List.find?_cons]
    have e : (List.range (m - 1 - u)).map ((fun i => bAt ps (m - 1 - i)) ∘ Nat.succ) = (List.range (m - 1 - u)).map fun i => bAt ps (m - 1 - 1 - i) := List.map_congr_left fun i w0 => by
      show bAt ps (m - 1 - (i + 1)) = bAt ps (m - 1 - 1 - i)
      rw [show m - 1 - (i + 1) = m - 1 - 1 - i by (first | with_reducible exact Mine.zq9 | omega)]
    rw [e, ← ih, Nat.sub_zero]
    cases ks.contains (bAt ps (m - 1)) <;> rfl

theorem both_place (ps : List Pc) (x y : Option Nat) : (both x y).map (placeOf ps) = (x.map (aAt ps)).bind fun a => (y.map fun b => bAt ps (b - 1)).map fun b => (a, b) := by
  cases x <;> cases y <;> rfl
theorem find_all (l : List Int) : l.find? (inE none) = l.head? := by cases l <;> rfl

theorem pair_law {ps : List Pc} {E : Option (List Int)} {wide : Bool} {f b : Nat} (hf : f < ps.length) (hb0 : 0 < b) (hi1 : idleAt ps f = false) (hi2 : idleAt ps (b - 1) = false) :
    (chosen ps f b E wide).map (placeOf ps) = pairAt ps E wide f b := by
  have hal := ahead_le ps f
  unfold pairAt fit chosen
  cases wide with
  | true =>
    rw [if_pos rfl, if_pos rfl, if_pos rfl, begins_rev, behinds_rev ps hb0]
    cases E with
    | none =>
      rw [find_all, find_all, List.range_succ_eq_map, show b + behind ps b - (b - 1) = behind ps b + 1 by (first | with_reducible exact (Mine.zq5 (by assumption)).symm | omega), List.range_succ_eq_map]
      show some (aAt ps (f - ahead ps f), bAt ps (b + behind ps b - 1)) = _
      simp
    | some ks =>
      show (both (narF ps ks (f - ahead ps f)) (narB ps ks (b + behind ps b))).map (placeOf ps) = _
      rw [both_place, narF_fit ks hf hi1 _ _ rfl (by (first | with_reducible exact Nat.sub_le _ _ | omega)) (fun j h1 h2 => ahead_idle h1 h2), narB_fit ks hi2 _ _ rfl (by omega) (fun j h1 h2 => behind_idle (b := b) rfl (by (first | with_reducible exact Mine.zq13 (by assumption) | omega)) h2)]
      rfl
  | false =>
    rw [if_neg (by decide), if_neg (by decide), if_neg (by decide)]
    cases E with
    | none =>
      rw [find_all, find_all]
      unfold begins behinds
      rw [List.range_succ_eq_map, List.range_succ_eq_map]; rfl
    | some ks =>
      show (both (wholeF ps ks f) (wholeB ps ks b)).map (placeOf ps) = _
      rw [both_place, wholeF_fit, wholeB_fit ps ks _ b rfl hb0]
      rfl

theorem ahead_past {ps : List Pc} {i : Nat} (hi : idleAt ps i = false) {n : Nat} (h : i < n) : i < n - ahead ps n := by
  rcases Nat.lt_or_ge i (n - ahead ps n) with h1 | h1
  · exact h1
  · have := ahead_idle h1 h
    rw [hi] at this; cases this
theorem runs_lo {x z : Int} : ∀ {ps : List Pc}, Runs x ps z → x ≤ z ∧ ∀ p ∈ ps, x ≤ p.a
  | [], h => ⟨Int.le_of_eq h, fun w0 h => nomatch h⟩
  | p :: r, h => by
    obtain ⟨h1, h2, h3⟩ := h
    have ih := runs_lo h3
    refine ⟨by omega, fun q hq => ?_⟩
    rcases List.mem_cons.mp hq with rfl | hq
    · (first | with_reducible exact Int.le_of_eq (Eq.symm (by assumption)) | omega)
    · have := ih.2 q hq; omega
theorem runs_rise {z : Int} : ∀ {ps : List Pc} {x : Int} {i j : Nat}, Runs x ps z → i < j → j < ps.length → aAt ps i < aAt ps j
  | [], _, _, _, _, _, h => by simp at h
  | p :: r, x, 0, j + 1, h, _, hj => by
    obtain ⟨h1, h2, h3⟩ := h
    have hj' : j < r.length := by simpa using hj
    obtain ⟨q, hq⟩ := get_of_lt hj'
    have := (runs_lo h3).2 q (List.mem_of_getElem? hq)
    rw [aAt_of (show (p :: r)[0]? = some p from rfl), aAt_of (show (p :: r)[j + 1]? = some q from hq)]
    (first | with_reducible exact Int.lt_of_lt_of_le (by assumption) (by assumption) | omega)
  | p :: r, x, i + 1, j + 1, h, hij, hj => by
    have hj' : j < r.length := by simpa using hj
    have := runs_rise h.2.2 (show i < j by omega) hj'
    exact this
  | p :: r, x, i, 0, _, h, _ => by omega

theorem mem_begins {ps : List Pc} {f : Nat} {y : Int} (h : y ∈ begins ps f) : ∃ j, f - ahead ps f ≤ j ∧ j ≤ f ∧ y = aAt ps j := by
  unfold begins at h
  obtain ⟨i, hi, rfl⟩ := List.mem_map.mp h
  have hi := List.mem_range.mp hi
  exact ⟨f - i, by (first | with_reducible exact Mine.zq18 (by assumption) | omega), by (first | with_reducible exact Nat.sub_le _ _ | omega), rfl⟩
theorem pair_first {ps : List Pc} {E : Option (List Int)} {wide : Bool} {f b : Nat} {p : Int × Int} (h : pairAt ps E wide f b = some p) : p.1 ∈ begins ps f := by
  unfold pairAt at h
  obtain ⟨x, hx, h⟩ := Option.bind_eq_some_iff.mp h
  obtain ⟨y, hy, rfl⟩ := Option.map_eq_some_iff.mp h
  unfold fit at hx
  have := List.mem_of_find?_eq_some hx
  cases wide with
  | true => exact List.mem_reverse.mp this
  | false => exact this
end Mine

namespace Mine

theorem dueIn_none {ps : List Pc} {W : List (List Int)} {E : Option (List Int)} {wide : Bool} {d low : Nat} {acc : List (Int × Int)} : ∀ n, (∀ i, i < n → isM ps W d low (low + 1 + i) = false) → dueIn ps W E wide d low acc n = acc
  | 0, _ => rfl
  | n + 1, h => by
    have ih := dueIn_none (E := E) (wide := wide) (acc := acc) n fun i hi => h i (by (first | with_reducible exact Nat.lt_succ_of_lt (by assumption) | omega))
    show (if isM ps W d low (low + 1 + n) then dueAdd (dueIn ps W E wide d low acc n) (pairAt ps E wide low (low + 1 + n)) else dueIn ps W E wide d low acc n) = acc
    rw [h n (by (first | with_reducible exact Nat.lt_succ_self _ | omega)), ih]; rfl
theorem dueIn_one {ps : List Pc} {W : List (List Int)} {E : Option (List Int)} {wide : Bool} {d low i0 : Nat} {acc : List (Int × Int)} (h0 : isM ps W d low (low + 1 + i0) = true) : ∀ n, i0 < n → (∀ i, i < n → i ≠ i0 → isM ps W d low (low + 1 + i) = false) →
    dueIn ps W E wide d low acc n = dueAdd acc (pairAt ps E wide low (low + 1 + i0))
  | n + 1, hn, h => by
    show (if isM ps W d low (low + 1 + n) then dueAdd (dueIn ps W E wide d low acc n) (pairAt ps E wide low (low + 1 + n)) else dueIn ps W E wide d low acc n) = _
    by_cases e : n = i0
    · subst e
      rw [h0, if_pos rfl, dueIn_none n fun i hi => h i (by (first | with_reducible exact Nat.lt_succ_of_lt (by assumption) | omega)) (by omega)]
    · rw [h n (by (first | with_reducible exact Nat.lt_succ_self _ | omega)) e, if_neg (by decide)]
      exact dueIn_one h0 n (by (first | with_reducible exact Mine.zx7d (by assumption) (by assumption) | omega)) fun i hi => h i (by (first | with_reducible exact Nat.lt_succ_of_lt (by assumption) | omega))

noncomputable def res (ps : List Pc) (W : List (List Int)) (E : Option (List Int)) (wide : Bool) (n : Nat) : Option (Int × Int) := (spot ps W E wide n).map (placeOf ps)

theorem res_law {ps : List Pc} {W : List (List Int)} {E : Option (List Int)} {wide : Bool} {d low : Nat} {acc : List (Int × Int)} (hp : ∀ p ∈ ps, p.lv.length = d) (hW : W.length = d) (hWi : idle W = false) (hl : low < ps.length) :
    dueIn ps W E wide d low acc (ps.length - low) = dueAdd acc (res ps W E wide low) ∧ (∀ p, res ps W E wide low = some p → idleAt ps low = false ∧ p.1 ∈ begins ps low) := by
  obtain ⟨s1, s2⟩ := stretch_law (ps := ps) (low := low) hp hW hWi
  unfold res spot
  cases hs : stretch ps low W with
  | none =>
    refine ⟨dueIn_none _ fun i hi => ?_, fun p e => by cases e⟩
    rw [Nat.add_assoc]; exact s2 hs (1 + i) (by (first | with_reducible exact Mine.zw6 | omega)) (by (first | with_reducible exact Mine.zw4 (by assumption) | omega))
  | some h =>
    obtain ⟨j, a1, a2, a3, a4, a5⟩ := s1 h hs
    subst a2
    obtain ⟨b1, b2, b3⟩ := isM_iff.mp a4
    show dueIn ps W E wide d low acc (ps.length - low) = dueAdd acc ((chosen ps low (low + j) E wide).map (placeOf ps)) ∧ ∀ p, (chosen ps low (low + j) E wide).map (placeOf ps) = some p → _
    rw [pair_law hl (by (first | with_reducible exact Mine.zw6b (by assumption) | omega)) b1 b2]
    obtain ⟨i0, rfl⟩ : ∃ i0, j = 1 + i0 := ⟨j - 1, by (first | with_reducible exact Mine.zw2 (by assumption) | omega)⟩
    rw [← Nat.add_assoc] at a4 ⊢
    refine ⟨dueIn_one a4 _ (by (first | with_reducible exact Mine.zw3 (by assumption) | omega)) fun i hi hne => ?_, fun p e => ⟨b1, pair_first e⟩⟩
    rw [Nat.add_assoc]
    exact a5 (1 + i) (by (first | with_reducible exact Mine.zw6 | omega)) (by (first | with_reducible exact Mine.zw4 (by assumption) | omega)) (by omega)

theorem go_law {ps : List Pc} {W : List (List Int)} {E : Option (List Int)} {wide : Bool} {d : Nat} {x z : Int} (hp : ∀ p ∈ ps, p.lv.length = d) (hr : Runs x ps z) (hW : W.length = d) (hWi : idle W = false) : ∀ n, n ≤ ps.length →
    dueGo ps W E wide d n = saGo ps W E wide n ∧ Rising (saGo ps W E wide n) ∧ ∀ p ∈ saGo ps W E wide n, ∃ low, low < n ∧ idleAt ps low = false ∧ p.1 ∈ begins ps low := by
  intro xx
  induction xx with
  | zero =>
    intro _
    exact ⟨rfl, List.Pairwise.nil, fun w0 h => nomatch h⟩
  | succ n ih =>
    intro hn
    obtain ⟨ih1, ih2, ih3⟩ := ih (by (first | with_reducible exact Nat.le_of_succ_le (by assumption) | omega))
    obtain ⟨r1, r2⟩ := res_law (E := E) (wide := wide) (acc := dueGo ps W E wide d n) hp hW hWi (show n < ps.length by (first | with_reducible exact Nat.lt_of_succ_le (by assumption) | omega))
    have hsa : saGo ps W E wide (n + 1) = addP (saGo ps W E wide n) (res ps W E wide n) := rfl
    have hdu : dueGo ps W E wide d (n + 1) = dueIn ps W E wide d n (dueGo ps W E wide d n) (ps.length - n) := rfl
    rw [hsa, hdu, r1, ih1]
    cases hres : res ps W E wide n with
    | none =>
      refine ⟨rfl, ih2, fun p h => ?_⟩
      obtain ⟨low, c1, c2⟩ := ih3 p h
      exact ⟨low, by (first | with_reducible exact Nat.lt_succ_of_lt (by assumption) | omega), c2⟩
    | some p =>
      obtain ⟨q1, q2⟩ := r2 p hres
      have hlt : ∀ o ∈ saGo ps W E wide n, o.1 < p.1 := fun o ho => by
        obtain ⟨low, c1, c2, c3⟩ := ih3 o ho
        obtain ⟨j1, d1, d2, d3⟩ := mem_begins c3
        obtain ⟨j2, e1, e2, e3⟩ := mem_begins q2
        have := ahead_past c2 c1
        rw [d3, e3]
        exact runs_rise hr (show j1 < j2 by (first | with_reducible exact Mine.zx8 (by assumption) (by assumption) (by assumption) | omega)) (by omega)
      have hnm : p ∉ saGo ps W E wide n := fun h => by have := hlt p h; (first | with_reducible exact Mine.zv6 (by assumption) (by assumption) | omega)
      have hnl : (saGo ps W E wide n).getLast? ≠ some p := fun h => hnm (List.mem_of_getLast? h)
      have e1 : dueAdd (saGo ps W E wide n) (some p) = saGo ps W E wide n ++ [p] := if_neg hnm
      have e2 : addP (saGo ps W E wide n) (some p) = saGo ps W E wide n ++ [p] := if_neg hnl
      rw [e1, e2]
      refine ⟨rfl, List.pairwise_append.mpr ⟨ih2, List.pairwise_singleton _ _, fun a ha b hb => ?_⟩, fun o ho => ?_⟩
      · rw [List.mem_singleton] at hb; subst hb
        have := hlt a ha
        unfold lexLt
        rw [if_neg (by omega)]; exact decide_eq_true this
      · rcases List.mem_append.mp ho with ho | ho
        · obtain ⟨low, c1, c2⟩ := ih3 o ho
          exact ⟨low, by (first | with_reducible exact Nat.lt_succ_of_lt (by assumption) | omega), c2⟩
        · rw [List.mem_singleton] at ho; subst ho
          exact ⟨n, by (first | with_reducible exact Nat.lt_succ_self _ | omega), q1, q2⟩

theorem dueGo_idle {ps : List Pc} {W : List (List Int)} {E : Option (List Int)} {wide : Bool} {d : Nat} (hp : ∀ p ∈ ps, p.lv.length = d) (hW : W.length = d) (hWi : idle W = true) : ∀ n, n ≤ ps.length → dueGo ps W E wide d n = []
  | 0, _ => rfl
  | n + 1, hn => by
    have hdu : dueGo ps W E wide d (n + 1) = dueIn ps W E wide d n (dueGo ps W E wide d n) (ps.length - n) := rfl
    rw [hdu, dueGo_idle hp hW hWi n (by (first | with_reducible exact Nat.le_of_succ_le (by assumption) | omega))]
    refine dueIn_none _ fun i hi => ?_
    rw [Nat.add_assoc]
    exact idle_law hp hW hWi (1 + i) (by (first | with_reducible exact Mine.zw6 | omega)) (by (first | with_reducible exact Mine.zw4 (by assumption) | omega))

theorem all_law {ps : List Pc} {W : List (List Int)} {E : Option (List Int)} {wide : Bool} {d : Nat} {x z : Int} (hp : PsOk d ps) (hr : Runs x ps z) (hW : W.length = d) :
    SortOk (due ps W E wide d) ∧ sortP (due ps W E wide d) = searchAll ps W E wide := by
  have key : due ps W E wide d = searchAll ps W E wide ∧ Rising (searchAll ps W E wide) ∧ (searchAll ps W E wide).length ≤ 10 := by
    unfold due searchAll
    cases hWi : idle W with
    | true =>
      rw [if_pos rfl, dueGo_idle hp.lv hW hWi _ (Nat.le_refl _)]
      exact ⟨rfl, List.Pairwise.nil, by simp⟩
    | false =>
      rw [if_neg (by decide)]
      obtain ⟨h1, h2, _⟩ := go_law (E := E) (wide := wide) hp.lv hr hW hWi ps.length (Nat.le_refl _)
      exact ⟨h1, h2, Nat.le_trans (saGo_len ..) hp.len⟩
  obtain ⟨k1, k2, k3⟩ := key
  rw [k1]
  exact sort_inc k2 k3
end Mine

namespace Mine
section
variable {g : Gr} {k : Nat} {env : Env} {ρ : Vars} {st : Store} {P : Params}


theorem c_allF (T : Tx g P) {ps : List Pc} {W : List (List Int)} {E : Option (List Int)} {wide : Bool} {d : Nat} (hp : PsOk d ps) (hW : W.length = d) (hWl : ∀ l ∈ W, l.length ≤ 100) {Q : D → Store → Prop}
    (q : Q (.dat (.list (prsL (searchAll ps W E wide)))) st) : CaJ g (k + 4) (.ref 92) [.pcs ps, .dat (lvD W), endsD E, .dat (.bool wide)] st Q :=
  ca_freeze (c_all T hp hW hWl fun a ha => ⟨a, _, rfl, Store.set_same .., by rw [Store.del_set _ _ ha]; exact q⟩)

theorem wanted_len {d : Nat} {ps : List Pc} (h : PsOk d ps) : ∀ l ∈ together ps d, l.length ≤ 30 := by
  intro l hl
  unfold together at hl
  obtain ⟨i, _, rfl⟩ := List.mem_map.mp hl
  have := rowOf_len h i (qs := ps) fun w0 h => h
  have := h.len
  (first | with_reducible exact Mine.zu9 (by assumption) (by assumption) (by decide) | omega)

theorem set_len {n : Nat} {W : List (List Int)} {i : Nat} {x : List Int} (h : ∀ l ∈ W, l.length ≤ n) (hx : x.length ≤ n) : ∀ l ∈ W.set i x, l.length ≤ n := fun l hl => by
  rcases List.mem_or_eq_of_mem_set hl with h1 | rfl
  · exact h l h1
  · exact hx

end
end Mine

namespace Mine
section
variable {g : Gr} {k : Nat} {env : Env} {ρ : Vars} {st : Store} {P : Params}
inductive ivN18a (d : Nat) (st : Store) (c : Addr) (w : Addr) (ys5 : List PyData) (ps : List Pc) (ρ1 : Vars) (st1 : Store) : Prop
  | mk (W : List (List Int)) (q1 : W.length = d) (q2 : (∀ l ∈ W, l.length ≤ 100)) (q3 : st1 = (st.set c (W.map iL)).set w ys5) (q4 : ρ1 "well" = some (.cell w)) (q5 : ρ1 "depth" = some (.dat (.int d))) (q6 : ρ1 "some" = some (.dat (.list (ps.map pcD)))) (q7 : ρ1 "wanted" = some (.cell c))
inductive ivN18b (st : Store) (w : Addr) (ys5 : List PyData) (d : Nat) (ps : List Pc) (W : List (List Int)) (ρ2 : Vars) (st2 : Store) : Prop
  | mk (pl : List Int) (q1 : pl.length ≤ 11) (q2 : st2 = st.set w ys5) (q3 : ρ2 "well" = some (.cell w)) (q4 : ρ2 "depth" = some (.dat (.int d))) (q5 : ρ2 "some" = some (.dat (.list (ps.map pcD)))) (q6 : ρ2 "wanted" = some (.dat (lvD W))) (q7 : ρ2 "places" = some (.dat (iL pl)))
inductive ivN18c (st : Store) (w : Addr) (d : Nat) (ps : List Pc) (W : List (List Int)) (ρ3 : Vars) (st3 : Store) : Prop
  | mk (ks : List Int) (ys : List PyData) (q1 : WellOk ys) (q2 : st3 = st.set w ys) (q3 : ρ3 "well" = some (.cell w)) (q4 : ρ3 "depth" = some (.dat (.int d))) (q5 : ρ3 "some" = some (.dat (.list (ps.map pcD)))) (q6 : ρ3 "wanted" = some (.dat (lvD W))) (q7 : ρ3 "ends" = some (.dic ks))
inductive ivN18d (st : Store) (w : Addr) (rem : List D) (acc : List Int) (st' : Store) : Prop
  | mk (rest : List Int) (ys : List PyData) (q1 : rem = rest.map (fun i => .dat (.int i))) (q2 : acc.length + rest.length ≤ 11) (q3 : WellOk ys) (q4 : st' = st.set w ys)
inductive ivN18e (st : Store) (w : Addr) (ys : List PyData) (d : Nat) (ps : List Pc) (W : List (List Int)) (ks : List Int) (ρ4 : Vars) (st4 : Store) : Prop
  | mk (q1 : st4 = st.set w ys) (q2 : ρ4 "well" = some (.cell w)) (q3 : ρ4 "depth" = some (.dat (.int d))) (q4 : ρ4 "some" = some (.dat (.list (ps.map pcD)))) (q5 : ρ4 "wanted" = some (.dat (lvD W))) (q6 : ρ4 "ends" = some (.dic ks)) (q7 : ρ4 "pieces" = some (.pcs ps))
inductive ivN18f (ps : List Pc) (st : Store) (w : Addr) (ys : List PyData) (rem : List D) (acc : List D) (st' : Store) : Prop
  | mk (rest done : List Pc) (q1 : done ++ rest = ps) (q2 : rem = rest.map (fun p => .dat (pcD p))) (q3 : acc = done.map D.pc) (q4 : st' = st.set w ys)
inductive ivN18g (st : Store) (w : Addr) (ys : List PyData) (d : Nat) (ps : List Pc) (W : List (List Int)) (rem : List D) (ρ5 : Vars) (st5 : Store) : Prop
  | mk (q1 : (∀ x ∈ rem, ∃ E, x = endsD E)) (q2 : st5 = st.set w ys) (q3 : ρ5 "well" = some (.cell w)) (q4 : ρ5 "depth" = some (.dat (.int d))) (q5 : ρ5 "some" = some (.dat (.list (ps.map pcD)))) (q6 : ρ5 "wanted" = some (.dat (lvD W))) (q7 : ρ5 "pieces" = some (.pcs ps))
inductive ivN18h (st : Store) (w : Addr) (ys : List PyData) (d : Nat) (ps : List Pc) (W : List (List Int)) (ρ6 : Vars) (st6 : Store) : Prop
  | mk (q1 : st6 = st.set w ys) (q2 : ρ6 "well" = some (.cell w)) (q3 : ρ6 "depth" = some (.dat (.int d))) (q4 : ρ6 "some" = some (.dat (.list (ps.map pcD)))) (q5 : ρ6 "wanted" = some (.dat (lvD W))) (q6 : ρ6 "pieces" = some (.pcs ps))
inductive ivN18i (st : Store) (w : Addr) (ys : List PyData) (d : Nat) (ps : List Pc) (W : List (List Int)) (E : Option (List Int)) (rem : List D) (ρ6 : Vars) (st6 : Store) : Prop
  | mk (q1 : (∀ x ∈ rem, ∃ b, x = .dat (.bool b))) (q2 : st6 = st.set w ys) (q3 : ρ6 "well" = some (.cell w)) (q4 : ρ6 "depth" = some (.dat (.int d))) (q5 : ρ6 "some" = some (.dat (.list (ps.map pcD)))) (q6 : ρ6 "wanted" = some (.dat (lvD W))) (q7 : ρ6 "pieces" = some (.pcs ps)) (q8 : ρ6 "bounds" = some (endsD E))
theorem c_law (T : Tx g P) {ns : List Int} (hl : ns.length ≤ 1000) {Q : D → Store → Prop} (q : Q (.dat (.bool true)) st) : CaJ g (k + 5) (.ref 179) [.dat (iL ns)] st Q := by
  refine ca_own T.K ["script"] rfl (fun L a => ?_) rfl (hb1 fun w0 => rfl) (fun w0 => rfl) ⟨rfl, rfl, rfl, rfl, rfl, rfl⟩
  have e0 : (PyData.list (((ns.map PyData.int).drop ((none : Option Int).elim 0 (clipAt (ns.map PyData.int).length))).take ((some (60 : Int)).elim (ns.map PyData.int).length (clipAt (ns.map PyData.int).length) - (none : Option Int).elim 0 (clipAt (ns.map PyData.int).length)))) = .list ((ns.take 60).map .int) := by
    rw [List.map_take]
    exact congrArg PyData.list (take_clip (b := 60))
  refine ex_cons <| sm_assign (.inr ⟨rfl, _, rfl⟩) <| ev_listC <| evs_cons <| ev_compP (f := fun i => .dat (.int i)) (F := fun i => some (.int (i.fmod 1000003))) (xs := ns.take 60) <| it_list (ht := .inl ⟨_, _, rfl⟩) <| ev_slice <| ev_name rfl <| pt_none <| pt_some <| ev_int ⟨60, rfl, ns.map .int, .dat, len_map hl, (ns.take 60).map fun i => .dat (.int i), [], .inl ⟨(ns.take 60).map .int, by rw [e0], rfl, maps⟩, rfl, by rw [List.length_take]; (first | with_reducible exact Nat.le_trans (Nat.min_le_left _ _) (by decide) | omega), fun C i w0 => ?_, .inl ?_⟩
  · exact as_name (.inl ⟨rfl, rfl⟩) <| ifs_nil <| ite_t rfl <| ev_bin <| ev_name rfl <| ev_int <| op_mod_int (by decide) ⟨rfl, _, rfl, rfl⟩
  rw [filterMap_some]
  refine evs_cons <| ev_int <| evs_cons <| ev_int <| evs_nil ⟨[iL ((ns.take 60).map fun i => i.fmod 1000003), .int 0, .int 148], by unfold iL; rw [List.map_map]; rfl, by simp, fun w hw => ?_⟩
  have hW0 : WellOk [iL ((ns.take 60).map fun i => i.fmod 1000003), .int 0, .int 148] := ⟨_, 0, 148, rfl, fun c hc => by
    obtain ⟨i, _, rfl⟩ := List.mem_map.mp hc
    exact fmod_bounds (by decide), by rw [List.length_map, List.length_take]; (first | with_reducible exact Nat.le_trans (Nat.min_le_left _ _) (by decide) | omega), by decide, by decide, by decide⟩
  generalize [iL ((ns.take 60).map fun i => i.fmod 1000003), .int 0, .int 148] = xs at hW0 ⊢
  refine ex_cons <| sm_assign (.inl rfl) <| ev_bin <| ev_int <| ev_call (T.nm (v := .ref 113)) T.ok <| evs_cons <| ev_name rfl <| evs_cons <| ev_int <| evs_nil <| c_drawS T hW0 (by decide) fun r ys1 r0 r1 hy1 => op_add_int ?_
  obtain ⟨d, hd⟩ : ∃ d : Nat, (1 + r : Int) = d := ⟨(1 + r).toNat, by omega⟩
  rw [hd]
  refine ex_cons <| sm_assign (.inl rfl) <| ev_call (T.nm (v := .ref 123)) T.ok <| evs_cons <| ev_name rfl <| evs_cons <| ev_name rfl <| evs_nil <| c_pieces T hy1 (by omega) (by omega) fun ps z ys2 hp hp1 hp9 hr hy2 => ?_
  refine ex_cons <| sm_assign (.inl rfl) <| ev_call (T.nm (v := .ref 113)) T.ok <| evs_cons <| ev_name rfl <| evs_cons <| ev_call T.len okB <| evs_cons <| ev_name rfl <| evs_nil <| ca_len .dat (len_map (ten_th hp.len)) <| evs_nil <| c_drawS T hy2 (by rw [List.length_map]; omega) fun lo ys3 lo0 lo1 hy3 => ?_
  rw [List.length_map] at lo1
  obtain ⟨low, rfl⟩ : ∃ n : Nat, lo = n := ⟨lo.toNat, by (first | with_reducible exact Mine.zi7 (by assumption) | omega)⟩
  refine ex_cons <| sm_assign (.inl rfl) <| ev_call (T.nm (v := .ref 135)) T.ok <| evs_cons <| ev_slice <| ev_name rfl <| pt_some <| ev_name rfl ⟨_, rfl, pt_some <| ev_bin <| ev_bin <| ev_name rfl <| ev_int <| op_add_int <| ev_call (T.nm (v := .ref 113)) T.ok <| evs_cons <| ev_name rfl <| evs_cons <| ev_int <| evs_nil <| c_drawS T hy3 (by decide) fun r4 ys4 w0 w0 hy4 => op_add_int ⟨_, rfl, ps.map pcD, .dat, len_map (ten_th hp.len), ?_⟩⟩
  rw [← List.map_drop, ← List.map_take]
  have hcut := hp.cut ((some (low : Int)).elim 0 (clipAt (ps.map pcD).length)) ((some ((low : Int) + 1 + r4)).elim (ps.map pcD).length (clipAt (ps.map pcD).length) - (some (low : Int)).elim 0 (clipAt (ps.map pcD).length))
  generalize (ps.drop _).take _ = qs at hcut ⊢
  refine evs_cons <| ev_name rfl <| evs_nil <| c_together T hcut fun c hc => ?_
  have hcw : c ≠ w := by rintro rfl; rw [Store.set_same] at hc; cases hc
  have hc' : st c = none := by rw [Store.set_ne _ _ hcw] at hc; exact hc
  have hW0l := together_len qs d
  have hW0m := wanted_len hcut
  generalize together qs d = W0 at hW0l hW0m ⊢
  rw [Store.set_comm _ _ _ (Ne.symm hcw)]
  refine ex_cons <| sm_assign (.inl rfl) <| ev_call (T.nm (v := .ref 113)) T.ok <| evs_cons <| ev_name rfl <| evs_cons <| ev_int <| evs_nil <| c_drawS T hy4 (by decide) fun way ys5 w0 w0 hy5 => ?_
  have hget : ∀ (W : List (List Int)), ((st.set c (W.map iL)).set w ys5) c = some (W.map iL) := fun W => by rw [Store.set_ne _ _ hcw, Store.set_same]
  refine ex_cut (ivN18a d st c w ys5 ps)
    (sm_if <| tr_cmp <| ev_name rfl <| ev_int <| cm_eq_int ?_) ?_
  · have hd1 := hp.d0
    have hd3 : d ≤ 1000 := Nat.le_trans hp.d1 (by decide)
    by_cases h4 : way = 4
    · obtain ⟨zl, hz⟩ : ∃ zl, W0.getLast? = some zl := by
        cases hz : W0.getLast? with
        | some zl => exact ⟨zl, rfl⟩
        | none => rw [List.getLast?_eq_none_iff.mp hz] at hW0l; simp at hW0l; omega
      have hzl := hW0m zl (List.mem_of_getLast? hz)
      refine ite_t (by rw [h4]; rfl) <| ex_cons <| sm_setitem (a := c) rfl <| ev_bin <| ev_item <| ev_name rfl <| ev_neg1 ⟨W0.map iL, -1, _, .inr ⟨c, rfl, hget W0⟩, rfl, .last (f := iL) hz (by rw [hW0l]; exact hd3), ?_⟩
      refine ev_list <| evs_cons <| ev_int <| evs_nil ⟨[.int 1], rfl, sm rfl, op_add_list .dat .dat (by rw [List.length_map]; simp; (first | with_reducible exact Nat.le_trans (by assumption) (by decide) | omega)) <| ev_neg1 ⟨_, -1, d - 1, W0.map iL, rfl, rfl, hget W0, len_map (by rw [hW0l]; exact hd3), .inr ⟨by decide, by rw [List.length_map]; (first | with_reducible exact Mine.zr13 (by assumption) | omega), by rw [List.length_map]; omega⟩, by rw [List.length_map]; omega, ?_⟩⟩
      rw [Store.swapW _ _ _ _ hcw, show (PyData.list (zl.map PyData.int ++ [.int 1])) = iL (zl ++ [1]) by unfold iL; rw [List.map_append]; rfl, ← List.map_set]
      exact ex_nil ⟨W0.set (d - 1) (zl ++ [1]), by rw [List.length_set]; exact hW0l, set_len (fun l hl => Nat.le_trans (hW0m l hl) (by decide)) (by simp; (first | with_reducible exact Nat.le_trans (by assumption) (by decide) | omega)), rfl, rfl, rfl, rfl, rfl⟩
    · refine ite_f (by simpa using h4) <| ex_cons <| sm_if <| tr_cmp <| ev_name rfl <| ev_int <| cm_eq_int ?_
      by_cases h5 : way = 5
      · have h00 : 0 < W0.length := by omega
        have hz0 : (W0.getD 0 []).length ≤ 30 := by
          rw [List.getD_eq_getElem?_getD, List.getElem?_eq_getElem h00]; exact hW0m _ (List.getElem_mem _)
        refine ite_t (by rw [h5]; rfl) <| ex_cons <| sm_setitem (a := c) rfl <| ev_slice <| ev_item <| ev_name rfl <| ev_int ⟨W0.map iL, 0, _, .inr ⟨c, rfl, hget W0⟩, rfl, pick_lv (n := 0) rfl h00 (by rw [hW0l]; exact hd3), ?_⟩
        refine pt_some <| ev_int ⟨1, rfl, pt_none ⟨(W0.getD 0 []).map .int, .dat, by rw [List.length_map]; (first | with_reducible exact Nat.le_trans (by assumption) (by decide) | omega), ?_⟩⟩
        refine ev_int ⟨_, 0, 0, W0.map iL, rfl, rfl, hget W0, len_map (by rw [hW0l]; exact hd3), .inl ⟨by decide, rfl⟩, by rw [List.length_map]; (first | with_reducible assumption | omega), ?_⟩
        rw [Store.swapW _ _ _ _ hcw, ← List.map_drop, ← List.map_take]
        generalize hz : List.take _ (List.drop _ (W0.getD 0 [])) = zz
        have hzz : zz.length ≤ 30 := by rw [← hz, List.length_take, List.length_drop]; exact zm2 hz0
        rw [show (PyData.list (zz.map PyData.int)) = iL zz from rfl, ← List.map_set]
        exact ex_nil <| ex_nil ⟨W0.set 0 zz, by rw [List.length_set]; exact hW0l, set_len (fun l hl => Nat.le_trans (hW0m l hl) (by decide)) (by (first | with_reducible exact Nat.le_trans (by assumption) (by decide) | omega)), rfl, rfl, rfl, rfl, rfl⟩
      · exact ite_f (by simpa using h5) <| ex_nil <| ex_nil ⟨W0, hW0l, fun l hl => Nat.le_trans (hW0m l hl) (by decide), rfl, rfl, rfl, rfl, rfl⟩
  rintro ρ1 st1 ⟨W, hWl, hWm, rfl, g1, g2, g3, g4⟩
  refine ex_freeze g4 (hget W) ?_
  rw [Store.swapD _ _ _ hcw hc']
  have hpl := hp.len
  have hd3 := hp.d1
  refine ex_cut (ivN18b st w ys5 d ps W)
    (sm_assign (.inl rfl) <| ev_bin <| ev_list <| evs_cons <| ev_int <| evs_nil ⟨[.int 0], rfl, sm rfl, ev_compP (f := fun p => .dat (pcD p)) (F := fun p => some (.int p.b)) (xs := ps) <| it_list (ht := .inl ⟨_, _, rfl⟩) <| ev_name g3 ⟨ps.map fun p => .dat (pcD p), [], .inl ⟨_, rfl, rfl, maps⟩, rfl, by (first | with_reducible exact Nat.le_trans (by assumption) (by decide) | omega), fun C p w0 => ?_, .inl ?_⟩⟩) ?_
  · exact as_name (.inl ⟨rfl, rfl⟩) <| ifs_nil <| ite_t rfl <| ev_itemT <| ev_name rfl <| ev_int ⟨_, _, _, rfl, rfl, by decide, rfl, sm rfl, rfl, _, rfl, rfl⟩
  · rw [filterMap_some]
    refine op_add_list .dat .dat (by rw [List.length_map]; simp; omega) ⟨0 :: ps.map (·.b), by simp; (first | with_reducible assumption | omega), rfl, g1, g2, g3, rfl, ?_⟩
    show some (D.dat (PyData.list ([.int 0] ++ ps.map fun p => .int p.b))) = some (D.dat (.list ((0 :: ps.map (·.b)).map .int)))
    rw [List.map_cons, List.map_map]; rfl
  rintro ρ2 st2 ⟨pl, hpl1, rfl, g1, g2, g3, g4, g5⟩
  refine ex_cut (ivN18c st w d ps W)
    (sm_dcomp (dkInt g) (.inl rfl) <| it_list (ht := .inl ⟨_, _, rfl⟩) <| ev_name g5 ⟨pl.map fun i => .dat (.int i), [], .inl ⟨_, rfl, rfl, maps⟩, ?_⟩) ?_
  · refine ⟨ivN18d st w, ?_, ?_, ?_⟩
    · exact ⟨pl, ys5, rfl, by simpa using hpl1, hy5, rfl⟩
    · rintro C x rem acc st' ⟨rest, ys, e, hl, hy, rfl⟩
      cases rest with
      | nil => cases e
      | cons i rest =>
        injection e with e1 e2
        subst e1 e2
        rw [List.length_cons] at hl
        refine as_name (.inl ⟨rfl, rfl⟩) <| ifs_one <| tr_cmp <| ev_call (T.nm (v := .ref 113)) T.ok <| evs_cons <| ev_name g1 <| evs_cons <| ev_int <| evs_nil <| c_drawS T hy (by decide) fun r ys' w0 w0 hy' => ev_int <| cm_lt ?_
        cases decide (r < 2) with
        | true =>
          refine ite_t rfl <| ev_name rfl <| ev_bool ⟨i, rfl, by (first | with_reducible exact Mine.za8 (by assumption) (by decide) | omega), ⟨rest, ys', rfl, ?_, hy', rfl⟩, fun w0 h => nomatch h⟩
          show (putK acc i).length + _ ≤ 11
          unfold putK
          split
          · (first | with_reducible exact Mine.za2 (by assumption) | omega)
          · rw [List.length_append]; simp; (first | with_reducible exact Mine.za1 (by assumption) | omega)
        | false => exact ite_f rfl ⟨⟨rest, ys', rfl, by (first | with_reducible exact Mine.za2 (by assumption) | omega), hy', rfl⟩, fun w0 h => nomatch h⟩
    · rintro acc st' ⟨rest, ys, e, hl, hy, rfl⟩
      exact ⟨acc, ys, hy, rfl, g1, g2, g3, g4, rfl⟩
  rintro ρ3 st3 ⟨ks, ys, hy, rfl, g1, g2, g3, g4, g6⟩
  refine ex_cut (ivN18e st w ys d ps W ks)
    (sm_comp (.inl rfl) <| it_list (ht := .inl ⟨_, _, rfl⟩) <| ev_name g3 ⟨ps.map fun p => .dat (pcD p), [], .inl ⟨_, rfl, rfl, maps⟩, ?_⟩) ?_
  · refine ⟨ivN18f ps st w ys, ?_, ?_, ?_⟩
    · exact ⟨ps, [], rfl, rfl, rfl, rfl⟩
    · rintro C x rem acc st' ⟨rest, done, e0, e, rfl, rfl⟩
      cases rest with
      | nil => cases e
      | cons p rest =>
        injection e with e1 e2
        subst e1 e2
        have hlen : done.length ≤ 10 := by have := congrArg List.length e0; rw [List.length_append] at this; (first | with_reducible exact Mine.za10 (by assumption) (by assumption) (by decide) | omega)
        exact as_name (.inl ⟨rfl, rfl⟩) <| ifs_nil <| ite_t rfl <| ev_call (T.nm (v := .ref 36)) T.ok <| evs_cons <| ev_itemT <| ev_name rfl <| ev_int ⟨_, _, _, rfl, rfl, by decide, rfl, sm rfl,
          evs_cons <| ev_itemT <| ev_name rfl <| ev_int ⟨_, _, _, rfl, rfl, by decide, rfl, sm rfl,
          evs_cons <| ev_itemT <| ev_name rfl <| ev_int ⟨_, _, _, rfl, rfl, by decide, rfl, sm rfl,
          evs_nil <| c_new T (p := p) ⟨by rw [List.length_map]; (first | with_reducible exact Nat.le_trans (by assumption) (by decide) | omega), ⟨rest, done ++ [p], by rw [List.append_assoc]; exact e0, rfl, by rw [List.map_append]; rfl, rfl⟩, fun w0 h => nomatch h⟩⟩⟩⟩
    · rintro acc st' ⟨rest, done, e0, e, rfl, rfl⟩
      cases rest with
      | cons p rest => cases e
      | nil =>
        rw [List.append_nil] at e0; subst e0
        exact .inr (.inr ⟨_, rfl, rfl, g1, g2, g3, g4, g6, rfl⟩)
  rintro ρ4 st4 ⟨rfl, g1, g2, g3, g4, g6, g7⟩
  have eb : (ps.map fun p => PyData.bool (idle p.lv)) = (ps.map fun p => idle p.lv).map .bool := by rw [List.map_map]; rfl
  refine ex_cons <| sm_if <| tr_cmp <| ev_compP (f := fun p => .pc p) (F := fun p => some (.bool (idle p.lv))) (xs := ps) <| it_list (ht := .inl ⟨_, _, rfl⟩) <| ev_name g7 ⟨ps.map .pc, [], .inr (.inr ⟨ps, rfl, rfl, rfl⟩), rfl, by (first | with_reducible exact Nat.le_trans (by assumption) (by decide) | omega), fun C p hpm => ?_, .inl ?_⟩
  · have hlv := hp.lv p hpm
    exact as_name (.inl ⟨rfl, rfl⟩) <| ifs_nil <| ite_t rfl <| ev_idle T.cls <| ev_name rfl ⟨p, rfl, c_idle' T (by (first | with_reducible exact Nat.le_trans (Nat.le_of_eq (by assumption)) (Nat.le_trans (by assumption) (by decide)) | omega)) ⟨rfl, _, rfl, rfl⟩⟩
  rw [filterMap_some]
  refine ev_compP (f := fun p => .dat (pcD p)) (F := fun p => some (.bool (idle p.lv))) (xs := ps) <| it_list (ht := .inl ⟨_, _, rfl⟩) <| ev_name g3 ⟨ps.map fun p => .dat (pcD p), [], .inl ⟨_, rfl, rfl, maps⟩, rfl, by (first | with_reducible exact Nat.le_trans (by assumption) (by decide) | omega), fun C p hpm => ?_, .inl ?_⟩
  · have hlv := hp.lv p hpm
    exact as_name (.inl ⟨rfl, rfl⟩) <| ifs_nil <| ite_t rfl <| ev_call (T.nm (v := .ref 128)) T.ok <| evs_cons <| ev_name rfl <| evs_nil <| c_law_idle T (by (first | with_reducible exact Nat.le_trans (Nat.le_of_eq (by assumption)) (Nat.le_trans (by assumption) (by decide)) | omega)) ⟨rfl, _, rfl, rfl⟩
  rw [filterMap_some, eb]
  refine cm_ne .dat .dat (sh_bools _).ok (sh_bools _).ok ?_
  rw [eqv_bools]
  refine ite_f (by rw [decide_eq_true rfl]; rfl) <| ex_nil ?_
  refine ex_cut (fun ρ5 st5 => st5 = st.set w ys ∧ ρ5 "well" = some (.cell w))
    (sm_for <| it_tup <| evs_cons <| ev_none <| evs_cons <| ev_name g6 <| evs_nil ⟨by simp, ?_⟩) ?_
  · refine ⟨ivN18g st w ys d ps W, ?_, ?_, ?_⟩
    · refine ⟨fun x hx => ?_, rfl, g1, g2, g3, g4, g7⟩
      simp only [List.mem_cons, List.not_mem_nil, or_false] at hx
      rcases hx with rfl | rfl
      · exact ⟨none, rfl⟩
      · exact ⟨some ks, rfl⟩
    · rintro x rem ρ5 st5 ⟨hE, rfl, g1, g2, g3, g4, g7⟩
      obtain ⟨E, rfl⟩ := hE x (.head _)
      refine as_name (Wr.own (.inl rfl)) ?_
      refine ex_cut (ivN18h st w ys d ps W)
        (sm_for <| it_tup <| evs_cons <| ev_bool <| evs_cons <| ev_bool <| evs_nil ⟨by simp, ?_⟩) ?_
      · refine ⟨ivN18i st w ys d ps W E, ?_, ?_, ?_⟩
        · refine ⟨fun x hx => ?_, rfl, g1, g2, g3, g4, g7, rfl⟩
          simp only [List.mem_cons, List.not_mem_nil, or_false] at hx
          rcases hx with rfl | rfl <;> exact ⟨_, rfl⟩
        · rintro x rem2 ρ6 st6 ⟨hB, rfl, g1, g2, g3, g4, g7, g8⟩
          obtain ⟨b, rfl⟩ := hB x (.head _)
          obtain ⟨l1, l2⟩ := all_law (E := E) (wide := b) hp hr hWl
          have hsl : (searchAll ps W E b).length ≤ 20 := by
            unfold searchAll
            split
            · simp
            · have := saGo_len ps W E b ps.length; (first | with_reducible exact Nat.le_trans (by assumption) (Nat.le_trans (by assumption) (by decide)) | omega)
          refine as_name (Wr.own (.inl rfl)) <| ex_cons <| sm_if <| tr_cmp <| ev_call T.list okT <| evs_cons <| ev_call (T.nm (v := .ref 92)) T.ok <| evs_cons <| ev_name g7 <| evs_cons <| ev_name g4 <| evs_cons <| ev_name g8 <| evs_cons <| ev_name rfl <| evs_nil <| c_allF T hp hWl hWm <| evs_nil <| ca_list .dat (by unfold prsL; rw [List.length_map]; (first | with_reducible exact Nat.le_trans (by assumption) (by decide) | omega)) <|
            ev_call (T.nm (v := .ref 159)) T.ok <| evs_cons <| ev_name g3 <| evs_cons <| ev_name g4 <| evs_cons <| ev_name g8 <| evs_cons <| ev_name rfl <| evs_cons <| ev_name g2 <| evs_nil <| c_due T hp l1 <| cm_ne .dat .dat (sh_prsL _).ok (sh_prsL _).ok ?_
          rw [eqv_prsL, l2]
          exact ite_f (by rw [decide_eq_true rfl]; rfl) <| ex_nil <| ex_nil ⟨⟨fun y hy => hB y (.tail _ hy), rfl, g1, g2, g3, g4, g7, g8⟩, fun w0 h => nomatch h⟩
        · rintro ρ6 st6 ⟨hB, rfl, g1, g2, g3, g4, g7, g8⟩
          exact ⟨rfl, g1, g2, g3, g4, g7⟩
      rintro ρ6 st6 ⟨rfl, g1, g2, g3, g4, g7⟩
      exact ex_nil ⟨⟨fun y hy => hE y (.tail _ hy), rfl, g1, g2, g3, g4, g7⟩, fun w0 h => nomatch h⟩
    · rintro ρ5 st5 ⟨_, rfl, g1, _⟩
      exact ⟨rfl, g1⟩
  rintro ρ5 st5 ⟨rfl, g1⟩
  exact ex_cons <| sm_return <| ev_and <| ev_call (T.nm (v := .ref 169)) T.ok <| evs_cons <| ev_name g1 <| evs_nil <| c_cuts_right T hy fun ys6 hy6 => ⟨true, rfl, ite_t rfl <| ev_and1 <| ev_call (T.nm (v := .ref 174)) T.ok <| evs_cons <| ev_name g1 <| evs_nil <| c_lists_right T hy6 fun ys7 w0 => ⟨st, (StLe.refl st).setN _ hw, q⟩⟩
end
end Mine

namespace Mine

theorem rd_well {P : Params} {h : Heap} {S : Fz} : ∀ {vs : List Value} {ns : List Int}, WellAll P h vs (ofPys (ns.map .int)) → RdAll S vs (ns.map .int)
  | [], [], _ => .nil
  | [], _ :: _, h => by cases h
  | _ :: _, [], h => by cases h
  | v :: vs, i :: ns, h => by
    cases h with
    | cons h1 h2 =>
      cases h1
      exact .cons (.int _ _) (rd_well h2)

noncomputable def grOf (prog : Program) (w : World) (h : Heap) (mg mb : Str → Option Value) (hg : h.Ns mainGlobals mg) (hb : h.Ns builtinsNs mb) (hn : h.NoLimit) (hbt : ∀ x, x ≠ Str.ofString "__name__" → mb x = bootBuiltins x) (K : (Kx w.params).In h) : Gr :=
  ⟨prog, w, h, Kx w.params, mg, mb, hg, hb, hn, hbt, K, 36, 28, 33⟩

theorem law_runs {w : World} {s : Shared} {mg mb : Str → Option Value} {fa l : Addr} {vs : List Value} {ns : List Int} (hg : s.heap.Ns mainGlobals mg) (hb : s.heap.Ns builtinsNs mb) (hn : s.heap.NoLimit) (hbt : ∀ x, x ≠ Str.ofString "__name__" → mb x = bootBuiltins x)
    (K : (Kx w.params).In s.heap) (hf : mg "law" = some (.ref fa)) (hl : s.heap.get? l = some (Lo vs 0)) (hv : WellAll w.params s.heap vs (ofPys (ns.map .int))) (hlen : ns.length ≤ 1000) :
    wpAny (model PySem.Challenge.pw_on0359_01 w) callerA (call (.ref fa) [.ref l]) (fun v s' => v = .bool true ∧ (∃ h tk, s' = { s with heap := h, toks := tk }) ∧ ∀ b o, s.heap.get? b = some o → s'.heap.get? b = some o) E0 s := by
  let g := grOf PySem.Challenge.pw_on0359_01 w s.heap mg mb hg hb hn hbt K
  have T : Tx g w.params := Tx.of rfl rfl rfl rfl
  have hfa : fa = 179 := by
    have h1 : mg "law" = some (.ref 179) := mg_of K hg rfl
    rw [hf] at h1
    injection h1 with h1
    injection h1
  subst hfa
  let S : Fz := fun a => s.heap.get? a
  have M : Mod g S (fun _ => none) s.heap := ⟨fun _ _ e => e, fun _ _ e => e, fun _ _ e => by cases e⟩
  have r : RepAll g S [.ref l] [.dat (iL ns)] := ⟨Rd.list hl (rd_well hv), trivial⟩
  have L : Lv (0 + 5) callerA := ⟨rfl, by decide, by decide⟩
  refine wpAny_mono (c_law (k := 0) T hlen (Q := fun d _ => d = .dat (.bool true)) rfl callerA S s [.ref l] L M r) (fun v s' z => ?_) fun _ _ z => z
  obtain ⟨S', st', d, X, rv, rfl⟩ := z
  cases rv
  exact ⟨rfl, X.same, fun b o e => X.keep b o e rfl fun h => h⟩
end Mine

set_option tactic.hygienic true in
theorem PySem.Challenge.cw_on0359_01_holds : PySem.Challenge.rw_on0359_01.Holds := by
  refine Mine.hd ?_
  intro w s₀ s₁ mg mb G Y fa o pm cd doc dV kV ho hd hcd hD hmg hg args vals as hpre hlay hrd hwl hlo
  have KX := kIn_of Y
  refine Ground.open G ?_
  intro T B D TE TW
  clear ho hd hcd hD
  have hmg' : mg "law" = some (.ref fa) := hmg
  clear hmg
  wrow_args hpre hlay hrd hwl hlo
  rename_i ns _ _ _ _ _ _ _ l vs _ _ _ hw _ _ _ hlen _
  cases hw with
  | list h1 h2 =>
    refine wpAny_mono (Mine.law_runs T.g T.b T.nolimit T.builtins KX hmg' h1 h2 (by omega)) (fun v s' z => ?_) fun _ _ z => z.elim
    obtain ⟨rfl, ⟨h, tk, rfl⟩, hk⟩ := z
    exact GoodW.toG ⟨.inl ⟨.bool true, .bool true, [], rfl, fun cls => rfl, .bool true, by wrow_post, fun _ => ⟨List.nodup_nil, fun a ha => by cases ha⟩⟩, hk, rfl, hg⟩
