import PyProof.Rows.All
import Wide.All
import OpenK.AllK
import Wide.FinOn
import HandS.ForMost
import HandS.Wide
import HandS.Style
import HandS.Evl
import PySem.Challenge.RW_wordquarry_k03_check_sums
set_option Elab.async false
set_option linter.all false
set_option maxRecDepth 100000
set_option maxHeartbeats 4000000
/-! Check sums: the plain law. Words of 32 bits; doubling modulo the polynomial. -/
namespace Crc
abbrev W := BitVec 32
def dbl (x : W) : W := (x <<< 1) ^^^ (if x.msb then 141#32 else 0#32)
theorem xor_swap (a b c d : W) : (a ^^^ b) ^^^ (c ^^^ d) = (a ^^^ c) ^^^ (b ^^^ d) := by
  rw [BitVec.xor_assoc, BitVec.xor_assoc, ← BitVec.xor_assoc b, BitVec.xor_comm b c, BitVec.xor_assoc c]
theorem dbl_xor (a b : W) : dbl (a ^^^ b) = dbl a ^^^ dbl b := by
  unfold dbl
  rw [BitVec.shiftLeft_xor_distrib, BitVec.msb_xor, xor_swap]
  congr 1
  cases a.msb <;> cases b.msb <;> decide
theorem dbl_zero : dbl 0#32 = 0#32 := by decide
/-- doubled n times -/
def dn : Nat → W → W
  | 0, x => x
  | n + 1, x => dbl (dn n x)
theorem dn_add (m n : Nat) (x : W) : dn m (dn n x) = dn (m + n) x := by
  induction m with
  | zero => rw [Nat.zero_add]; rfl
  | succ m ih => rw [Nat.add_right_comm]; show dbl (dn m (dn n x)) = dbl (dn (m + n) x); rw [ih]
theorem dn_dbl (n : Nat) (x : W) : dn n (dbl x) = dbl (dn n x) := dn_add n 1 x
theorem dn_xor (n : Nat) (a b : W) : dn n (a ^^^ b) = dn n a ^^^ dn n b := by
  induction n with
  | zero => rfl
  | succ n ih => show dbl (dn n (a ^^^ b)) = _; rw [ih, dbl_xor]; rfl
theorem dn_zero (n : Nat) : dn n 0#32 = 0#32 := by
  induction n with
  | zero => rfl
  | succ n ih => show dbl (dn n 0#32) = _; rw [ih, dbl_zero]
/-- the low k bits -/
def low (k : Nat) (x : W) : W := BitVec.ofNat 32 (x.toNat % 2 ^ k)
theorem low_32 (x : W) : low 32 x = x := by
  unfold low
  apply BitVec.eq_of_toNat_eq
  have := x.isLt
  rw [BitVec.toNat_ofNat]; omega
theorem low_bit (k i : Nat) (x : W) : (low k x).getLsbD i = (decide (i < 32) && decide (i < k) && x.getLsbD i) := by
  unfold low
  rw [BitVec.getLsbD_ofNat, Nat.testBit_mod_two_pow, Bool.and_assoc]
  rfl
theorem low_succ (k : Nat) (hk : k < 32) (x : W) : low (k + 1) x = low k x ^^^ (if x.getLsbD k then BitVec.twoPow 32 k else 0#32) := by
  apply BitVec.eq_of_getLsbD_eq
  intro i hi
  rw [BitVec.getLsbD_xor, low_bit, low_bit]
  by_cases h : i = k
  · subst h
    cases h2 : x.getLsbD i <;> simp [hi, BitVec.getLsbD_twoPow]
  · have e : decide (i < k + 1) = decide (i < k) := by
      by_cases h3 : i < k
      · rw [decide_eq_true h3, decide_eq_true (by omega)]
      · rw [decide_eq_false h3, decide_eq_false (by omega)]
    rw [e]
    cases h2 : x.getLsbD k <;> simp [BitVec.getLsbD_twoPow, Ne.symm h]
theorem low_zero (x : W) : low 0 x = 0#32 := by
  unfold low
  rw [Nat.pow_zero, Nat.mod_one]
/-- two linear maps that agree on the powers agree -/
theorem lin_eq {f g : W → W} (hf : ∀ a b, f (a ^^^ b) = f a ^^^ f b) (hg : ∀ a b, g (a ^^^ b) = g a ^^^ g b) (h : ∀ i, i < 32 → f (BitVec.twoPow 32 i) = g (BitVec.twoPow 32 i)) (x : W) : f x = g x := by
  have f0 : f 0#32 = 0#32 := by have := hf 0#32 0#32; rw [BitVec.xor_self, BitVec.xor_self] at this; exact this
  have g0 : g 0#32 = 0#32 := by have := hg 0#32 0#32; rw [BitVec.xor_self, BitVec.xor_self] at this; exact this
  have all : ∀ k, k ≤ 32 → f (low k x) = g (low k x) := by
    intro k
    induction k with
    | zero => intro _; rw [low_zero, f0, g0]
    | succ k ih =>
      intro hk
      rw [low_succ k (by omega), hf, hg, ih (by omega)]
      congr 1
      cases x.getLsbD k
      · simp [f0, g0]
      · simpa using h k (by omega)
  have := all 32 (Nat.le_refl _)
  rw [low_32] at this
  exact this
theorem pow_dn : ∀ i, i < 32 → BitVec.twoPow 32 i = dn i 1#32 := by decide +kernel
theorem dn32_one : dn 32 1#32 = dn 7 1#32 ^^^ dn 3 1#32 ^^^ dn 2 1#32 ^^^ 1#32 := by decide +kernel
/-- the polynomial's own equation -/
theorem dn32 (x : W) : dn 32 x = dn 7 x ^^^ dn 3 x ^^^ dn 2 x ^^^ x := by
  refine lin_eq (f := dn 32) (g := fun x => dn 7 x ^^^ dn 3 x ^^^ dn 2 x ^^^ x) (dn_xor 32) (fun a b => ?_) (fun i hi => ?_) x
  · show dn 7 (a ^^^ b) ^^^ dn 3 (a ^^^ b) ^^^ dn 2 (a ^^^ b) ^^^ (a ^^^ b) = _
    rw [dn_xor, dn_xor, dn_xor, xor_swap (dn 7 a), xor_swap (dn 7 a ^^^ dn 3 a), xor_swap (dn 7 a ^^^ dn 3 a ^^^ dn 2 a)]
  · rw [pow_dn i hi]
    show dn 32 (dn i 1#32) = dn 7 (dn i 1#32) ^^^ dn 3 (dn i 1#32) ^^^ dn 2 (dn i 1#32) ^^^ dn i 1#32
    have e : ∀ m, dn m (dn i 1#32) = dn i (dn m 1#32) := fun m => by rw [dn_add, dn_add, Nat.add_comm]
    rw [e, e, e, e, dn32_one, dn_xor, dn_xor, dn_xor]
/-- the product, from the top: Horner -/
def hor (a x : W) : Nat → W
  | 0 => 0#32
  | k + 1 => dbl (hor a x k) ^^^ (if x.getLsbD (31 - k) then a else 0#32)
def prod (a x : W) : W := hor a x 32
theorem hor_xor (a x y : W) (k : Nat) : hor a (x ^^^ y) k = hor a x k ^^^ hor a y k := by
  induction k with
  | zero => simp [hor]
  | succ k ih =>
    show dbl (hor a (x ^^^ y) k) ^^^ _ = (dbl (hor a x k) ^^^ _) ^^^ (dbl (hor a y k) ^^^ _)
    rw [ih, dbl_xor, xor_swap, BitVec.getLsbD_xor]
    congr 1
    cases x.getLsbD (31 - k) <;> cases y.getLsbD (31 - k) <;> simp
/-- on a power -/
theorem hor_pow (a : W) (i : Nat) (hi : i < 32) : ∀ k, k ≤ 32 → hor a (BitVec.twoPow 32 i) k = if 31 - i < k then dn (k - 1 - (31 - i)) a else 0#32 := by
  intro k
  induction k with
  | zero => intro _; rw [if_neg (Nat.not_lt_zero _)]; rfl
  | succ k ih =>
    intro hk
    have ih := ih (by omega)
    have eb : (BitVec.twoPow 32 i).getLsbD (31 - k) = decide (i = 31 - k) := by
      rw [BitVec.getLsbD_twoPow, decide_eq_true hi, Bool.true_and]
    have es : hor a (BitVec.twoPow 32 i) (k + 1) = dbl (hor a (BitVec.twoPow 32 i) k) ^^^ (if decide (i = 31 - k) = true then a else 0#32) := by
      rw [← eb]; rfl
    rw [es, ih]
    by_cases h1 : 31 - i < k
    · have h2 : 31 - i < k + 1 := by omega
      have e : decide (i = 31 - k) = false := decide_eq_false (by omega)
      rw [if_pos h1, if_pos h2, e, show k + 1 - 1 - (31 - i) = (k - 1 - (31 - i)) + 1 by omega]
      simp [dn]
    · rw [if_neg h1, dbl_zero]
      by_cases h2 : 31 - i = k
      · have e : decide (i = 31 - k) = true := decide_eq_true (by omega)
        have h3 : 31 - i < k + 1 := by omega
        rw [e, if_pos h3, show k + 1 - 1 - (31 - i) = 0 by omega]
        simp [dn]
      · have e : decide (i = 31 - k) = false := decide_eq_false (by omega)
        have h3 : ¬ 31 - i < k + 1 := by omega
        rw [e, if_neg h3]
        simp
theorem prod_pow (a : W) (i : Nat) (hi : i < 32) : prod a (BitVec.twoPow 32 i) = dn i a := by
  unfold prod
  rw [hor_pow a i hi 32 (Nat.le_refl _), if_pos (by omega), show 32 - 1 - (31 - i) = i by omega]
theorem prod_xor (a x y : W) : prod a (x ^^^ y) = prod a x ^^^ prod a y := hor_xor a x y 32
theorem prod_one (a : W) : prod a 1#32 = a := prod_pow a 0 (by decide)
theorem dbl_pow : ∀ i, i < 31 → dbl (BitVec.twoPow 32 i) = BitVec.twoPow 32 (i + 1) := by decide +kernel
theorem prod_dbl (a x : W) : prod a (dbl x) = dbl (prod a x) := by
  refine lin_eq (f := fun x => prod a (dbl x)) (g := fun x => dbl (prod a x)) (fun u v => ?_) (fun u v => ?_) (fun i hi => ?_) x
  · show prod a (dbl (u ^^^ v)) = _
    rw [dbl_xor, prod_xor]
  · show dbl (prod a (u ^^^ v)) = _
    rw [prod_xor, dbl_xor]
  · show prod a (dbl (BitVec.twoPow 32 i)) = dbl (prod a (BitVec.twoPow 32 i))
    rw [prod_pow a i hi]
    by_cases h : i < 31
    · rw [dbl_pow i h, prod_pow a (i + 1) (by omega)]
      rfl
    · have e : i = 31 := by omega
      subst e
      rw [show dbl (BitVec.twoPow 32 31) = BitVec.twoPow 32 7 ^^^ BitVec.twoPow 32 3 ^^^ BitVec.twoPow 32 2 ^^^ BitVec.twoPow 32 0 by decide]
      rw [prod_xor, prod_xor, prod_xor, prod_pow a 7 (by decide), prod_pow a 3 (by decide), prod_pow a 2 (by decide), prod_pow a 0 (by decide)]
      exact (dn32 a).symm
theorem prod_dn (a : W) (n : Nat) : prod a (dn n 1#32) = dn n a := by
  induction n with
  | zero => exact prod_one a
  | succ n ih => show prod a (dbl (dn n 1#32)) = dbl (dn n a); rw [prod_dbl, ih]
/-- nothing but 0 is doubled to 0 -/
theorem dbl_inj0 {x : W} (h : dbl x = 0#32) : x = 0#32 := by
  have hb : ∀ i, (dbl x).getLsbD i = false := fun i => by rw [h]; simp
  have e : ∀ i, (dbl x).getLsbD i = ((decide (i < 32) && !decide (i < 1) && x.getLsbD (i - 1)) ^^ (if x.msb then 141#32 else 0#32).getLsbD i) := fun i => by
    unfold dbl
    rw [BitVec.getLsbD_xor, BitVec.getLsbD_shiftLeft]
  have hm : x.msb = false := by
    have h0 := hb 0
    rw [e 0] at h0
    cases hx : x.msb
    · rfl
    · rw [hx] at h0
      simp at h0
  apply BitVec.eq_of_getLsbD_eq
  intro i hi
  by_cases h31 : i = 31
  · subst h31
    have := hm
    rw [BitVec.msb_eq_getLsbD_last] at this
    simpa using this
  · have h1 := hb (i + 1)
    rw [e (i + 1), hm] at h1
    simpa [show i + 1 < 32 by omega] using h1
theorem dn_inj0 : ∀ (n : Nat) {x : W}, dn n x = 0#32 → x = 0#32
  | 0, _, h => h
  | n + 1, _, h => dn_inj0 n (dbl_inj0 h)
/-! ### bits -/
def b2w (b : Bool) : W := if b then 1#32 else 0#32
/-- the rest of a row of bits -/
def pv (bs : List Bool) : W := bs.foldl (fun r b => dbl r ^^^ b2w b) 0#32
theorem pv_from (bs : List Bool) : ∀ r : W, bs.foldl (fun r b => dbl r ^^^ b2w b) r = dn bs.length r ^^^ pv bs := by
  induction bs with
  | nil => intro r; show r = r ^^^ 0#32; simp
  | cons b bs ih =>
    intro r
    show bs.foldl _ (dbl r ^^^ b2w b) = _
    rw [ih]
    have e : pv (b :: bs) = dn bs.length (b2w b) ^^^ pv bs := by
      show bs.foldl _ (dbl 0#32 ^^^ b2w b) = _
      rw [ih, dbl_zero, BitVec.zero_xor]
    rw [e, dn_xor, dn_dbl, ← BitVec.xor_assoc]
    rfl
theorem pv_append (xs ys : List Bool) : pv (xs ++ ys) = dn ys.length (pv xs) ^^^ pv ys := by
  unfold pv
  rw [List.foldl_append, pv_from]
  rfl
theorem pv_zeros (n : Nat) : pv (List.replicate n false) = 0#32 := by
  induction n with
  | zero => rfl
  | succ n ih =>
    rw [List.replicate_succ', pv_append, ih, dn_zero]
    decide
theorem pv_cons (b : Bool) (bs : List Bool) : pv (b :: bs) = dn bs.length (b2w b) ^^^ pv bs := by
  have := pv_append [b] bs
  rw [List.singleton_append] at this
  rw [this]
  congr 2
  cases b <;> decide
/-- of rows of one length -/
theorem pv_zip : ∀ (xs ys : List Bool), xs.length = ys.length → pv (List.zipWith Bool.xor xs ys) = pv xs ^^^ pv ys
  | [], [], _ => by decide
  | x :: xs, y :: ys, h => by
    have h' : xs.length = ys.length := Nat.succ.inj h
    rw [List.zipWith_cons_cons, pv_cons, pv_cons, pv_cons, pv_zip xs ys h', List.length_zipWith, h', Nat.min_self, xor_swap, ← dn_xor]
    congr 2
    cases x <;> cases y <;> decide
/-- a short row's rest shows its bits -/
theorem pv_bit (bs : List Bool) (h : bs.length ≤ 32) (j : Nat) : (pv bs).getLsbD j = if j < bs.length then bs.getD (bs.length - 1 - j) false else false := by
  have rev : ∀ l : List Bool, l.length ≤ 32 → ∀ j, (pv l.reverse).getLsbD j = l.getD j false := fun l => by
    induction l with
    | nil => intro _ j; show (0#32).getLsbD j = _; simp
    | cons b l ih =>
      intro hl j
      rw [List.length_cons] at hl
      have ih := ih (by omega)
      rw [List.reverse_cons, pv_append]
      show (dbl (pv l.reverse) ^^^ pv [b]).getLsbD j = _
      have hm : (pv l.reverse).msb = false := by
        rw [BitVec.msb_eq_getLsbD_last, ih]
        rw [List.getD_eq_getElem?_getD, List.getElem?_eq_none (by omega)]
        rfl
      have eb : pv [b] = b2w b := by cases b <;> decide
      rw [eb]
      unfold dbl
      rw [hm]
      cases j with
      | zero => cases b <;> simp [b2w]
      | succ j =>
        have z : (b2w b).getLsbD (j + 1) = false := by cases b <;> simp [b2w]
        rw [BitVec.getLsbD_xor, z]
        simp only [Bool.false_eq_true, if_false, BitVec.xor_zero, Bool.xor_false, BitVec.getLsbD_shiftLeft]
        show (decide (j + 1 < 32) && !decide (j + 1 < 1) && (pv l.reverse).getLsbD (j + 1 - 1)) = _
        rw [show j + 1 - 1 = j by omega, ih, List.getD_cons_succ]
        by_cases h2 : j + 1 < 32
        · simp [h2]
        · rw [List.getD_eq_getElem?_getD, List.getElem?_eq_none (by omega)]
          simp
  have e := rev bs.reverse (by rw [List.length_reverse]; exact h) j
  rw [List.reverse_reverse] at e
  rw [e]
  by_cases hj : j < bs.length
  · rw [if_pos hj, List.getD_eq_getElem?_getD, List.getElem?_reverse hj, List.getD_eq_getElem?_getD]
  · rw [if_neg hj, List.getD_eq_getElem?_getD, List.getElem?_eq_none (by rw [List.length_reverse]; omega)]
    rfl
/-- the number of the first k bits, from the top -/
theorem num_top (r : W) : ∀ k, k ≤ 32 → (List.range k).foldl (fun n i => n * 2 + (r.getLsbD (31 - i)).toNat) 0 = r.toNat / 2 ^ (32 - k) := by
  intro k
  induction k with
  | zero => intro _; have := r.isLt; show 0 = r.toNat / 2 ^ 32; omega
  | succ k ih =>
    intro hk
    rw [List.range_succ, List.foldl_append, ih (by omega)]
    show r.toNat / 2 ^ (32 - k) * 2 + (r.getLsbD (31 - k)).toNat = r.toNat / 2 ^ (32 - (k + 1))
    have e1 : 32 - k = (31 - k) + 1 := by omega
    have e2 : 32 - (k + 1) = 31 - k := by omega
    rw [e1, e2, Nat.pow_succ, ← Nat.div_div_eq_div_mul]
    have e3 : (r.getLsbD (31 - k)).toNat = r.toNat / 2 ^ (31 - k) % 2 := by
      show (r.toNat.testBit (31 - k)).toNat = _
      rw [Nat.testBit_eq_decide_div_mod_eq]
      have := Nat.mod_lt (r.toNat / 2 ^ (31 - k)) (show 0 < 2 by decide)
      by_cases h : r.toNat / 2 ^ (31 - k) % 2 = 1
      · rw [h]; decide
      · rw [decide_eq_false h]
        show 0 = _
        omega
    rw [e3]
    omega
theorem num_all (r : W) : (List.range 32).foldl (fun n i => n * 2 + (r.getLsbD (31 - i)).toNat) 0 = r.toNat := by
  rw [num_top r 32 (Nat.le_refl _)]
  exact Nat.div_one _
/-! ### rows of bytes -/
def bits8 (b : Nat) : List Bool := [b.testBit 7, b.testBit 6, b.testBit 5, b.testBit 4, b.testBit 3, b.testBit 2, b.testBit 1, b.testBit 0]
def rowBits (row : List Nat) : List Bool := row.flatMap bits8
theorem rowBits_len (row : List Nat) : (rowBits row).length = 8 * row.length := by
  induction row with
  | nil => rfl
  | cons b row ih =>
    show (bits8 b ++ rowBits row).length = _
    rw [List.length_append, ih, List.length_cons]
    show 8 + _ = _
    omega
theorem rowBits_app (a b : List Nat) : rowBits (a ++ b) = rowBits a ++ rowBits b := List.flatMap_append
/-- the check sum of a row of bits -/
def chkB (bs : List Bool) : W := dn 32 (pv (true :: bs))
def chk (row : List Nat) : W := chkB (rowBits row)
theorem chkB_pv (bs : List Bool) : pv (true :: (bs ++ List.replicate 32 false)) = chkB bs := by
  rw [← List.cons_append, pv_append, pv_zeros, List.length_replicate, BitVec.xor_zero]
  rfl
theorem pv_byte : ∀ b, b < 256 → dn 32 (pv (bits8 b)) = dn 8 (BitVec.ofNat 32 (b * 2 ^ 24)) := by decide +kernel
theorem chk_nil : chk [] = 141#32 := by decide +kernel
theorem chk_snoc (row : List Nat) (b : Nat) (hb : b < 256) : chk (row ++ [b]) = dn 8 (chk row ^^^ BitVec.ofNat 32 (b * 2 ^ 24)) := by
  unfold chk chkB
  rw [rowBits_app, ← List.cons_append, pv_append, dn_xor, dn_xor]
  have e : rowBits [b] = bits8 b := List.append_nil _
  rw [e, pv_byte b hb]
  congr 1
theorem chk_join (a b : List Nat) : chk (a ++ b) = dn (8 * b.length) (chk a) ^^^ chk b ^^^ dn (8 * b.length + 32) 1#32 := by
  unfold chk chkB
  rw [rowBits_app, ← List.cons_append, pv_append, pv_cons true (rowBits b), dn_xor, dn_xor, rowBits_len, dn_add, dn_add, dn_add]
  show dn (32 + 8 * b.length) _ ^^^ _ = dn (8 * b.length + 32) _ ^^^ (dn (32 + 8 * b.length) 1#32 ^^^ _) ^^^ _
  rw [Nat.add_comm 32]
  generalize dn (8 * b.length + 32) (pv (true :: rowBits a)) = x
  generalize dn (8 * b.length + 32) 1#32 = y
  generalize dn 32 (pv (rowBits b)) = z
  rw [BitVec.xor_assoc, BitVec.xor_comm y z, BitVec.xor_assoc z, BitVec.xor_self, BitVec.xor_zero]
/-! ### the division in a row of bits -/
def under (j : Nat) : Bool := j == 0 || j == 25 || j == 29 || j == 30 || j == 32
theorem under_bit : ∀ j, j < 33 → 0 < j → (141#32).getLsbD (32 - j) = under j := by decide
def start0 (bs : List Bool) (i : Nat) : Bool := (true :: (bs ++ List.replicate 32 false)).getD i false
/-- behind k steps -/
def stt (bs : List Bool) (k i : Nat) : Bool :=
  if i < k then false else if i < k + 32 then (pv ((true :: (bs ++ List.replicate 32 false)).take (k + 32))).getLsbD (31 - (i - k)) else start0 bs i
theorem stt_zero (bs : List Bool) (i : Nat) : stt bs 0 i = start0 bs i := by
  unfold stt
  rw [if_neg (Nat.not_lt_zero _)]
  by_cases h : i < 0 + 32
  · rw [if_pos h]
    unfold start0
    generalize hl : (true :: (bs ++ List.replicate 32 false)) = l
    have hlen : (l.take (0 + 32)).length = 32 := by
      rw [List.length_take, ← hl, List.length_cons, List.length_append, List.length_replicate]
      omega
    rw [pv_bit _ (Nat.le_of_eq hlen), hlen, if_pos (by omega)]
    rw [List.getD_eq_getElem?_getD, List.getD_eq_getElem?_getD, List.getElem?_take, if_pos (by omega), show 32 - 1 - (31 - (i - 0)) = i by omega]
  · rw [if_neg h]
theorem stt_step (bs : List Bool) (k i : Nat) (hk : k ≤ bs.length) : stt bs (k + 1) i = if k ≤ i ∧ i < k + 33 ∧ stt bs k k = true then (stt bs k i ^^ under (i - k)) else stt bs k i := by
  generalize hl : (true :: (bs ++ List.replicate 32 false)) = l
  have hlen : l.length = bs.length + 33 := by
    rw [← hl, List.length_cons, List.length_append, List.length_replicate]
  have hlast : l[k + 32]? = some (start0 bs (k + 32)) := by
    unfold start0
    rw [hl, List.getD_eq_getElem?_getD, List.getElem?_eq_getElem (by omega)]
    rfl
  have er : pv (l.take (k + 1 + 32)) = dbl (pv (l.take (k + 32))) ^^^ b2w (start0 bs (k + 32)) := by
    rw [show k + 1 + 32 = k + 32 + 1 by omega, List.take_add_one, hlast]
    show pv (l.take (k + 32) ++ [start0 bs (k + 32)]) = _
    rw [pv_append]
    show dbl _ ^^^ _ = _
    congr 1
    cases start0 bs (k + 32) <;> decide
  have ek : stt bs k k = (pv (l.take (k + 32))).msb := by
    unfold stt
    rw [if_neg (Nat.lt_irrefl _), if_pos (by omega), hl, Nat.sub_self, BitVec.msb_eq_getLsbD_last]
  rw [ek]
  by_cases h1 : i < k
  · have h2 : ¬ (k ≤ i ∧ i < k + 33 ∧ (pv (l.take (k + 32))).msb = true) := fun z => by omega
    rw [if_neg h2]
    unfold stt
    rw [if_pos h1, if_pos (by omega)]
  · by_cases h3 : i < k + 33
    · -- within the window
      have es : stt bs (k + 1) i = if i < k + 1 then false else (dbl (pv (l.take (k + 32))) ^^^ b2w (start0 bs (k + 32))).getLsbD (32 - (i - k)) := by
        unfold stt
        by_cases h4 : i < k + 1
        · rw [if_pos h4, if_pos h4]
        · rw [if_neg h4, if_neg h4, if_pos (by omega), hl, er, show 31 - (i - (k + 1)) = 32 - (i - k) by omega]
      have eo : stt bs k i = if i < k + 32 then (pv (l.take (k + 32))).getLsbD (31 - (i - k)) else start0 bs i := by
        unfold stt
        rw [if_neg h1, hl]
      generalize pv (l.take (k + 32)) = r at es eo
      rw [es, eo]
      by_cases h4 : i < k + 1
      · have e : i = k := by omega
        subst e
        have h5 : i < i + 32 := by omega
        rw [if_pos h4, if_pos h5, Nat.sub_self]
        have em : r.getLsbD (31 - 0) = r.msb := by rw [BitVec.msb_eq_getLsbD_last]
        rw [em]
        cases r.msb with
        | true => rw [if_pos ⟨Nat.le_refl _, by omega, rfl⟩]; rfl
        | false => rw [if_neg (fun z => Bool.noConfusion z.2.2)]
      · rw [if_neg h4]
        have hu := under_bit (i - k) (by omega) (by omega)
        unfold dbl
        rw [BitVec.getLsbD_xor, BitVec.getLsbD_xor, BitVec.getLsbD_shiftLeft]
        by_cases h6 : i < k + 32
        · have z : (b2w (start0 bs (k + 32))).getLsbD (32 - (i - k)) = false := by
            have : ∃ n, 32 - (i - k) = n + 1 := ⟨31 - (i - k), by omega⟩
            obtain ⟨n, hn⟩ := this
            rw [hn]
            cases start0 bs (k + 32) <;> simp [b2w]
          have h7 : ¬ 32 - (i - k) < 1 := by omega
          have h8 : 32 - (i - k) < 32 := by omega
          rw [z, if_pos h6, show 32 - (i - k) - 1 = 31 - (i - k) by omega, decide_eq_true h8, decide_eq_false h7]
          cases hm : r.msb with
          | true =>
            rw [if_pos rfl, if_pos ⟨by omega, h3, rfl⟩, hu]
            simp
          | false =>
            rw [if_neg Bool.false_ne_true, if_neg (fun z => Bool.noConfusion z.2.2)]
            simp
        · have e : i = k + 32 := by omega
          subst e
          have e2 : k + 32 - k = 32 := by omega
          rw [e2] at hu ⊢
          rw [if_neg h6]
          have z : (b2w (start0 bs (k + 32))).getLsbD (32 - 32) = start0 bs (k + 32) := by cases start0 bs (k + 32) <;> simp [b2w]
          rw [z]
          cases hm : r.msb with
          | true =>
            rw [if_pos rfl, if_pos ⟨by omega, h3, rfl⟩, hu]
            cases start0 bs (k + 32) <;> rfl
          | false =>
            rw [if_neg Bool.false_ne_true, if_neg (fun z => Bool.noConfusion z.2.2)]
            simp
    · rw [if_neg (fun z => h3 z.2.1)]
      unfold stt
      rw [if_neg (by omega), if_neg (by omega), if_neg h1, if_neg (by omega)]
/-- the last 32 bits behind all steps -/
theorem stt_last (bs : List Bool) (j : Nat) (hj : j < 32) : stt bs (bs.length + 1) (bs.length + 1 + j) = (chkB bs).getLsbD (31 - j) := by
  unfold stt
  rw [if_neg (by omega), if_pos (by omega), show bs.length + 1 + j - (bs.length + 1) = j by omega, List.take_of_length_le, chkB_pv]
  rw [List.length_cons, List.length_append, List.length_replicate]
  omega
/-! ### bits that are turned -/
/-- one bit of a byte turned: the q-th from the top -/
def tb (b q : Nat) : Nat := if b / 2 ^ (7 - q) % 2 = 1 then b - 2 ^ (7 - q) else b + 2 ^ (7 - q)
theorem tb_lt : ∀ b, b < 256 → ∀ q, q < 8 → tb b q < 256 := by decide +kernel
theorem tb_pv : ∀ b, b < 256 → ∀ q, q < 8 → pv (bits8 (tb b q)) = pv (bits8 b) ^^^ dn (7 - q) 1#32 := by decide +kernel
def turn (row : List Nat) (p : Nat) : List Nat := row.set (p / 8) (tb (row.getD (p / 8) 0) (p % 8))
theorem turn_len (row : List Nat) (p : Nat) : (turn row p).length = row.length := List.length_set
theorem turn_lt {row : List Nat} (h : ∀ b ∈ row, b < 256) {p : Nat} (hp : p < 8 * row.length) : ∀ b ∈ turn row p, b < 256 := by
  intro b hb
  rcases List.mem_or_eq_of_mem_set hb with z | z
  · exact h b z
  · rw [z]
    refine tb_lt _ (h _ ?_) _ (by omega)
    rw [List.getD_eq_getElem?_getD, List.getElem?_eq_getElem (show p / 8 < row.length by omega)]
    exact List.getElem_mem _
theorem turn_pv {row : List Nat} (h : ∀ b ∈ row, b < 256) {p : Nat} (hp : p < 8 * row.length) : pv (rowBits (turn row p)) = pv (rowBits row) ^^^ dn (8 * row.length - 1 - p) 1#32 := by
  have hi : p / 8 < row.length := by omega
  have e1 : row = row.take (p / 8) ++ (row.getD (p / 8) 0 :: row.drop (p / 8 + 1)) := by
    rw [List.getD_eq_getElem?_getD, List.getElem?_eq_getElem hi]
    show row = row.take (p / 8) ++ (row[p / 8] :: row.drop (p / 8 + 1))
    rw [← List.drop_eq_getElem_cons hi, List.take_append_drop]
  have e2 : turn row p = row.take (p / 8) ++ (tb (row.getD (p / 8) 0) (p % 8) :: row.drop (p / 8 + 1)) := by
    unfold turn
    rw [List.set_eq_take_append_cons_drop, if_pos hi]
  have hb : row.getD (p / 8) 0 < 256 := by
    refine h _ ?_
    rw [List.getD_eq_getElem?_getD, List.getElem?_eq_getElem hi]
    exact List.getElem_mem _
  have split : ∀ (a : List Nat) (b : Nat) (c : List Nat), pv (rowBits (a ++ b :: c)) = dn (8 * c.length + 8) (pv (rowBits a)) ^^^ (dn (8 * c.length) (pv (bits8 b)) ^^^ pv (rowBits c)) := fun a b c => by
    have e3 : rowBits (b :: c) = bits8 b ++ rowBits c := rfl
    rw [rowBits_app, pv_append, e3, pv_append, List.length_append, rowBits_len]
    show dn (8 + 8 * c.length) _ ^^^ _ = _
    rw [Nat.add_comm 8]
  rw [e2, split]
  conv => rhs; rw [e1]
  rw [split, tb_pv _ hb _ (by omega), dn_xor, dn_add]
  have e4 : (row.take (p / 8) ++ row.getD (p / 8) 0 :: row.drop (p / 8 + 1)).length = row.length := by rw [← e1]
  rw [e4, List.length_drop, show 8 * (row.length - (p / 8 + 1)) + (7 - p % 8) = 8 * row.length - 1 - p by omega]
  generalize dn _ (pv (rowBits (row.take (p / 8)))) = x
  generalize dn _ (pv (bits8 _)) = y
  generalize dn _ 1#32 = z
  generalize pv (rowBits (row.drop _)) = t
  rw [BitVec.xor_assoc x, BitVec.xor_assoc y, BitVec.xor_comm z t, ← BitVec.xor_assoc y]
/-- all turned bits -/
def errs (n : Nat) (ps : List Nat) : W := ps.foldr (fun p e => dn (n - 1 - p) 1#32 ^^^ e) 0#32
theorem turns_pv : ∀ (ps : List Nat) (row : List Nat), (∀ b ∈ row, b < 256) → (∀ p ∈ ps, p < 8 * row.length) → pv (rowBits (ps.foldl turn row)) = pv (rowBits row) ^^^ errs (8 * row.length) ps ∧ (ps.foldl turn row).length = row.length ∧ ∀ b ∈ ps.foldl turn row, b < 256
  | [], row, h, _ => ⟨by show _ = _ ^^^ 0#32; rw [BitVec.xor_zero]; rfl, rfl, h⟩
  | p :: ps, row, h, hp => by
    have hp0 := hp p (List.mem_cons_self ..)
    obtain ⟨i1, i2, i3⟩ := turns_pv ps (turn row p) (turn_lt h hp0) (fun q hq => by rw [turn_len]; exact hp q (List.mem_cons_of_mem _ hq))
    refine ⟨?_, by rw [List.foldl_cons, i2, turn_len], i3⟩
    rw [List.foldl_cons, i1, turn_pv h hp0, turn_len, BitVec.xor_assoc]
    rfl
theorem errs_ne {n first : Nat} {more : List Nat} (hf : first < n) (hm : ∀ p ∈ more, first < p ∧ p < first + 32 ∧ p < n) : errs n (first :: more) ≠ 0#32 := by
  let c := n - 1 - first - 31
  have shift : ∀ ps : List Nat, (∀ p ∈ ps, first ≤ p ∧ p < first + 32 ∧ p < n) → errs n ps = dn c (ps.foldr (fun p e => BitVec.twoPow 32 (n - 1 - p - c) ^^^ e) 0#32) := by
    intro ps
    induction ps with
    | nil => intro _; exact (dn_zero c).symm
    | cons p ps ih =>
      intro h
      have hp := h p (List.mem_cons_self ..)
      show dn (n - 1 - p) 1#32 ^^^ errs n ps = dn c (BitVec.twoPow 32 (n - 1 - p - c) ^^^ _)
      have h32 : n - 1 - p - c < 32 := by omega
      rw [dn_xor, ih (fun q hq => h q (List.mem_cons_of_mem _ hq)), pow_dn _ h32, dn_add, show c + (n - 1 - p - c) = n - 1 - p by omega]
  have rest : ∀ ps : List Nat, (∀ p ∈ ps, first < p ∧ p < first + 32 ∧ p < n) → (ps.foldr (fun p e => BitVec.twoPow 32 (n - 1 - p - c) ^^^ e) 0#32).getLsbD (n - 1 - first - c) = false := by
    intro ps
    induction ps with
    | nil => intro _; simp
    | cons p ps ih =>
      intro h
      have hp := h p (List.mem_cons_self ..)
      show (BitVec.twoPow 32 (n - 1 - p - c) ^^^ _).getLsbD _ = false
      rw [BitVec.getLsbD_xor, ih (fun q hq => h q (List.mem_cons_of_mem _ hq)), BitVec.getLsbD_twoPow]
      have : decide (n - 1 - p - c = n - 1 - first - c) = false := decide_eq_false (by omega)
      rw [this]
      simp
  intro z
  rw [shift (first :: more) (fun p hp => by
    rcases List.mem_cons.mp hp with e | e
    · subst e; omega
    · have := hm p e; omega)] at z
  have z2 := dn_inj0 c z
  have z3 : (BitVec.twoPow 32 (n - 1 - first - c) ^^^ (more.foldr (fun p e => BitVec.twoPow 32 (n - 1 - p - c) ^^^ e) 0#32)).getLsbD (n - 1 - first - c) = (0#32).getLsbD (n - 1 - first - c) := by
    exact congrArg (fun w : W => w.getLsbD (n - 1 - first - c)) z2
  rw [BitVec.getLsbD_xor, rest more hm, BitVec.getLsbD_twoPow] at z3
  have h32 : n - 1 - first - c < 32 := by omega
  simp [h32] at z3
/-- unlike sums -/
theorem chk_turned {row : List Nat} {first : Nat} {more : List Nat} (h : ∀ b ∈ row, b < 256) (hf : first < 8 * row.length) (hm : ∀ p ∈ more, first < p ∧ p < first + 32 ∧ p < 8 * row.length) : chk ((first :: more).foldl turn row) ≠ chk row := by
  obtain ⟨e1, e2, _⟩ := turns_pv (first :: more) row h (fun p hp => by
    rcases List.mem_cons.mp hp with e | e
    · subst e; exact hf
    · exact (hm p e).2.2)
  intro z
  unfold chk chkB at z
  rw [pv_cons, pv_cons, rowBits_len, rowBits_len, e2, e1, ← BitVec.xor_assoc, dn_xor 32 _ (errs _ _)] at z
  have z2 : dn 32 (errs (8 * row.length) (first :: more)) = 0#32 := by
    have q := congrArg (fun w => dn 32 (dn (8 * row.length) (b2w true) ^^^ pv (rowBits row)) ^^^ w) z
    have q : dn 32 (dn (8 * row.length) (b2w true) ^^^ pv (rowBits row)) ^^^ (dn 32 (dn (8 * row.length) (b2w true) ^^^ pv (rowBits row)) ^^^ dn 32 (errs (8 * row.length) (first :: more))) = dn 32 (dn (8 * row.length) (b2w true) ^^^ pv (rowBits row)) ^^^ dn 32 (dn (8 * row.length) (b2w true) ^^^ pv (rowBits row)) := q
    rw [← BitVec.xor_assoc, BitVec.xor_self, BitVec.zero_xor] at q
    exact q
  exact errs_ne hf hm (dn_inj0 32 z2)
/-! ### as numbers -/
theorem dbl_hi {w : W} (h : 4294967296 ≤ w.toNat * 2) : (dbl w).toNat = (w.toNat * 2 - 4294967296) ^^^ 141 := by
  have hw := w.isLt
  have hm : w.msb = true := by rw [BitVec.msb_eq_decide]; exact decide_eq_true (by omega)
  unfold dbl
  rw [hm, BitVec.toNat_xor, BitVec.toNat_shiftLeft, Nat.shiftLeft_eq]
  have e : w.toNat * 2 ^ 1 % 2 ^ 32 = w.toNat * 2 - 4294967296 := by omega
  rw [e]
  rfl
theorem dbl_lo {w : W} (h : ¬ 4294967296 ≤ w.toNat * 2) : (dbl w).toNat = w.toNat * 2 := by
  have hw := w.isLt
  have hm : w.msb = false := by rw [BitVec.msb_eq_decide]; exact decide_eq_false (by omega)
  unfold dbl
  rw [hm, BitVec.toNat_xor, BitVec.toNat_shiftLeft, Nat.shiftLeft_eq]
  have e : w.toNat * 2 ^ 1 % 2 ^ 32 = w.toNat * 2 := by omega
  rw [e]
  exact Nat.xor_zero _
theorem bit_div (w : W) (i : Nat) : w.getLsbD i = decide (w.toNat / 2 ^ i % 2 = 1) := by
  show w.toNat.testBit i = _
  rw [Nat.testBit_eq_decide_div_mod_eq]
end Crc

/-! ### the call of a def by its name; constants of the module; heaps -/
namespace Pre
open PySem L2
abbrev ks (x : Str) : Key := Sum.inr x
structure Cal (P : Program) (w : World) (K : PySem.W.Frag) (mg : Str → Option Value) (base : Heap) (k : Nat) (x : Str) (sp : Sp) : Prop where
  ex : ∃ (f : Addr) (fd : FuncData) (ps : List Str), FnOk P w K mg base CX0 k f fd ps sp ∧ mg x = some (.ref f) ∧ PySem.W.keepIn K (.ref f) = true ∧ Binds K fd ps []
section
variable {X : Cx} {k j : Nat} {x : Str} {sp : Sp} {e : Expr} {es : List Expr} {t : TA} {p pos : Pos}
theorem pcal (c : Cal X.prog X.w X.K X.mg X.base k x sp) (hr : Room j X.A) (hk : k ≤ j) (hg : Gl X x) (ha : PA X (e :: es) t)
    (hdb : (x == ("__debug__" : Str)) = false := by decide) (he : starEach (e :: es) X.env = (false, eval e X.env) :: starEach es X.env := by rfl) (hpl : (backTo pos (starEach es X.env)).any (·.1) = false := by rfl) :
    PE X (.Call (.Name x p) (e :: es) [] pos) (tCall sp [] E0 t) := by
  obtain ⟨f, fd, ps, F, hm, kp, b⟩ := c.ex
  exact pe_call F (hr.mono hk) hg hm kp b .nil pass0 ha hdb he hpl
theorem pcal0 (c : Cal X.prog X.w X.K X.mg X.base k x sp) (hr : Room j X.A) (hk : k ≤ j) (hg : Gl X x) (hdb : (x == ("__debug__" : Str)) = false := by decide) :
    PE X (.Call (.Name x p) [] [] pos) (tCall sp [] E0 tNil) := by
  obtain ⟨f, fd, ps, F, hm, kp, b⟩ := c.ex
  exact pe_call0 F (hr.mono hk) hg hm kp b .nil pass0 hdb
def GlV (mg : Str → Option Value) (x : Str) (v : V) : Prop := ∃ u, mg x = some u ∧ RelV v u
theorem pgl {v : V} (hg : Gl X x) (h : GlV X.mg x v) (hd : (x == ("__debug__" : Str)) = false := by decide) : PE X (.Name x pos) (tC v) := by
  obtain ⟨u, h1, h2⟩ := h
  exact pe_glob hg h1 h2 hd
end
theorem cal_of {P : Program} {w : World} {K : PySem.W.Frag} {mg : Str → Option Value} {base : Heap} {k : Nat} {x q : Str} {st : Stmt} {f : Addr} {fd : FuncData} {ps : List Str} {sp : Sp} (F : Fun K x q st f fd) (ok : FnOk P w K mg base CX0 k f fd ps sp) (hm : mg x = some (.ref f)) (b : Binds K fd ps []) : Cal P w K mg base k x sp := ⟨f, fd, ps, ok, hm, F.kp, b⟩
theorem Cal.mono {P : Program} {w : World} {K : PySem.W.Frag} {mg : Str → Option Value} {base : Heap} {k j : Nat} {x : Str} {sp : Sp} (c : Cal P w K mg base k x sp) (h : k ≤ j) : Cal P w K mg base j x sp := by
  obtain ⟨f, fd, ps, F, hm, kp, b⟩ := c.ex
  exact ⟨f, fd, ps, F.mono h, hm, kp, b⟩
/-! ### the reading, step by step -/
section
variable {σ : L2.St} {H : Hp} {D : Ends} {Q : VK} {v x y z : V} {i j : Nat} {ta tb te td ty tc : TE} {t u : TS} {tt tt' : TT} {r r' : R2} {g : TG} {K : PySem.W.Frag}
theorem g_seq (h : t { D with nx := u D } σ H) : tSeq t u D σ H := h
theorem g_next (h : D.nx σ H) : tNext D σ H := h
theorem g_var (e : σ[i]? = some (some v)) (h : Q v H) : tVar i σ H Q := ⟨v, e, h⟩
theorem g_c (h : Q v H) : tC v σ H Q := h
theorem g_op (h : ta σ H fun x H1 => tb σ H1 fun y H2 => r x y H2 Q) : tOp r ta tb σ H Q := h
theorem g_chain (h : ta σ H fun x H1 => tb σ H1 fun y H2 => r x y H2 fun z H3 => ∃ k, z = .bl k ∧ (if k = true then tc σ H3 fun w' H4 => r' y w' H4 Q else Q (.bl false) H3)) : tChain r r' ta tb tc σ H Q := h
theorem g_un {r : V → Hp → VK → Prop} (h : ta σ H fun x H1 => r x H1 Q) : tUn r ta σ H Q := h
theorem g_rU {g : Int → V} {a : Int} (h : Q (g a) H) : rU g (.int a) H Q := ⟨a, rfl, h⟩
theorem g_rI0 {g : Int → Int → V} {a b : Int} (h : Q (g a b) H) : rI0 g (.int a) (.int b) H Q := ⟨a, b, rfl, rfl, h⟩
theorem g_rI {C : Int → Int → Prop} {g : Int → Int → V} {a b : Int} (c : C a b) (h : Q (g a b) H) : rI C g (.int a) (.int b) H Q := ⟨a, b, rfl, rfl, c, h⟩
theorem g_eq (c : scal x y = true) (h : Q (.bl (decide (x = y))) H) : rEq x y H Q := ⟨c, h⟩
theorem g_ne (c : scal x y = true) (h : Q (.bl (!decide (x = y))) H) : rNe x y H Q := ⟨c, h⟩
theorem g_test {Q : Bool → Hp → Prop} (h : te σ H fun x H' => ∃ k, x = .bl k ∧ Q k H') : tTest te σ H Q := h
theorem g_B {Q : Bool → Hp → Prop} (h : te σ H fun x H' => ∃ k, x = .bl k ∧ Q k H') : tB te σ H Q := h
theorem g_k {b : Bool} {Q : Bool → Prop} (h : Q b) : ∃ k, V.bl b = .bl k ∧ Q k := ⟨b, rfl, h⟩
theorem g_and {Q : Bool → Hp → Prop} (h : tt σ H fun c H1 => if c = true then tt' σ H1 Q else Q false H1) : tAnd tt tt' σ H Q := h
theorem g_or {Q : Bool → Hp → Prop} (h : tt σ H fun c H1 => if c = true then Q true H1 else tt' σ H1 Q) : tOr tt tt' σ H Q := h
theorem g_not {Q : Bool → Hp → Prop} (h : tt σ H fun c H1 => Q (!c) H1) : tNot tt σ H Q := h
theorem g_yes {Q : Bool → Hp → Prop} (h : Q true H) : tYes σ H Q := h
theorem g_andV (h : ta σ H fun x H1 => ∃ c, x = .bl c ∧ if c = true then tb σ H1 Q else Q (.bl false) H1) : tAndV ta tb σ H Q := h
theorem g_orV (h : ta σ H fun x H1 => ∃ c, x = .bl c ∧ if c = true then Q (.bl true) H1 else tb σ H1 Q) : tOrV ta tb σ H Q := h
theorem g_notV (h : ta σ H fun x H1 => ∃ c, x = .bl c ∧ Q (.bl (!c)) H1) : tNotV ta σ H Q := h
theorem g_ifE (h : tt σ H fun c H1 => if c = true then ta σ H1 Q else tb σ H1 Q) : tIf tt ta tb σ H Q := h
theorem g_ifS (h : tt σ H fun b H1 => if b = true then t D σ H1 else u D σ H1) : tIfS tt t u D σ H := h
theorem g_asg (h : te σ H fun x H1 => g x σ H1 D.nx) : tAsg te g D σ H := h
theorem g_name {Q : L2.St → Hp → Prop} (h : Q (σ.set i (some v)) H) : gName i v σ H Q := h
theorem g_drop (h : te σ H fun _ H1 => D.nx σ H1) : tDrop te D σ H := h
theorem g_ret (h : te σ H D.rt) : tRet te D σ H := h
theorem g_brk (h : D.bk σ H) : tBreak D σ H := h
theorem g_cnt (h : D.ct σ H) : tCont D σ H := h
theorem g_nil {Q : List V → Hp → Prop} (h : Q [] H) : tNil σ H Q := h
theorem g_cons {ta : TE} {tr : TA} {Q : List V → Hp → Prop} (h : ta σ H fun x H1 => tr σ H1 fun xs H2 => Q (x :: xs) H2) : tCons ta tr σ H Q := h
theorem g_cb {r : List V → Hp → VK → Prop} {t : TA} (h : t σ H fun vs H1 => r vs H1 Q) : tCB r t σ H Q := h
theorem g_call {sp : Sp} {dvs : List V} {E : XK} {t : TA} (h : t σ H fun vs H1 => sp (vs ++ dvs) H1 Q E) : tCall sp dvs E t σ H Q := h
theorem g_int1 {a : Int} (h : Q (.int a) H) : (∃ i, [V.int a] = [V.int i] ∧ Q (.int i) H) ∨ ∃ k, [V.int a] = [V.bl k] ∧ Q (.int (if k = true then 1 else 0)) H := .inl ⟨a, rfl, h⟩
theorem g_int1b {b : Bool} (h : Q (.int (if b = true then 1 else 0)) H) : (∃ i, [V.bl b] = [V.int i] ∧ Q (.int i) H) ∨ ∃ k, [V.bl b] = [V.bl k] ∧ Q (.int (if k = true then 1 else 0)) H := .inr ⟨b, rfl, h⟩
theorem g_par {ta : TA} (h : ta σ H fun vs H1 => ∃ v w, vs = [v, w] ∧ D.nx ((σ.set i (some v)).set j (some w)) H1) : tPar i j ta D σ H := h
theorem g_par3 {l : Nat} {ta : TA} (h : ta σ H fun vs H1 => ∃ u v w, vs = [u, v, w] ∧ D.nx (((σ.set i (some u)).set j (some v)).set l (some w)) H1) : tPar3 i j l ta D σ H := h
theorem g_p2 {R : V → V → Prop} (h : R x y) : ∃ v w, [x, y] = [v, w] ∧ R v w := ⟨x, y, rfl, h⟩
theorem g_p3 {R : V → V → V → Prop} (h : R x y z) : ∃ u v w, [x, y, z] = [u, v, w] ∧ R u v w := ⟨x, y, z, rfl, h⟩
theorem g_dget (h : td σ H fun x H1 => ty σ H1 fun y H2 => ∃ a v, x = .ref a ∧ DGet H2 a y (some v) ∧ Q v H2) : tDGet td ty σ H Q := h
theorem g_dg {R : V → Prop} {a : Addr} {k : Str} {kvs : List (Key × V)} (hp : H a = some (.dK kvs)) (hv : valV kvs (ks k) = some v) (h : R v) : ∃ a' v', V.ref a = .ref a' ∧ DGet H a' (.str k) (some v') ∧ R v' := ⟨a, v, rfl, .inl ⟨kvs, ks k, .inl hp, rfl, hv.symm⟩, h⟩
theorem g_dput {tv : TE} (h : tv σ H fun v H1 => td σ H1 fun x H2 => ty σ H2 fun y H3 => ∃ a H4, x = .ref a ∧ DPut H3 a y v H4 ∧ D.nx σ H4) : sDPut td ty tv D σ H := h
theorem g_dp {a : Addr} {k : Str} {kvs kvs' : List (Key × V)} {R : Hp → Prop} (hp : H a = some (.dK kvs)) (hl : kvs.length < sizeLine) (hv : putK kvs (ks k) v = kvs') (h : R (upd H a (.dK kvs'))) : ∃ a' H4, V.ref a = .ref a' ∧ DPut H a' (.str k) v H4 ∧ R H4 := ⟨a, _, rfl, .inl ⟨kvs, ks k, hp, rfl, hl, rfl⟩, by rw [hv]; exact h⟩
theorem dget {a : Addr} {k : Str} {kvs : List (Key × V)} (hp : H a = some (.dK kvs)) (hv : valV kvs (ks k) = some v) : DGet H a (.str k) (some v) := .inl ⟨kvs, ks k, .inl hp, rfl, hv.symm⟩
theorem g_lenS {p : Addr} {ys : List V} (hs : SqL K H p ys) (h : Q (.int ys.length) H) : ∃ p' ys', [V.ref p] = [.ref p'] ∧ (SqL K H p' ys' ∨ SqT K H p' ys') ∧ Q (.int ys'.length) H := ⟨p, ys, rfl, .inl hs, h⟩
theorem g_lenT {p : Addr} {ys : List V} (hs : SqT K H p ys) (h : Q (.int ys.length) H) : ∃ p' ys', [V.ref p] = [.ref p'] ∧ (SqL K H p' ys' ∨ SqT K H p' ys') ∧ Q (.int ys'.length) H := ⟨p, ys, rfl, .inr hs, h⟩
theorem g_ixL {p : Addr} {xs : List V} {a : Int} (hs : SqL K H p xs) (ha : atI xs a = some v) (h : Q v H) : rIxL K (.ref p) (.int a) H Q := ⟨p, xs, a, v, rfl, rfl, hs, ha, h⟩
theorem g_ixT {p : Addr} {xs : List V} {a : Int} (hs : SqT K H p xs) (ha : atI xs a = some v) (h : Q v H) : rIxT K (.ref p) (.int a) H Q := ⟨p, xs, a, v, rfl, rfl, hs, ha, h⟩
theorem g_lst {t : TA} (h : t σ H fun xs H1 => xs.length ≤ sizeLine ∧ ∀ p, H1 p = none → Q (.ref p) (upd H1 p (.lst xs))) : tLst t σ H Q := h
theorem g_tup {t : TA} (h : t σ H fun xs H1 => xs.length ≤ sizeLine ∧ ∀ p, H1 p = none → Q (.ref p) (upd H1 p (.tup xs))) : tTup t σ H Q := h
theorem g_new {xs : List V} {R : Addr → Prop} (hl : xs.length ≤ sizeLine) (h : ∀ p, H p = none → R p) : xs.length ≤ sizeLine ∧ ∀ p, H p = none → R p := ⟨hl, h⟩
theorem g_if1 {A B : Prop} (h : A) : if true = true then A else B := iteT h
theorem g_if0 {A B : Prop} (h : B) : if false = true then A else B := iteF h
theorem g_pn {Q : List (V × V) → Hp → Prop} (h : Q [] H) : tPairs [] σ H Q := h
theorem g_pc {tk tv : TE} {r : List (TE × TE)} {Q : List (V × V) → Hp → Prop} (h : tk σ H fun x H1 => tv σ H1 fun y H2 => tPairs r σ H2 fun ps H3 => Q ((x, y) :: ps) H3) : tPairs ((tk, tv) :: r) σ H Q := h
theorem g_disp {trs : List (TE × TE)} (h : ∀ p, H p = none → tPairs trs σ (upd H p (.dK [])) fun ps H2 => H2 p = some (.dK []) ∧ ∃ kvs : List (Key × V), ps = kvs.map (fun kv => (kV kv.1, kv.2)) ∧ kvs.length ≤ 15 ∧ Q (.ref p) (upd H2 p (.dK (mergeK [] kvs)))) : tDisp trs σ H Q := h
theorem g_while {c : TT} {tb : TS} (W : Nat → L2.St → Hp → Prop) (m : Nat) (h0 : W m σ H)
    (hs : ∀ m σ H, W m σ H → c σ H fun b H1 => if b = true then ∃ N : L2.St → Hp → Prop, (∀ σ' H', N σ' H' → ∃ m', m' < m ∧ W m' σ' H') ∧ tb { D with nx := N, ct := N, bk := D.nx } σ H1 else D.nx σ H1) : tWhile c tb D σ H := ⟨W, ⟨m, h0⟩, hs⟩
theorem g_bm {T : String} {r : V → List V → Hp → VK → Prop} {to : TE} {t : TA} (h : to σ H fun x H1 => tyV K T x H1 ∧ t σ H1 fun xs H2 => r x xs H2 Q) : tBM K T r to t σ H Q := h
theorem g_bm0 {T : String} {r : V → List V → Hp → VK → Prop} {to : TE} (h : to σ H fun x H1 => tyV K T x H1 ∧ r x [] H1 Q) : tBM0 K T r to σ H Q := h
theorem g_revL (h : te σ H fun x H1 => ∃ a xs, x = .ref a ∧ SqL K H1 a xs ∧ ∀ p, H1 p = none → Q (.ref p) (upd H1 p (.lst xs.reverse))) : tRevL K te σ H Q := h
theorem g_sl {r : V → Option Int → Option Int → Hp → VK → Prop} {tl th : TO} (h : te σ H fun x H1 => tl σ H1 fun l H2 => th σ H2 fun u H3 => r x l u H3 Q) : tSl r te tl th σ H Q := h
theorem g_np {Q : Option Int → Hp → Prop} (h : Q none H) : tNoPart σ H Q := h
theorem g_part {Q : Option Int → Hp → Prop} (h : te σ H fun x H1 => ∃ i, x = .int i ∧ Q (some i) H1) : tPart te σ H Q := h
theorem g_sub {to ti : TE} {t : TSet} {Q : L2.St → Hp → Prop} (h : to σ H fun o H1 => ti σ H1 fun i H2 => t o i v H2 fun H3 => Q σ H3) : gSub to ti t v σ H Q := h
theorem g_for {wi : TI} {tb : TS} (h : wi σ H fun J H1 => ∃ W : Nat → Nat → L2.St → Hp → Prop, (∃ m, W 0 m σ H1) ∧ ∀ i m σ H, W i m σ H → (J.stop i H ∧ D.nx σ H) ∨ (J.go i H ∧ ∃ N : L2.St → Hp → Prop, (∀ σ' H', N σ' H' → ∃ m', m' < m ∧ W (i + 1) m' σ' H') ∧ ∀ x H', J.yld i H x H' → g x σ H' fun σ2 H2 => tb { D with nx := N, ct := N, bk := D.nx } σ2 H2)) : tFor wi g tb D σ H := h
theorem g_iList {R : It → Hp → Prop} (h : te σ H fun x H1 => ∃ a, x = .ref a ∧ (∃ xs, SqL K H1 a xs) ∧ R (Itl K a) H1) : iList K te σ H R := h
theorem g_iTup {R : It → Hp → Prop} (h : te σ H fun x H1 => ∃ a, x = .ref a ∧ (∃ xs, SqT K H1 a xs) ∧ R (Itt K a) H1) : iTup K te σ H R := h
theorem g_rng1 {R : It → Hp → Prop} {ta : TA} (h : ta σ H fun vs H1 => ∃ j : Int, vs = [.int j] ∧ -(2 ^ 62) ≤ j ∧ j < 2 ^ 62 ∧ R (Itr 0 j.toNat) H1) : iRng1 ta σ H R := h
theorem g_rng2 {R : It → Hp → Prop} {ta : TA} (h : ta σ H fun vs H1 => ∃ i j : Int, vs = [.int i, .int j] ∧ (-(2 ^ 62) ≤ i ∧ i < 2 ^ 62 ∧ -(2 ^ 62) ≤ j ∧ j < 2 ^ 62) ∧ R (Itr i (j - i).toNat) H1) : iRng2 ta σ H R := h
theorem g_lc {wi : TI} {vs : List Nat} (h : wi σ H fun J H1 => ∀ D, H1 D = none → ∃ W : Nat → Nat → Hp → Prop, (∃ m, W 0 m (upd H1 D (.lst []))) ∧ ∀ i m H, W i m H → (J.stop i H ∧ Q (.ref D) H) ∨ (J.go i H ∧ ∃ Nx : Hp → Prop, (∀ H', Nx H' → ∃ m', m' < m ∧ W (i + 1) m' H') ∧ ∀ x H', J.yld i H x H' → g x (wipe σ vs) H' fun σ2 H2 => wipe σ2 vs = wipe σ vs ∧ tt σ2 H2 fun b H3 => if b = true then te σ2 H3 fun y H4 => ∃ acc, H4 D = some (.lst acc) ∧ acc.length < sizeLine ∧ Nx (upd H4 D (.lst (acc ++ [y]))) else Nx H3)) : tLc wi g tt te vs σ H Q := h
theorem g_cut (M : L2.St → Hp → Prop) (h : t { D with nx := M } σ H) (k : ∀ σ' H', M σ' H' → u D σ' H') : Evl.tCut t u D σ H := ⟨M, h, k⟩
theorem g_if00 {A B : Prop} (h : B) : if (!true) = true then A else B := iteF h
theorem g_if11 {A B : Prop} (h : A) : if (!false) = true then A else B := iteT h
/-- two ways that meet: what both give -/
theorem g_join {c : Prop} [Decidable c] (R : V → Hp → Prop) (h1 : c → ∀ Q' : VK, (∀ v H', R v H' → Q' v H') → ta σ H Q') (h2 : ¬ c → ∀ Q' : VK, (∀ v H', R v H' → Q' v H') → tb σ H Q') (k : ∀ v H', R v H' → Q v H') : if c then ta σ H Q else tb σ H Q := by
  by_cases h : c
  · rw [if_pos h]; exact h1 h Q k
  · rw [if_neg h]; exact h2 h Q k
theorem atI_of {xs : List V} {n : Nat} {a : Int} (e : a = (n : Int)) (h : xs[n]? = some v) : atI xs a = some v := by
  subst e
  exact atI_nat h
end
theorem ixN_of {n i : Nat} {a : Int} (e : a = (i : Int)) (h : i < n) : ixN n a = some i := by
  subst e
  unfold ixN
  rw [if_pos (Int.natCast_nonneg _), if_pos (by omega)]
  rfl
/-- all but p is kept -/
def Kp (p : Addr) (H H' : Hp) : Prop := ∀ b o, b ≠ p → H b = some o → H' b = some o
theorem Kp.refl {p : Addr} (H : Hp) : Kp p H H := fun _ _ _ h => h
theorem Kp.trans {p : Addr} {H H1 H2 : Hp} (a : Kp p H H1) (b : Kp p H1 H2) : Kp p H H2 := fun c o n h => b c o n (a c o n h)
theorem Kp.of {p : Addr} {H H' : Hp} (h : Same H H') : Kp p H H' := fun b o _ e => h b o e
theorem Kp.put {p : Addr} {H : Hp} {o : HO} : Kp p H (upd H p o) := fun b u n e => by rw [upd_ne n]; exact e
theorem Same.new {H : Hp} {q : Addr} {o : HO} (h : H q = none) : Same H (upd H q o) := fun b u e => by rw [upd_ne (ne_of_none e h)]; exact e
theorem Kp.new {p : Addr} {H : Hp} {q : Addr} {o : HO} (h : H q = none) : Kp p H (upd H q o) := Kp.of (Same.new h)
theorem Kp.free {p : Addr} {H H' : Hp} (e : Kp p H H') {o : HO} (hp : H' p = some o) {l : Addr} (h : H' l = none) : H l = none := by
  cases q : H l with
  | none => rfl
  | some u =>
    have n : l ≠ p := fun z => by rw [z, hp] at h; cases h
    rw [e l u n q] at h
    cases h
theorem Kp.seq {K : PySem.W.Frag} {p : Addr} {H H' : Hp} {a : Addr} {xs : List V} (e : Kp p H H') (n : a ≠ p) (h : SqL K H a xs) : SqL K H' a xs := by
  rcases h with (h | ⟨o, h⟩) | h
  · exact .inl (.inl (e _ _ n h))
  · exact .inl (.inr ⟨o, e _ _ n h⟩)
  · exact .inr h
/-- a list is never a dict -/
theorem seq_ne {K : PySem.W.Frag} {H : Hp} {a p : Addr} {xs : List V} {kvs : List (Key × V)} (hp : H p = some (.dK kvs)) (h : Rd H a (.lst xs)) : a ≠ p := by
  intro z
  subst z
  rcases h with h | ⟨o, h⟩ <;> · rw [hp] at h; cases h
/-! ### the pen -/
theorem kr {a b : Str} (h : ¬ a = b) : ¬ ks a = ks b := fun z => h (Sum.inr.inj z)
def penK (c : Addr) (a d n f : Int) : List (Key × V) := [(ks "cells", .ref c), (ks "at", .int a), (ks "digits", .int d), (ks "count", .int n), (ks "fold", .int f)]
theorem kne1 : ¬ (("cells" : Str) = "at") := by decide +kernel
theorem kne2 : ¬ (("cells" : Str) = "digits") := by decide +kernel
theorem kne3 : ¬ (("cells" : Str) = "count") := by decide +kernel
theorem kne4 : ¬ (("cells" : Str) = "fold") := by decide +kernel
theorem kne5 : ¬ (("at" : Str) = "digits") := by decide +kernel
theorem kne6 : ¬ (("at" : Str) = "count") := by decide +kernel
theorem kne7 : ¬ (("at" : Str) = "fold") := by decide +kernel
theorem kne8 : ¬ (("digits" : Str) = "count") := by decide +kernel
theorem kne9 : ¬ (("digits" : Str) = "fold") := by decide +kernel
theorem kne10 : ¬ (("count" : Str) = "fold") := by decide +kernel
section
variable {c : Addr} {a d n f z : Int}
theorem pen_cells : valV (penK c a d n f) (ks "cells") = some (.ref c) := valV_pos rfl
theorem pen_at : valV (penK c a d n f) (ks "at") = some (.int a) := (valV_neg (kr kne1)).trans (valV_pos rfl)
theorem pen_digits : valV (penK c a d n f) (ks "digits") = some (.int d) := (valV_neg (kr kne2)).trans ((valV_neg (kr kne5)).trans (valV_pos rfl))
theorem pen_count : valV (penK c a d n f) (ks "count") = some (.int n) := (valV_neg (kr kne3)).trans ((valV_neg (kr kne6)).trans ((valV_neg (kr kne8)).trans (valV_pos rfl)))
theorem pen_fold : valV (penK c a d n f) (ks "fold") = some (.int f) := (valV_neg (kr kne4)).trans ((valV_neg (kr kne7)).trans ((valV_neg (kr kne9)).trans ((valV_neg (kr kne10)).trans (valV_pos rfl))))
theorem put_at : putK (penK c a d n f) (ks "at") (.int z) = penK c z d n f := by
  simp [putK, penK, kne1, Ne.symm kne5, Ne.symm kne6, Ne.symm kne7]
theorem put_digits : putK (penK c a d n f) (ks "digits") (.int z) = penK c a z n f := by
  simp [putK, penK, kne2, kne5, Ne.symm kne8, Ne.symm kne9]
theorem put_count : putK (penK c a d n f) (ks "count") (.int z) = penK c a d z f := by
  simp [putK, penK, kne3, kne6, kne8, Ne.symm kne10]
theorem put_fold : putK (penK c a d n f) (ks "fold") (.int z) = penK c a d n z := by
  simp [putK, penK, kne4, kne7, kne9, kne10]
theorem pen_len : (penK c a d n f).length < sizeLine := show 5 < sizeLine by decide
end
/-- a pen stands at p, its cells at c, at most n draws were made -/
def PenAt (H : Hp) (p c : Addr) (n : Nat) : Prop :=
  ∃ (cells : List Int) (a d k f : Int), H p = some (.dK (penK c a d k f)) ∧ H c = some (.lst (cells.map V.int)) ∧ 0 ≤ a ∧ 0 ≤ d ∧ 0 ≤ k ∧ k ≤ n ∧ 0 ≤ f ∧ f < 2147483587
section
variable {H H' H1 : Hp} {p c D : Addr} {n m : Nat} {o : HO}
theorem PenAt.keep (h : PenAt H p c n) (e : Same H H') : PenAt H' p c n := by
  obtain ⟨cells, a, d, k, f, h1, h2, h4⟩ := h
  exact ⟨cells, a, d, k, f, e _ _ h1, e _ _ h2, h4⟩
theorem PenAt.mono (h : PenAt H p c n) (e : n ≤ m) : PenAt H p c m := by
  obtain ⟨cells, a, d, k, f, h1, h2, h4, h5, h6, h7, h8⟩ := h
  exact ⟨cells, a, d, k, f, h1, h2, h4, h5, h6, by omega, h8⟩
theorem PenAt.ne (h : PenAt H p c n) (hD : H D = none) : D ≠ p ∧ D ≠ c := by
  obtain ⟨cells, a, d, k, f, h1, h2, _⟩ := h
  exact ⟨(ne_of_none h1 hD).symm, (ne_of_none h2 hD).symm⟩
theorem PenAt.upd (h : PenAt H p c n) (h1 : D ≠ p) (h2 : D ≠ c) : PenAt (upd H D o) p c n := by
  obtain ⟨cells, a, d, k, f, e1, e2, h4⟩ := h
  exact ⟨cells, a, d, k, f, by rw [upd_ne h1.symm]; exact e1, by rw [upd_ne h2.symm]; exact e2, h4⟩
/-- what is no dict stands apart from the pen -/
theorem PenAt.lst (h : PenAt H p c n) {q : Addr} {xs : List V} (hq : H q = some (.lst xs)) : q ≠ p := by
  obtain ⟨cells, a, d, k, f, e1, e2, h4⟩ := h
  exact ne_of hq e1 (by intro z; cases z)
theorem PenAt.tup (h : PenAt H p c n) {q : Addr} {xs : List V} (hq : H q = some (.tup xs)) : q ≠ p := by
  obtain ⟨cells, a, d, k, f, e1, e2, h4⟩ := h
  exact ne_of hq e1 (by intro z; cases z)
end
theorem upd_self {H : Hp} {p : Addr} {o : HO} (h : H p = some o) : upd H p o = H := by
  funext b
  unfold upd
  split
  · rename_i e
    rw [e, h]
  · rfl
def spPen (K : PySem.W.Frag) : Sp := fun vs H Q _ => ∃ (a : Addr) (ns : List Int), vs = [.ref a] ∧ SqL K H a (ns.map V.int) ∧ ∀ p c H', H p = none → H c = none → Same H H' → PenAt H' p c 0 → Q (.ref p) H'
def spDraw : Sp := fun vs H Q _ => ∃ (p c : Addr) (m : Int) (n : Nat), vs = [.ref p, .int m] ∧ PenAt H p c n ∧ n < 1000000000 ∧ 1 ≤ m ∧ m < 2 ^ 64 ∧
  ∀ r H', 0 ≤ r → r < m → Kp p H H' → PenAt H' p c (n + 1) → Q (.int r) H'
/-- what may be picked from: n items, f i the i-th -/
inductive Pk (K : PySem.W.Frag) (H : Hp) : V → Nat → (Nat → V) → Prop
  | lst {l : Addr} {xs : List V} (h : SqL K H l xs) : Pk K H (.ref l) xs.length (fun i => xs.getD i .non)
  | tup {l : Addr} {xs : List V} (h : SqT K H l xs) : Pk K H (.ref l) xs.length (fun i => xs.getD i .non)
  | str {z : Str} (h : z.length ≤ sizeLine) : Pk K H (.str z) z.length (fun i => .str ⟨#[z.cps.toList.getD i 0]⟩)
theorem Kp.seqT {K : PySem.W.Frag} {p : Addr} {H H' : Hp} {a : Addr} {xs : List V} (e : Kp p H H') (n : a ≠ p) (h : SqT K H a xs) : SqT K H' a xs := by
  rcases h with (h | ⟨o, h⟩) | h
  · exact .inl (.inl (e _ _ n h))
  · exact .inl (.inr ⟨o, e _ _ n h⟩)
  · exact .inr h
theorem Pk.keep {K : PySem.W.Frag} {H H' : Hp} {p : Addr} {s : V} {n : Nat} {f : Nat → V} (h : Pk K H s n f) (hs : s ≠ .ref p) (e : Kp p H H') : Pk K H' s n f := by
  cases h with
  | lst h => exact .lst (e.seq (fun z => hs (by rw [z])) h)
  | tup h => exact .tup (e.seqT (fun z => hs (by rw [z])) h)
  | str h => exact .str h
theorem Pk.len {K : PySem.W.Frag} {H : Hp} {s : V} {n : Nat} {f : Nat → V} (h : Pk K H s n f) : LenV K s H n := by
  cases h with
  | lst h => exact .inl ⟨_, h, rfl⟩
  | tup h => exact .inr ⟨_, h, rfl⟩
  | str h => exact ⟨h, rfl⟩
theorem getD_some {α : Type} {xs : List α} {i : Nat} {d : α} (h : i < xs.length) : xs[i]? = some (xs.getD i d) := by
  rw [List.getD_eq_getElem?_getD, List.getElem?_eq_getElem h]
  rfl
theorem Pk.item {K : PySem.W.Frag} {H : Hp} {s : V} {n : Nat} {f : Nat → V} {i : Nat} {a : Int} {Q : VK} (h : Pk K H s n f) (hi : i < n) (ea : a = (i : Int)) (q : Q (f i) H) : rIx K s (.int a) H Q := by
  cases h with
  | @lst l xs h => exact .inl ⟨l, xs, a, _, rfl, rfl, h, atI_of ea (getD_some hi), q⟩
  | @tup l xs h => exact .inr (.inl ⟨l, xs, a, _, rfl, rfl, h, atI_of ea (getD_some hi), q⟩)
  | @str z h =>
    have hi2 : i < z.cps.toList.length := by rw [Array.length_toList]; exact hi
    refine .inr (.inr ⟨z, a, z.cps.toList.getD i 0, rfl, rfl, h, ?_, q⟩)
    subst ea
    exact atI_nat (getD_some hi2)
def spPick (K : PySem.W.Frag) : Sp := fun vs H Q _ => ∃ (p c : Addr) (s : V) (m n : Nat) (f : Nat → V), vs = [.ref p, s] ∧ PenAt H p c n ∧ n < 1000000000 ∧ s ≠ .ref p ∧ Pk K H s m f ∧ 1 ≤ m ∧ m < 2 ^ 62 ∧
  ∀ i H', i < m → Kp p H H' → PenAt H' p c (n + 1) → Q (f i) H'
/-- a list made turn by turn over a range, by draws -/
theorem lc_pen {lo : Int} {n c d j : Nat} {te : TE} {vs : List Nat} {σ : L2.St} {H1 : Hp} {D p a : Addr} {Qd : Hp → Prop} (C : V → Prop) (hn : n ≤ 100000) (hD : H1 D = none) (hP : PenAt H1 p a c)
    (hw : ∀ x, wipe ((wipe σ vs).set j (some x)) vs = wipe σ vs)
    (he : ∀ i H, i < n → Kp p H1 H → PenAt H p a (c + d * i) → ∀ Qe : VK, (∀ y H4, C y → Kp p H H4 → PenAt H4 p a (c + d * (i + 1)) → Qe y H4) → te ((wipe σ vs).set j (some (.int (lo + i)))) H Qe)
    (hd : ∀ H acc, Kp p H1 H → PenAt H p a (c + d * n) → H D = some (.lst acc) → acc.length = n → (∀ y ∈ acc, C y) → Qd H) :
    ∃ W : Nat → Nat → Hp → Prop, (∃ m, W 0 m (upd H1 D (.lst []))) ∧ ∀ i m H, W i m H →
      ((Itr lo n).stop i H ∧ Qd H) ∨ ((Itr lo n).go i H ∧ ∃ Nx : Hp → Prop, (∀ H', Nx H' → ∃ m', m' < m ∧ W (i + 1) m' H') ∧ ∀ x H', (Itr lo n).yld i H x H' → gName j x (wipe σ vs) H' fun σ2 H2 => wipe σ2 vs = wipe σ vs ∧ tYes σ2 H2 fun b H3 =>
        if b = true then te σ2 H3 fun y H4 => ∃ acc, H4 D = some (.lst acc) ∧ acc.length < sizeLine ∧ Nx (upd H4 D (.lst (acc ++ [y]))) else Nx H3) := by
  obtain ⟨ne1, ne2⟩ := hP.ne hD
  refine lc_range (lo := lo) (n := n) (fun i H => Kp p H1 H ∧ PenAt H p a (c + d * i) ∧ ∃ acc, H D = some (.lst acc) ∧ acc.length = i ∧ ∀ y ∈ acc, C y) ⟨Kp.new hD, hP.upd ne1 ne2, [], upd_same, rfl, fun _ h => nomatch h⟩ (fun i H hi ⟨k1, k2, acc, k3, k4, k5⟩ => ?_) (fun H ⟨k1, k2, acc, k3, k4, k5⟩ => hd H acc k1 k2 k3 k4 k5)
  refine ⟨hw _, ?_⟩
  refine g_yes ?_
  refine g_if1 ?_
  refine he i H hi k1 k2 _ fun y H4 cy kp pn => ⟨acc, kp _ _ ne1 k3, Nat.lt_of_le_of_lt (show acc.length ≤ 100000 by omega) (by decide), ?_, pn.upd ne1 ne2, acc ++ [y], upd_same, by rw [List.length_append, k4]; rfl, ?_⟩
  · intro b o nb e
    rw [upd_ne (ne_of_none e hD)]
    exact kp _ _ nb (k1 _ _ nb e)
  · intro z hz
    rcases List.mem_append.mp hz with hz | hz
    · exact k5 z hz
    · rw [List.mem_singleton.mp hz]
      exact cy
theorem pen_merge {c : Addr} {f : Int} : mergeK [] [(ks "cells", .ref c), (ks "at", .int 0), (ks "digits", .int 0), (ks "count", .int 0), (ks "fold", .int f)] = penK c 0 0 0 f := by
  simp [mergeK, putK, penK, kne1, kne2, kne3, kne4, kne5, kne6, kne7, kne8, kne9, kne10]
/-- .. with a test that may draw -/
theorem lc_penT {lo : Int} {n c d j : Nat} {tt : TT} {te : TE} {vs : List Nat} {σ : L2.St} {H1 : Hp} {D p a : Addr} {Qd : Hp → Prop} (C : V → Prop) (hn : n ≤ 100000) (hD : H1 D = none) (hP : PenAt H1 p a c)
    (hw : ∀ x, wipe ((wipe σ vs).set j (some x)) vs = wipe σ vs)
    (ht : ∀ i H, i < n → Kp p H1 H → PenAt H p a (c + d * i) → ∀ Qt : Bool → Hp → Prop, (∀ b H4, Kp p H H4 → PenAt H4 p a (c + d * (i + 1)) → Qt b H4) → tt ((wipe σ vs).set j (some (.int (lo + i)))) H Qt)
    (he : ∀ i H, i < n → Kp p H1 H → PenAt H p a (c + d * (i + 1)) → ∀ Qe : VK, (∀ y H4, C y → Kp p H H4 → PenAt H4 p a (c + d * (i + 1)) → Qe y H4) → te ((wipe σ vs).set j (some (.int (lo + i)))) H Qe)
    (hd : ∀ H acc, Kp p H1 H → PenAt H p a (c + d * n) → H D = some (.lst acc) → acc.length ≤ n → (∀ y ∈ acc, C y) → Qd H) :
    ∃ W : Nat → Nat → Hp → Prop, (∃ m, W 0 m (upd H1 D (.lst []))) ∧ ∀ i m H, W i m H →
      ((Itr lo n).stop i H ∧ Qd H) ∨ ((Itr lo n).go i H ∧ ∃ Nx : Hp → Prop, (∀ H', Nx H' → ∃ m', m' < m ∧ W (i + 1) m' H') ∧ ∀ x H', (Itr lo n).yld i H x H' → gName j x (wipe σ vs) H' fun σ2 H2 => wipe σ2 vs = wipe σ vs ∧ tt σ2 H2 fun b H3 =>
        if b = true then te σ2 H3 fun y H4 => ∃ acc, H4 D = some (.lst acc) ∧ acc.length < sizeLine ∧ Nx (upd H4 D (.lst (acc ++ [y]))) else Nx H3) := by
  obtain ⟨ne1, ne2⟩ := hP.ne hD
  refine lc_range (lo := lo) (n := n) (fun i H => Kp p H1 H ∧ PenAt H p a (c + d * i) ∧ ∃ acc, H D = some (.lst acc) ∧ acc.length ≤ i ∧ ∀ y ∈ acc, C y) ⟨Kp.new hD, hP.upd ne1 ne2, [], upd_same, Nat.le_refl _, fun _ h => nomatch h⟩ (fun i H hi ⟨k1, k2, acc, k3, k4, k5⟩ => ?_) (fun H ⟨k1, k2, acc, k3, k4, k5⟩ => hd H acc k1 k2 k3 k4 k5)
  refine ⟨hw _, ?_⟩
  refine ht i H hi k1 k2 _ fun b H3 kp3 pn3 => ?_
  cases b with
  | false =>
    refine g_if0 ?_
    exact ⟨k1.trans kp3, pn3, acc, kp3 _ _ ne1 k3, by omega, k5⟩
  | true =>
    refine g_if1 ?_
    refine he i H3 hi (k1.trans kp3) pn3 _ fun y H4 cy kp pn => ⟨acc, kp _ _ ne1 (kp3 _ _ ne1 k3), Nat.lt_of_le_of_lt (show acc.length ≤ 100000 by omega) (by decide), ?_, pn.upd ne1 ne2, acc ++ [y], upd_same, by rw [List.length_append, List.length_singleton]; omega, ?_⟩
    · intro b o nb e
      rw [upd_ne (ne_of_none e hD)]
      exact kp _ _ nb (kp3 _ _ nb (k1 _ _ nb e))
    · intro z hz
      rcases List.mem_append.mp hz with hz | hz
      · exact k5 z hz
      · rw [List.mem_singleton.mp hz]
        exact cy
end Pre

open PySem L2 Pre
local macro_rules | `(tactic| walk_at "side") => `(tactic| first | assumption | ((try dsimp only [CPow, CMul, CDiv, CDivN]); first | omega | decide))
local macro_rules | `(tactic| walk_at "sz") => `(tactic| first | decide | exact Nat.le_of_lt (small1000 (by simp; done)) | exact Nat.le_of_lt (small1000 (by simp; omega)))
local macro_rules | `(tactic| walk_at "go1") => `(tactic| first
  | with_reducible refine g_seq ?_ | with_reducible refine g_asg ?_ | with_reducible refine g_name ?_ | with_reducible refine g_ret ?_ | with_reducible refine g_drop ?_ | with_reducible refine g_ifS ?_ | with_reducible refine g_next ?_ | with_reducible refine g_brk ?_ | with_reducible refine g_cnt ?_
  | ((with_reducible refine' g_var ?h ?_); (case h => exact rfl)) | with_reducible refine g_c ?_ | with_reducible refine g_op ?_ | with_reducible refine g_rI0 ?_ | with_reducible refine g_un ?_ | with_reducible refine g_rU ?_
  | ((with_reducible refine' g_eq ?h ?_); (case h => exact rfl)) | ((with_reducible refine' g_ne ?h ?_); (case h => exact rfl))
  | with_reducible refine g_test ?_ | with_reducible refine g_B ?_ | with_reducible refine g_k ?_ | with_reducible refine g_and ?_ | with_reducible refine g_or ?_ | with_reducible refine g_not ?_ | with_reducible refine g_yes ?_ | with_reducible refine g_andV ?_ | with_reducible refine g_orV ?_ | with_reducible refine g_notV ?_ | with_reducible refine g_ifE ?_
  | with_reducible refine g_nil ?_ | with_reducible refine g_cons ?_ | with_reducible refine g_cb ?_ | with_reducible refine g_call ?_ | with_reducible refine g_par ?_ | with_reducible refine g_par3 ?_ | with_reducible refine g_p2 ?_ | with_reducible refine g_p3 ?_
  | with_reducible refine g_for ?_ | with_reducible refine g_iList ?_ | with_reducible refine g_iTup ?_ | with_reducible refine g_rng1 ?_ | with_reducible refine g_rng2 ?_ | with_reducible refine g_lc ?_ | with_reducible refine g_bm ?_ | with_reducible refine g_bm0 ?_ | with_reducible refine g_revL ?_ | with_reducible refine g_sl ?_ | with_reducible refine g_np ?_ | with_reducible refine g_part ?_ | with_reducible refine g_sub ?_ | with_reducible refine g_pn ?_ | with_reducible refine g_pc ?_ | with_reducible refine g_disp ?_ | with_reducible refine g_dget ?_ | with_reducible refine g_dput ?_ | with_reducible refine g_chain ?_ | with_reducible refine g_lst ?_ | with_reducible refine g_tup ?_ | with_reducible refine g_if1 ?_ | with_reducible refine g_if0 ?_ | with_reducible refine g_if00 ?_ | with_reducible refine g_if11 ?_
  | ((with_reducible refine' g_rI ?h ?_); (case h => walk_at "side")) | with_reducible refine Or.inl ⟨_, rfl, ?_⟩ | with_reducible refine Or.inr ⟨_, rfl, ?_⟩)
local macro_rules | `(tactic| walk_at "go") => `(tactic| repeat walk_at "go1")

namespace My
open PySem L2 Pre
def topS (i : Nat) : Stmt := PySem.Challenge.pw_wordquarry_k03_check_sums.main.body.getD i (.Pass ⟨0, 0, 0, 0⟩)
abbrev s_doubled : Stmt := topS 4
abbrev N_doubled : List Str := ["left"]
theorem sc_doubled : FnScope N_doubled ["left"] (defScope s_doubled) := ⟨rfl, rfl, rfl, by decide +kernel, rfl, by decide +kernel, by decide +kernel⟩
abbrev s_times_power : Stmt := topS 5
abbrev N_times_power : List Str := ["left", "many", "found", "by", "k"]
theorem sc_times_power : FnScope N_times_power ["left", "many"] (defScope s_times_power) := ⟨rfl, rfl, rfl, by decide +kernel, rfl, by decide +kernel, by decide +kernel⟩
abbrev s_product : Stmt := topS 6
abbrev N_product : List Str := ["one", "two", "found", "k"]
theorem sc_product : FnScope N_product ["one", "two"] (defScope s_product) := ⟨rfl, rfl, rfl, by decide +kernel, rfl, by decide +kernel, by decide +kernel⟩
abbrev s_check_of : Stmt := topS 7
abbrev N_check_of : List Str := ["row", "left", "byte", "k"]
theorem sc_check_of : FnScope N_check_of ["row"] (defScope s_check_of) := ⟨rfl, rfl, rfl, by decide +kernel, rfl, by decide +kernel, by decide +kernel⟩
abbrev s_joined_check : Stmt := topS 8
abbrev N_joined_check : List Str := ["one", "two", "many"]
theorem sc_joined_check : FnScope N_joined_check ["one", "two", "many"] (defScope s_joined_check) := ⟨rfl, rfl, rfl, by decide +kernel, rfl, by decide +kernel, by decide +kernel⟩
abbrev s_L_pen : Stmt := topS 10
abbrev N_L_pen : List Str := ["_law_script", "_law_fold", "_law_cell"]
theorem sc_L_pen : FnScope N_L_pen ["_law_script"] (defScope s_L_pen) := ⟨rfl, rfl, rfl, by decide +kernel, rfl, by decide +kernel, by decide +kernel⟩
abbrev s_L_draw : Stmt := topS 11
abbrev N_L_draw : List Str := ["_law_pen_here", "_law_many", "_law_cell", "_law_digit", "_law_mixed"]
theorem sc_L_draw : FnScope N_L_draw ["_law_pen_here", "_law_many"] (defScope s_L_draw) := ⟨rfl, rfl, rfl, by decide +kernel, rfl, by decide +kernel, by decide +kernel⟩
abbrev s_L_pick : Stmt := topS 12
abbrev N_L_pick : List Str := ["_law_pen_here", "_law_some"]
theorem sc_L_pick : FnScope N_L_pick ["_law_pen_here", "_law_some"] (defScope s_L_pick) := ⟨rfl, rfl, rfl, by decide +kernel, rfl, by decide +kernel, by decide +kernel⟩
abbrev s_L_bits : Stmt := topS 13
abbrev N_L_bits : List Str := ["_law_row", "_law_found", "_law_byte", "_law_left", "_law_bits_here", "_law_k"]
theorem sc_L_bits : FnScope N_L_bits ["_law_row"] (defScope s_L_bits) := ⟨rfl, rfl, rfl, by decide +kernel, rfl, by decide +kernel, by decide +kernel⟩
abbrev s_L_check : Stmt := topS 14
abbrev N_L_check : List Str := ["_law_row", "_law_under", "_law_bits_here", "_law_k", "_law_j", "_law_found", "_law_bit"]
theorem sc_L_check : FnScope N_L_check ["_law_row"] (defScope s_L_check) := ⟨rfl, rfl, rfl, by decide +kernel, rfl, by decide +kernel, by decide +kernel⟩
abbrev s_L_turned : Stmt := topS 15
abbrev N_L_turned : List Str := ["_law_row", "_law_places", "_law_found", "_law_place", "_law_weight", "_law_byte", "_law_bit"]
theorem sc_L_turned : FnScope N_L_turned ["_law_row", "_law_places"] (defScope s_L_turned) := ⟨rfl, rfl, rfl, by decide +kernel, rfl, by decide +kernel, by decide +kernel⟩
abbrev s_law : Stmt := topS 16
abbrev N_law : List Str := ["_law_script", "_law_pen_here", "_law_turn", "_law_one", "_law_two", "_law_left", "_law_right", "_law_whole", "_law_many", "_law_again", "_law_first", "_law_more", "_law_turned_here", "_law_k"]
theorem sc_law : FnScope N_law ["_law_script"] (defScope s_law) := ⟨rfl, rfl, rfl, by decide +kernel, rfl, by decide +kernel, by decide +kernel⟩
structure Txt (mg : Str → Option Value) : Prop where
  c_HIGH : GlV mg "HIGH" (.int (4294967296))
  c_TAIL : GlV mg "TAIL" (.int (141))
  c_WIDTH : GlV mg "WIDTH" (.int (32))
  b_int : mg "int" = none
  b_len : mg "len" = none
  b_list : mg "list" = none
  b_min : mg "min" = none
  b_range : mg "range" = none
  b_tuple : mg "tuple" = none
section
variable {P : Program} {w : World} {K : PySem.W.Frag} {mg : Str → Option Value} {base : Heap}
theorem ok_L_draw {f : Addr} {fd : FuncData} (F : Fun K "_law_draw" "_law_draw" s_L_draw f fd) (T : Txt mg) : FnOk P w K mg base CX0 1 f fd ["_law_pen_here", "_law_many"] spDraw := by
  refine F.ok sc_L_draw (fun vs H Q E h => ?_) (fun cdv A outer s H vs Q E hr h => ?_)
  · obtain ⟨p, c, m, n, rfl, _⟩ := h
    rfl
  · obtain ⟨p, c, m, n, rfl, hpen, hn, hm1, hm2, k⟩ := h
    refine ⟨_, (pss_cons (ps_dput (hu_of hr) (pv 0) pe_str (pe_op op_add (pe_dget (hu_of hr) (pv 0) pe_str (fun _ _ => rfl)) pe_int) rfl)
      (Evl.pss_cut (ps_if (PW.pt (pw_and (pt_cmpR op_eq (pe_dget (hu_of hr) (pv 0) pe_str (fun _ _ => rfl)) pe_int (nomark _)) (pw_and1 (pt_cmpR op_lt (pe_dget (hu_of hr) (pv 0) pe_str (fun _ _ => rfl)) (pe_callB call_len_seq (by rfl) T.b_len PySem.boot_len (pa_cons (pe_dget (hu_of hr) (pv 0) pe_str (fun _ _ => rfl)) pa_nil)) (nomark _))))) (pss_cons (ps_set (i := 2) sc_L_draw.nd rfl (.inl rfl) (pe_ix ix_list (pe_dget (hu_of hr) (pv 0) pe_str (fun _ _ => rfl)) (pe_dget (hu_of hr) (pv 0) pe_str (fun _ _ => rfl)) (fun _ _ => rfl)))
      (pss_cons (ps_dput (hu_of hr) (pv 0) pe_str (pe_op op_add (pe_dget (hu_of hr) (pv 0) pe_str (fun _ _ => rfl)) pe_int) rfl)
      (pss_one (ps_if (pt_cmpR op_ge (pv 2) (pe_op op_pow pe_int pe_int) (nomark _)) (pss_one (ps_dput (hu_of hr) (pv 0) pe_str (pe_op op_sub (pv 2) (pe_op op_pow pe_int pe_int)) rfl)) (pss_one (ps_dput (hu_of hr) (pv 0) pe_str (pe_op op_mod (pe_callTy call_int1 (by rfl) T.b_int (by decide +kernel) (pa_cons (pe_op op_add (pe_op op_mul (pe_dget (hu_of hr) (pv 0) pe_str (fun _ _ => rfl)) pe_int) (pv 2)) pa_nil)) pe_int) rfl)))))) pss_nil)
      (pss_cons (ps_if (pt_cmpR op_gt (pe_dget (hu_of hr) (pv 0) pe_str (fun _ _ => rfl)) pe_int (nomark _)) (pss_cons (ps_set (i := 3) sc_L_draw.nd rfl (.inl rfl) (pe_op op_mod (pe_callTy call_int1 (by rfl) T.b_int (by decide +kernel) (pa_cons (pe_dget (hu_of hr) (pv 0) pe_str (fun _ _ => rfl)) pa_nil)) (pv 1)))
      (pss_cons (ps_dput (hu_of hr) (pv 0) pe_str (pe_op op_fdivW (pe_dget (hu_of hr) (pv 0) pe_str (fun _ _ => rfl)) (pv 1)) rfl)
      (pss_one (ps_ret (pv 3))))) pss_nil)
      (pss_cons (ps_set (i := 4) sc_L_draw.nd rfl (.inl rfl) (pe_op op_add (pe_op op_add (pe_dget (hu_of hr) (pv 0) pe_str (fun _ _ => rfl)) (pe_op op_mul (pe_dget (hu_of hr) (pv 0) pe_str (fun _ _ => rfl)) pe_int)) pe_int))
      (pss_one (ps_ret (pe_op op_mod (pe_op op_fdiv (pe_callTy call_int1 (by rfl) T.b_int (by decide +kernel) (pa_cons (pe_op op_mod (pe_op op_pow (pv 4) pe_int) pe_int) pa_nil)) pe_int) (pv 1)))))))), ?_⟩
    obtain ⟨cells, a, d, k0, f0, hp, hc, h0, h1, h2, h3, h4, h5⟩ := hpen
    have hcp : c ≠ p := ne_of hc hp (by intro z; cases z)
    walk_at "go"
    refine g_dg hp pen_count ?_
    walk_at "go"
    refine g_dp hp pen_len put_count ?_
    walk_at "go"
    refine g_cut (fun σ' H' => ∃ (a' d' f' : Int) (v : Option V), σ' = [some (.ref p), some (.int m), v, none, none] ∧ H' = upd H p (.dK (penK c a' d' (k0 + 1) f')) ∧ 0 ≤ a' ∧ 0 ≤ d' ∧ 0 ≤ f' ∧ f' < 2147483587) ?_ ?_
    · walk_at "go"
      refine g_dg upd_same pen_digits ?_
      walk_at "go"
      refine ite2 (fun ed => ?_) (fun ed => ?_)
      · walk_at "go"
        refine g_dg upd_same pen_at ?_
        walk_at "go"
        refine g_dg upd_same pen_cells ?_
        walk_at "go"
        have hc2 : ∀ o, (upd H p o) c = some (.lst (cells.map V.int)) := fun o => (upd_ne hcp).trans hc
        refine ⟨_, _, rfl, .inl (SqL.of (hc2 _)), ?_⟩
        walk_at "go"
        refine ite2 (fun ea => ?_) (fun ea => ?_)
        · walk_at "go"
          refine g_dg upd_same pen_cells ?_
          walk_at "go"
          refine g_dg upd_same pen_at ?_
          walk_at "go"
          have ea := of_decide_eq_true ea
          rw [List.length_map] at ea
          have hi : a.toNat < cells.length := by omega
          refine g_ixL (v := .int cells[a.toNat]) (SqL.of (hc2 _)) (atI_of (n := a.toNat) (by omega) (by rw [List.getElem?_map, List.getElem?_eq_getElem hi]; rfl)) ?_
          walk_at "go"
          refine g_dg upd_same pen_at ?_
          walk_at "go"
          refine g_dp upd_same pen_len put_at ?_
          walk_at "go"
          refine ite2 (fun e1 => ?_) (fun e1 => ?_)
          · walk_at "go"
            refine g_dp upd_same pen_len put_digits ?_
            have e1 := of_decide_eq_true e1
            refine ⟨a + 1, _, f0, _, rfl, by rw [upd_upd, upd_upd], by omega, ?_, h4, h5⟩
            exact Int.sub_nonneg.mpr e1
          · walk_at "go"
            refine g_dg upd_same pen_fold ?_
            walk_at "go"
            refine g_dp upd_same pen_len put_fold ?_
            refine ⟨a + 1, d, _, _, rfl, by rw [upd_upd, upd_upd], by omega, h1, Int.emod_nonneg _ (by decide), Int.emod_lt_of_pos _ (by decide)⟩
        · walk_at "go"
          exact ⟨a, d, f0, _, rfl, rfl, h0, h1, h4, h5⟩
      · walk_at "go"
        exact ⟨a, d, f0, _, rfl, rfl, h0, h1, h4, h5⟩
    · rintro σ' H' ⟨a', d', f', v, rfl, rfl, h0', h1', h4', h5'⟩
      have hc2 : ∀ o, (upd H p o) c = some (.lst (cells.map V.int)) := fun o => (upd_ne hcp).trans hc
      walk_at "go"
      refine g_dg upd_same pen_digits ?_
      walk_at "go"
      refine ite2 (fun ed => ?_) (fun ed => ?_)
      · walk_at "go"
        refine g_dg upd_same pen_digits ?_
        walk_at "go"
        refine g_dg upd_same pen_digits ?_
        walk_at "go"
        refine g_rI (wide_div (b := 64) (by omega) (by omega) (by decide) (by decide)) ?_
        walk_at "go"
        refine g_dp upd_same pen_len put_digits ?_
        walk_at "go"
        refine k _ _ (Int.emod_nonneg _ (by omega)) (Int.emod_lt_of_pos _ (by omega)) ?_ ?_
        · rw [upd_upd]; exact Kp.put
        · rw [upd_upd]
          exact ⟨cells, a', _, _, f', upd_same, hc2 _, h0', Int.ediv_nonneg h1' (by omega), by omega, by omega, h4', h5'⟩
      · walk_at "go"
        refine g_dg upd_same pen_fold ?_
        walk_at "go"
        refine g_dg upd_same pen_count ?_
        walk_at "go"
        refine k _ _ (Int.emod_nonneg _ (by omega)) (Int.emod_lt_of_pos _ (by omega)) Kp.put ?_
        exact ⟨cells, a', d', _, f', upd_same, hc2 _, h0', h1', by omega, by omega, h4', h5'⟩
theorem ok_L_pick {f : Addr} {fd : FuncData} (F : Fun K "_law_pick" "_law_pick" s_L_pick f fd) (T : Txt mg) (C_L_draw : Cal P w K mg base 1 "_law_draw" spDraw) : FnOk P w K mg base CX0 2 f fd ["_law_pen_here", "_law_some"] (spPick K) := by
  refine F.ok sc_L_pick (fun vs H Q E h => ?_) (fun cdv A outer s H vs Q E hr h => ?_)
  · obtain ⟨p, c, z, m, n, g, rfl, _⟩ := h
    rfl
  · obtain ⟨p, c, z, m, n, g, rfl, hpen, hn, hz, hk, h1, h2, k⟩ := h
    refine ⟨_, (pss_one (ps_ret (pe_ix ix_seq (pv 1) (pcal C_L_draw hr (by decide) (by rfl) (pa_cons (pv 0) (pa_cons (pe_callB call_len (by rfl) T.b_len PySem.boot_len (pa_cons (pv 1) pa_nil)) pa_nil))) (fun _ _ => rfl)))), ?_⟩
    walk_at "go"
    refine ⟨_, _, rfl, hk.len, ?_⟩
    walk_at "go"
    refine ⟨p, c, (m : Int), n, rfl, hpen, hn, by omega, by omega, fun r H' hr0 hr1 hK hP => ?_⟩
    exact (hk.keep hz hK).item (i := r.toNat) (by omega) (by omega) (k _ _ (by omega) hK hP)
theorem ok_L_pen {f : Addr} {fd : FuncData} (F : Fun K "_law_pen" "_law_pen" s_L_pen f fd) (T : Txt mg) : FnOk P w K mg base CX0 1 f fd ["_law_script"] (spPen K) := by
  refine F.ok sc_L_pen (fun vs H Q E h => ?_) (fun cdv A outer s H vs Q E hr h => ?_)
  · obtain ⟨a, ns, rfl, _⟩ := h
    rfl
  · obtain ⟨a, ns, rfl, hS, k⟩ := h
    refine ⟨_, (pss_cons (ps_set (i := 1) sc_L_pen.nd rfl (.inl rfl) pe_int)
      (pss_cons (ps_for PassesOwn.never rfl (pi_list (pv 0)) (pg_name (i := 2) sc_L_pen.nd rfl (.inl rfl))
        (pss_one (ps_set (i := 1) sc_L_pen.nd rfl (.inl rfl) (pe_op op_mod (pe_callTy call_int1 (by rfl) T.b_int (by decide +kernel) (pa_cons (pe_op op_add (pe_op op_mul (pv 1) pe_int) (pv 2)) pa_nil)) pe_int))))
      (pss_one (ps_ret (pe_disp (pps_cons pe_str (pe_callTy call_list_of (by rfl) T.b_list (by decide +kernel) (pa_cons (pv 0) pa_nil)) (pps_cons pe_str pe_int (pps_cons pe_str pe_int (pps_cons pe_str pe_int (pps_cons pe_str (pv 1) pps_nil))))) rfl rfl (by intro z; cases z) (by decide)))))), ?_⟩
    walk_at "go"
    refine ⟨a, rfl, ⟨_, hS⟩, for_list (K := K) (a := a) (xs := ns.map V.int) (fun i σ H' => ∃ (f0 : Int) (v : Option V), σ = [some (.ref a), some (.int f0), v] ∧ H' = H ∧ 0 ≤ f0 ∧ f0 < 1000000007)
      ⟨0, none, rfl, rfl, by decide, by decide⟩ (fun i σ H' _ ⟨_, _, _, e, _⟩ => by rw [e]; exact hS) ?_ ?_⟩
    · rintro i x σ H' hi ⟨f0, v, rfl, rfl, h0, h1⟩
      obtain ⟨u, rfl⟩ : ∃ u, x = V.int u := by
        rw [List.getElem?_map] at hi
        obtain ⟨u, _, e⟩ := Option.map_eq_some_iff.mp hi
        exact ⟨u, e.symm⟩
      walk_at "go"
      exact ⟨_, _, rfl, rfl, Int.emod_nonneg _ (by decide), Int.emod_lt_of_pos _ (by decide)⟩
    · rintro σ H' ⟨f0, v, rfl, rfl, h0, h1⟩
      walk_at "go"
      intro p hp
      walk_at "go"
      refine ⟨_, _, rfl, .inl ((Same.new hp).seq hS), fun c hc => ?_⟩
      walk_at "go"
      have hcp : c ≠ p := fun z => by rw [z, upd_same] at hc; cases hc
      refine ⟨by rw [upd_ne hcp.symm]; exact upd_same, [(ks "cells", .ref c), (ks "at", .int 0), (ks "digits", .int 0), (ks "count", .int 0), (ks "fold", .int f0)], rfl, by show 5 ≤ 15; decide, ?_⟩
      refine k p c _ hp (by rw [upd_ne hcp] at hc; exact hc) (fun b o e => ?_) ⟨ns, 0, 0, 0, f0, ?_, ?_, by decide, by decide, by decide, by decide, h0, by omega⟩
      · have nbp : b ≠ p := ne_of_none e hp
        have nbc : b ≠ c := fun z => by
          rw [z] at e
          rw [upd_ne hcp, e] at hc
          cases hc
        rw [upd_ne nbp, upd_ne nbc, upd_ne nbp]
        exact e
      · rw [upd_same, pen_merge]
      · rw [upd_ne hcp, upd_same]

end
end My

namespace My
open PySem L2 Pre Crc
theorem xorW (a b : W) : Builtin.bitXor (a.toNat : Int) (b.toNat : Int) = ((a ^^^ b).toNat : Int) := by
  rw [Bits.bitXor_pp (Int.natCast_nonneg _) (Int.natCast_nonneg _), BitVec.toNat_xor]
  rfl
theorem xorN (a b : Nat) : Builtin.bitXor (a : Int) (b : Int) = ((a ^^^ b : Nat) : Int) := by
  rw [Bits.bitXor_pp (Int.natCast_nonneg _) (Int.natCast_nonneg _)]
  rfl
def spDbl : Sp := fun vs H Q _ => ∃ w : W, vs = [.int w.toNat] ∧ Q (.int (dbl w).toNat) H
def spProd : Sp := fun vs H Q _ => ∃ a b : W, vs = [.int a.toNat, .int b.toNat] ∧ Q (.int (prod a b).toNat) H
def spTp : Sp := fun vs H Q _ => ∃ (a : W) (n : Nat), vs = [.int a.toNat, .int n] ∧ Q (.int (dn n a).toNat) H
def bytesV (row : List Nat) : List V := row.map fun (b : Nat) => V.int b
def spChk (K : PySem.W.Frag) : Sp := fun vs H Q _ => ∃ (p : Addr) (row : List Nat), vs = [.ref p] ∧ SqT K H p (bytesV row) ∧ (∀ b ∈ row, b < 256) ∧ Q (.int (chk row).toNat) H
def spJoin : Sp := fun vs H Q _ => ∃ (a b : W) (n : Nat), vs = [.int a.toNat, .int b.toNat, .int n] ∧ n < 1000000 ∧ Q (.int (dn (8 * n) a ^^^ b ^^^ dn (8 * n + 32) 1#32).toNat) H
section
variable {P : Program} {w : World} {K : PySem.W.Frag} {mg : Str → Option Value} {base : Heap}
theorem ok_doubled {f : Addr} {fd : FuncData} (F : Fun K "doubled" "doubled" s_doubled f fd) (T : Txt mg) : FnOk P w K mg base CX0 1 f fd ["left"] spDbl := by
  refine F.ok sc_doubled (fun vs H Q E h => ?_) (fun cdv A outer s H vs Q E hr h => ?_)
  · obtain ⟨w, rfl, _⟩ := h
    rfl
  · obtain ⟨a, rfl, k⟩ := h
    refine ⟨_, (pss_cons (ps_set (i := 0) sc_doubled.nd rfl (.inl rfl) (pe_op op_mul (pv 0) pe_int))
      (pss_one (ps_ret (pe_ifExp (pt_cmpR op_ge (pv 0) (pgl (by rfl) T.c_HIGH) (nomark _)) (pe_op op_xor (pe_op op_sub (pv 0) (pgl (by rfl) T.c_HIGH)) (pgl (by rfl) T.c_TAIL)) (pv 0))))), ?_⟩
    have ha := a.isLt
    walk_at "go"
    refine ite2 (fun e => ?_) (fun e => ?_)
    · have e := of_decide_eq_true e
      have e2 : 4294967296 ≤ a.toNat * 2 := by omega
      walk_at "go"
      have e3 : Builtin.bitXor ((a.toNat : Int) * 2 - 4294967296) 141 = ((dbl a).toNat : Int) := by
        rw [dbl_hi e2, ← xorN, show (a.toNat : Int) * 2 - 4294967296 = ((a.toNat * 2 - 4294967296 : Nat) : Int) by omega]
        rfl
      rw [e3]
      exact k
    · have e2 : ¬ 4294967296 ≤ a.toNat * 2 := fun z => e (decide_eq_true (by omega))
      walk_at "go"
      have e3 : (a.toNat : Int) * 2 = ((dbl a).toNat : Int) := by rw [dbl_lo e2]; omega
      show Q (.int ((a.toNat : Int) * 2)) H
      rw [e3]
      exact k
theorem ok_product {f : Addr} {fd : FuncData} (F : Fun K "product" "product" s_product f fd) (T : Txt mg) (C_doubled : Cal P w K mg base 1 "doubled" spDbl) : FnOk P w K mg base CX0 2 f fd ["one", "two"] spProd := by
  refine F.ok sc_product (fun vs H Q E h => ?_) (fun cdv A outer s H vs Q E hr h => ?_)
  · obtain ⟨a, b, rfl, _⟩ := h
    rfl
  · obtain ⟨a, b, rfl, k⟩ := h
    refine ⟨_, (pss_cons (ps_set (i := 2) sc_product.nd rfl (.inl rfl) pe_int)
      (pss_cons (ps_for PassesOwn.never rfl (pi_range1 (by rfl) T.b_range (pa_cons (pgl (by rfl) T.c_WIDTH) pa_nil)) (pg_name (i := 3) sc_product.nd rfl (.inl rfl))
        (pss_cons (ps_set (i := 2) sc_product.nd rfl (.inl rfl) (pcal C_doubled hr (by decide) (by rfl) (pa_cons (pv 2) pa_nil)))
      (pss_one (ps_if (pt_cmpR op_eq (pe_op op_mod (pe_op op_shr (pv 1) (pe_op op_sub (pe_op op_sub (pgl (by rfl) T.c_WIDTH) pe_int) (pv 3))) pe_int) pe_int (nomark _)) (pss_one (ps_set (i := 2) sc_product.nd rfl (.inl rfl) (pe_op op_xor (pv 2) (pv 0)))) pss_nil))))
      (pss_one (ps_ret (pv 2))))), ?_⟩
    have ha := a.isLt
    have hb := b.isLt
    walk_at "go"
    refine ⟨32, rfl, by decide, by decide, for_range (lo := 0) (n := 32) (fun i σ H' => ∃ v : Option V, σ = [some (.int a.toNat), some (.int b.toNat), some (.int (hor a b i).toNat), v] ∧ H' = H) ⟨none, rfl, rfl⟩ ?_ ?_⟩
    · rintro i σ H' hi ⟨v, rfl, rfl⟩
      walk_at "go"
      refine ⟨hor a b i, rfl, ?_⟩
      walk_at "go"
      have e1 : ((32 : Int) - 1 - (0 + (i : Int))).toNat = 31 - i := by omega
      have e2 : ((b.toNat : Int) / 2 ^ ((32 : Int) - 1 - (0 + (i : Int))).toNat % 2) = ((b.toNat / 2 ^ (31 - i) % 2 : Nat) : Int) := by
        rw [e1]
        norm_cast
      rw [e2]
      have e3 := bit_div b (31 - i)
      refine ite2 (fun e => ?_) (fun e => ?_)
      · have e := V.int.inj (of_decide_eq_true e)
        have e4 : b.getLsbD (31 - i) = true := by rw [e3]; exact decide_eq_true (by omega)
        walk_at "go"
        refine ⟨some (.int (0 + (i : Int))), ?_, rfl⟩
        rw [xorW]
        have e5 : hor a b (i + 1) = dbl (hor a b i) ^^^ a := by
          show dbl (hor a b i) ^^^ (if b.getLsbD (31 - i) then a else 0#32) = _
          rw [e4]
          rfl
        rw [e5]
        rfl
      · have e4 : b.getLsbD (31 - i) = false := by
          rw [e3]
          refine decide_eq_false fun z => e (decide_eq_true ?_)
          rw [z]
          rfl
        walk_at "go"
        refine ⟨some (.int (0 + (i : Int))), ?_, rfl⟩
        have e5 : hor a b (i + 1) = dbl (hor a b i) := by
          show dbl (hor a b i) ^^^ (if b.getLsbD (31 - i) then a else 0#32) = _
          rw [e4]
          exact BitVec.xor_zero
        rw [e5]
        rfl
    · rintro σ H' ⟨v, rfl, rfl⟩
      walk_at "go"
      exact k
theorem ok_times_power {f : Addr} {fd : FuncData} (F : Fun K "times_power" "times_power" s_times_power f fd) (T : Txt mg) (C_product : Cal P w K mg base 2 "product" spProd) : FnOk P w K mg base CX0 3 f fd ["left", "many"] spTp := by
  refine F.ok sc_times_power (fun vs H Q E h => ?_) (fun cdv A outer s H vs Q E hr h => ?_)
  · obtain ⟨a, b, rfl, _⟩ := h
    rfl
  · obtain ⟨a, n, rfl, k⟩ := h
    refine ⟨_, (pss_cons (ps_par3 (i := 2) (j := 3) (l := 4) (by rfl) sc_times_power.nd rfl rfl rfl (by decide) (by decide) (by decide) rfl rfl rfl (pa_cons (pv 0) (pa_cons pe_int (pa_cons (pv 1) pa_nil))) (by rfl))
      (pss_cons (ps_while PassesOwn.never (pt_cmpR op_gt (pv 4) pe_int (nomark _)) (Evl.pss_cut (ps_if (pt_cmpR op_eq (pe_op op_mod (pv 4) pe_int) pe_int (nomark _)) (pss_one (ps_set (i := 2) sc_times_power.nd rfl (.inl rfl) (pcal C_product hr (by decide) (by rfl) (pa_cons (pv 2) (pa_cons (pv 3) pa_nil))))) pss_nil)
      (pss_one (ps_par (i := 3) (j := 4) (by rfl) sc_times_power.nd rfl rfl (by decide) rfl rfl (pa_cons (pcal C_product hr (by decide) (by rfl) (pa_cons (pv 3) (pa_cons (pv 3) pa_nil))) (pa_cons (pe_op op_fdiv (pv 4) pe_int) pa_nil)) (by rfl)))))
      (pss_one (ps_ret (pv 2))))), ?_⟩
    walk_at "go"
    refine g_while (fun m σ H' => ∃ (x p z : Nat), m = z ∧ σ = [some (.int a.toNat), some (.int n), some (.int (dn x a).toNat), some (.int (dn p 1#32).toNat), some (.int z)] ∧ H' = H ∧ x + p * z = n) n ⟨0, 1, n, rfl, rfl, rfl, by omega⟩ ?_
    rintro m σ H' ⟨x, p, z, rfl, rfl, rfl, hx⟩
    walk_at "go"
    refine ite2 (fun e => ?_) (fun e => ?_)
    · have hz : 0 < m := by have := of_decide_eq_true e; omega
      refine ⟨_, fun _ _ h => h, ?_⟩
      have hodd : (m : Int) % 2 = ((m % 2 : Nat) : Int) := by norm_cast
      have hhalf : (m : Int) / 2 = ((m / 2 : Nat) : Int) := by norm_cast
      refine g_cut (fun σ' H2 => σ' = [some (.int a.toNat), some (.int n), some (.int (dn (x + p * (m % 2)) a).toNat), some (.int (dn p 1#32).toNat), some (.int m)] ∧ H2 = H') ?_ ?_
      · walk_at "go"
        rw [hodd]
        refine ite2 (fun e => ?_) (fun e => ?_)
        · have e := V.int.inj (of_decide_eq_true e)
          have e1 : m % 2 = 1 := by omega
          walk_at "go"
          refine ⟨dn x a, dn p 1#32, rfl, ?_⟩
          walk_at "go"
          refine ⟨?_, rfl⟩
          rw [e1, Nat.mul_one, prod_dn, dn_add, Nat.add_comm x p]
          rfl
        · have e1 : m % 2 = 0 := by
            rcases Nat.mod_two_eq_zero_or_one m with z | z
            · exact z
            · exact absurd (decide_eq_true (by rw [z]; rfl)) e
          walk_at "go"
          rw [e1, Nat.mul_zero, Nat.add_zero]
          exact ⟨rfl, rfl⟩
      · rintro σ' H2 ⟨rfl, rfl⟩
        walk_at "go"
        refine ⟨dn p 1#32, dn p 1#32, rfl, ?_⟩
        walk_at "go"
        refine ⟨m / 2, by omega, x + p * (m % 2), p + p, m / 2, rfl, ?_, rfl, ?_⟩
        · rw [prod_dn, dn_add, hhalf]
          rfl
        · rw [← hx, ← Nat.two_mul, Nat.mul_comm 2 p, Nat.mul_assoc, Nat.add_assoc, ← Nat.mul_add, Nat.mod_add_div]
    · have hz : m = 0 := by
        have : ¬ (0 : Int) < m := fun z => e (decide_eq_true z)
        omega
      subst hz
      walk_at "go"
      rw [show x = n by omega]
      exact k
theorem ok_joined_check {f : Addr} {fd : FuncData} (F : Fun K "joined_check" "joined_check" s_joined_check f fd) (T : Txt mg) (C_times_power : Cal P w K mg base 3 "times_power" spTp) : FnOk P w K mg base CX0 4 f fd ["one", "two", "many"] spJoin := by
  refine F.ok sc_joined_check (fun vs H Q E h => ?_) (fun cdv A outer s H vs Q E hr h => ?_)
  · obtain ⟨a, b, n, rfl, _⟩ := h
    rfl
  · obtain ⟨a, b, n, rfl, hn, k⟩ := h
    refine ⟨_, (pss_one (ps_ret (pe_op op_xor (pe_op op_xor (pcal C_times_power hr (by decide) (by rfl) (pa_cons (pv 0) (pa_cons (pe_op op_mul pe_int (pv 2)) pa_nil))) (pv 1)) (pcal C_times_power hr (by decide) (by rfl) (pa_cons pe_int (pa_cons (pe_op op_add (pe_op op_mul pe_int (pv 2)) (pgl (by rfl) T.c_WIDTH)) pa_nil)))))), ?_⟩
    walk_at "go"
    refine ⟨a, 8 * n, rfl, ?_⟩
    walk_at "go"
    refine ⟨1#32, 8 * n + 32, rfl, ?_⟩
    walk_at "go"
    rw [xorW, xorW]
    exact k
theorem take_snoc {α : Type} {xs : List α} {i : Nat} {x : α} (h : xs[i]? = some x) : xs.take (i + 1) = xs.take i ++ [x] := by
  rw [List.take_add_one, h]
  rfl
theorem bytes_at {row : List Nat} {i : Nat} {x : V} (h : (bytesV row)[i]? = some x) : ∃ b, row[i]? = some b ∧ x = .int b := by
  unfold bytesV at h
  rw [List.getElem?_map] at h
  obtain ⟨b, e1, e2⟩ := Option.map_eq_some_iff.mp h
  exact ⟨b, e1, e2.symm⟩
theorem ok_check_of {f : Addr} {fd : FuncData} (F : Fun K "check_of" "check_of" s_check_of f fd) (T : Txt mg) (C_doubled : Cal P w K mg base 1 "doubled" spDbl) : FnOk P w K mg base CX0 2 f fd ["row"] (spChk K) := by
  refine F.ok sc_check_of (fun vs H Q E h => ?_) (fun cdv A outer s H vs Q E hr h => ?_)
  · obtain ⟨p, row, rfl, _⟩ := h
    rfl
  · obtain ⟨p, row, rfl, hS, hb, k⟩ := h
    refine ⟨_, (pss_cons (ps_set (i := 1) sc_check_of.nd rfl (.inl rfl) (pgl (by rfl) T.c_TAIL))
      (pss_cons (ps_for PassesOwn.never rfl (pi_tup (pv 0)) (pg_name (i := 2) sc_check_of.nd rfl (.inl rfl))
        (pss_cons (ps_set (i := 1) sc_check_of.nd rfl (.inl rfl) (pe_op op_xor (pv 1) (pe_op op_shl (pv 2) (pe_op op_sub (pgl (by rfl) T.c_WIDTH) pe_int))))
      (pss_one (ps_for PassesOwn.never rfl (pi_range1 (by rfl) T.b_range (pa_cons pe_int pa_nil)) (pg_name (i := 3) sc_check_of.nd rfl (.inl rfl))
        (pss_one (ps_set (i := 1) sc_check_of.nd rfl (.inl rfl) (pcal C_doubled hr (by decide) (by rfl) (pa_cons (pv 1) pa_nil))))))))
      (pss_one (ps_ret (pv 1))))), ?_⟩
    walk_at "go"
    refine ⟨p, rfl, ⟨_, hS⟩, for_tup (K := K) (a := p) (xs := bytesV row) (fun i σ H' => ∃ v v' : Option V, σ = [some (.ref p), some (.int (chk (row.take i)).toNat), v, v'] ∧ H' = H) ⟨none, none, ?_, rfl⟩ (fun i σ H' _ ⟨_, _, _, e⟩ => by rw [e]; exact hS) ?_ ?_⟩
    · rw [List.take_zero, chk_nil]
      rfl
    · rintro i x σ H' hi ⟨v, v', rfl, rfl⟩
      obtain ⟨b, hi2, rfl⟩ := bytes_at hi
      have hb := hb b (List.mem_of_getElem? hi2)
      walk_at "go"
      have e1 : ((32 : Int) - 8).toNat = 24 := rfl
      have e2 : Builtin.bitXor ((chk (row.take i)).toNat : Int) ((b : Int) * 2 ^ ((32 : Int) - 8).toNat) = ((chk (row.take i) ^^^ BitVec.ofNat 32 (b * 2 ^ 24)).toNat : Int) := by
        rw [← xorW, e1, BitVec.toNat_ofNat]
        have : b * 2 ^ 24 % 2 ^ 32 = b * 2 ^ 24 := by omega
        rw [this]
        norm_cast
      rw [e2]
      refine ⟨8, rfl, by decide, by decide, for_range (lo := 0) (n := 8) (fun j σ H2 => ∃ v : Option V, σ = [some (.ref p), some (.int (dn j (chk (row.take i) ^^^ BitVec.ofNat 32 (b * 2 ^ 24))).toNat), some (.int b), v] ∧ H2 = H') ⟨v', rfl, rfl⟩ ?_ ?_⟩
      · rintro j σ H2 hj ⟨v, rfl, rfl⟩
        walk_at "go"
        refine ⟨dn j _, rfl, ?_⟩
        walk_at "go"
        exact ⟨_, rfl, rfl⟩
      · rintro σ H2 ⟨v, rfl, rfl⟩
        refine ⟨some (.int b), v, ?_, rfl⟩
        rw [take_snoc hi2, chk_snoc _ _ hb]
    · rintro σ H' ⟨v, v', rfl, rfl⟩
      walk_at "go"
      have e : row.take (bytesV row).length = row := List.take_of_length_le (by unfold bytesV; rw [List.length_map]; exact Nat.le_refl _)
      rw [e]
      exact k
end
end My

namespace My
open PySem L2 Pre Crc
def bi (b : Bool) : V := .int (b.toNat : Nat)
def bitsV (bs : List Bool) : List V := bs.map bi
def tab (n : Nat) (f : Nat → Bool) : List V := (List.range n).map fun i => bi (f i)
theorem tab_len (n : Nat) (f : Nat → Bool) : (tab n f).length = n := by unfold tab; rw [List.length_map, List.length_range]
theorem tab_get {n i : Nat} (f : Nat → Bool) (h : i < n) : (tab n f)[i]? = some (bi (f i)) := by
  unfold tab
  rw [List.getElem?_map, List.getElem?_range h]
  rfl
theorem tab_set {n i : Nat} (f : Nat → Bool) (b : Bool) : (tab n f).set i (bi b) = tab n fun j => if j = i then b else f j := by
  apply List.ext_getElem?
  intro j
  by_cases hj : j < n
  · rw [tab_get _ hj]
    by_cases e : j = i
    · subst e
      rw [List.getElem?_set_self (by rw [tab_len]; exact hj), if_pos rfl]
    · rw [List.getElem?_set_ne (Ne.symm e), tab_get _ hj, if_neg e]
  · rw [List.getElem?_eq_none (by rw [List.length_set, tab_len]; omega), List.getElem?_eq_none (by rw [tab_len]; omega)]
theorem tab_eq {n : Nat} {f g : Nat → Bool} (h : ∀ i, i < n → f i = g i) : tab n f = tab n g := by
  unfold tab
  refine List.map_congr_left fun i hi => ?_
  rw [h i (List.mem_range.mp hi)]
theorem bits_tab (bs : List Bool) : bitsV bs = tab bs.length fun i => bs.getD i false := by
  apply List.ext_getElem?
  intro j
  by_cases hj : j < bs.length
  · rw [tab_get _ hj]
    unfold bitsV
    rw [List.getElem?_map, List.getElem?_eq_getElem hj, List.getD_eq_getElem?_getD, List.getElem?_eq_getElem hj]
    rfl
  · rw [List.getElem?_eq_none (by unfold bitsV; rw [List.length_map]; omega), List.getElem?_eq_none (by rw [tab_len]; omega)]
theorem int_bi (n : Nat) (h : n < 2) : V.int (n : Nat) = bi (n == 1) := by
  have : n = 0 ∨ n = 1 := by omega
  rcases this with e | e <;> subst e <;> rfl
theorem bits8_list (b : Nat) : ((List.range 8).map fun t => V.int ((b / 2 ^ t % 2 : Nat))).reverse = bitsV (bits8 b) := by
  have e : ∀ t, V.int ((b / 2 ^ t % 2 : Nat)) = bi (b.testBit t) := fun t => by
    rw [int_bi _ (Nat.mod_lt _ (by decide)), Nat.testBit_eq_decide_div_mod_eq]
    congr 1
  have e2 : ((List.range 8).map fun t => V.int ((b / 2 ^ t % 2 : Nat))) = (List.range 8).map fun t => bi (b.testBit t) := List.map_congr_left fun t _ => e t
  rw [e2]
  rfl
def spBits (K : PySem.W.Frag) : Sp := fun vs H Q _ => ∃ (p : Addr) (row : List Nat), vs = [.ref p] ∧ SqL K H p (bytesV row) ∧ row.length ≤ 100 ∧ ∀ q H', H q = none → Same H H' → H' q = some (.lst (bitsV (rowBits row))) → Q (.ref q) H'
def spCheck (K : PySem.W.Frag) : Sp := fun vs H Q _ => ∃ (p : Addr) (row : List Nat), vs = [.ref p] ∧ SqL K H p (bytesV row) ∧ row.length ≤ 100 ∧ ∀ H', Same H H' → Q (.int (chk row).toNat) H'
def natsV (ps : List Nat) : List V := ps.map fun (p : Nat) => V.int p
def spTurned (K : PySem.W.Frag) : Sp := fun vs H Q _ => ∃ (p q : Addr) (row ps : List Nat), vs = [.ref p, .ref q] ∧ SqL K H p (bytesV row) ∧ SqL K H q (natsV ps) ∧ (∀ b ∈ row, b < 256) ∧ (∀ x ∈ ps, x < 8 * row.length) ∧ ∀ r H', H r = none → Same H H' → H' r = some (.lst (bytesV (ps.foldl turn row))) → Q (.ref r) H'
section
variable {P : Program} {w : World} {K : PySem.W.Frag} {mg : Str → Option Value} {base : Heap}
theorem ok_L_bits {f : Addr} {fd : FuncData} (F : Fun K "_law_bits" "_law_bits" s_L_bits f fd) (T : Txt mg) : FnOk P w K mg base CX0 1 f fd ["_law_row"] (spBits K) := by
  refine F.ok sc_L_bits (fun vs H Q E h => ?_) (fun cdv A outer s H vs Q E hr h => ?_)
  · obtain ⟨p, row, rfl, _⟩ := h
    rfl
  · obtain ⟨p, row, rfl, hS, hl, k⟩ := h
    refine ⟨_, (pss_cons (ps_set (i := 1) sc_L_bits.nd rfl (.inl rfl) (pe_lst pa_nil))
      (pss_cons (ps_for PassesOwn.never rfl (pi_list (pv 0)) (pg_name (i := 2) sc_L_bits.nd rfl (.inl rfl))
        (pss_cons (ps_par (i := 3) (j := 4) (by rfl) sc_L_bits.nd rfl rfl (by decide) rfl rfl (pa_cons (pv 2) (pa_cons (pe_lst pa_nil) pa_nil)) (by rfl))
      (pss_cons (ps_for PassesOwn.never rfl (pi_range1 (by rfl) T.b_range (pa_cons pe_int pa_nil)) (pg_name (i := 5) sc_L_bits.nd rfl (.inl rfl))
        (pss_cons (ps_expr (pe_bm PySem.F.plainAttrs_list PySem.F.slot_list_append PySem.F.type_list_append mt_append (pv 4) (pa_cons (pe_op op_mod (pe_callTy call_int1 (by rfl) T.b_int (by decide +kernel) (pa_cons (pv 3) pa_nil)) pe_int) pa_nil)))
      (pss_one (ps_set (i := 3) sc_L_bits.nd rfl (.inl rfl) (pe_op op_fdiv (pe_callTy call_int1 (by rfl) T.b_int (by decide +kernel) (pa_cons (pv 3) pa_nil)) pe_int)))))
      (pss_one (ps_set (i := 1) sc_L_bits.nd rfl (.inl rfl) (pe_op op_cat (pv 1) (pe_revL (pv 4))))))))
      (pss_one (ps_ret (pv 1))))), ?_⟩
    walk_at "go"
    refine ⟨by walk_at "sz", ?_⟩
    intro q n_q
    generalize eq_H1 : upd H q _ = H1
    have S_H1 : Same H H1 := by rw [← eq_H1]; exact Same.new n_q
    have e_q := congrFun eq_H1 q
    rw [upd_same] at e_q
    have e_q := e_q.symm
    clear eq_H1
    walk_at "go"
    refine ⟨p, rfl, ⟨_, S_H1.seq hS⟩, for_list (K := K) (a := p) (xs := bytesV row) (fun i σ H' => ∃ (q : Addr) (v2 v3 v4 v5 : Option V), σ = [some (.ref p), some (.ref q), v2, v3, v4, v5] ∧ H q = none ∧ Same H H' ∧ H' q = some (.lst (bitsV (rowBits (row.take i))))) ⟨q, none, none, none, none, rfl, n_q, S_H1, e_q⟩ (fun i σ H' _ ⟨_, _, _, _, _, _, _, S, _⟩ => S.seq hS) ?_ ?_⟩
    · rintro i x σ H' hi ⟨q, v2, v3, v4, v5, rfl, nq, S, eq⟩
      obtain ⟨b, hi2, rfl⟩ := bytes_at hi
      walk_at "go"
      refine ⟨by walk_at "sz", ?_⟩
      intro bb n_bb
      generalize eq_H2 : upd H' bb _ = H2
      have S_H2 : Same H' H2 := by rw [← eq_H2]; exact Same.new n_bb
      have e_bb := congrFun eq_H2 bb
      rw [upd_same] at e_bb
      have e_bb := e_bb.symm
      clear eq_H2
      walk_at "go"
      refine ⟨8, rfl, by decide, by decide, for_range (lo := 0) (n := 8) (fun j σ H3 => ∃ v : Option V, σ = [some (.ref p), some (.ref q), some (.int b), some (.int (b / 2 ^ j : Nat)), some (.ref bb), v] ∧ Same H H3 ∧ H3 q = some (.lst (bitsV (rowBits (row.take i)))) ∧ H3 bb = some (.lst ((List.range j).map fun t => V.int ((b / 2 ^ t % 2 : Nat))))) ⟨v5, ?_, S.trans S_H2, S_H2 _ _ eq, e_bb⟩ ?_ ?_⟩
      · rw [Nat.pow_zero, Nat.div_one]
        rfl
      · rintro j σ H3 hj ⟨v, rfl, S3, eq3, ebb⟩
        walk_at "go"
        refine ⟨.inl ⟨rfl, _, SqL.of ebb⟩, ?_⟩
        walk_at "go"
        refine ⟨_, _, _, rfl, rfl, ebb, small1000 (by rw [List.length_map, List.length_range]; omega), ?_⟩
        walk_at "go"
        have nbb : H bb = none := S.free n_bb
        refine ⟨some (.int (0 + (j : Int))), ?_, fun c o e => ?_, ?_, ?_⟩
        rotate_left
        · rw [upd_ne (ne_of_none e nbb)]
          exact S3 _ _ e
        · have nq2 : q ≠ bb := ne_of_none eq n_bb
          rw [upd_ne nq2]
          exact eq3
        · rw [upd_same, List.range_succ, List.map_append]
          norm_cast
        rotate_left
        · have e1 : ((b / 2 ^ j : Nat) : Int) / 2 = ((b / 2 ^ (j + 1) : Nat) : Int) := by
            rw [Nat.pow_succ, ← Nat.div_div_eq_div_mul]
            norm_cast
          rw [e1]
          rfl
      · rintro σ H3 ⟨v, rfl, S3, eq3, ebb⟩
        walk_at "go"
        refine ⟨bb, _, rfl, SqL.of ebb, ?_⟩
        intro rv n_rv
        generalize eq_H4 : upd H3 rv _ = H4
        have S_H4 : Same H3 H4 := by rw [← eq_H4]; exact Same.new n_rv
        have e_rv := congrFun eq_H4 rv
        rw [upd_same] at e_rv
        have e_rv := e_rv.symm
        clear eq_H4
        walk_at "go"
        rw [bits8_list] at e_rv
        refine ⟨_, _, _, _, rfl, rfl, S_H4 _ _ eq3, e_rv, ?_, ?_⟩
        · have h1 : (rowBits (row.take i)).length ≤ 800 := by rw [rowBits_len, List.length_take]; omega
          unfold bitsV
          rw [List.length_map, List.length_map]
          exact Nat.le_of_lt (small1000 (show _ + 8 ≤ 1000 by omega))
        intro q2 n_q2
        generalize eq_H5 : upd H4 q2 _ = H5
        have S_H5 : Same H4 H5 := by rw [← eq_H5]; exact Same.new n_q2
        have e_q2 := congrFun eq_H5 q2
        rw [upd_same] at e_q2
        have e_q2 := e_q2.symm
        clear eq_H5
        walk_at "go"
        have S5 := S3.trans (S_H4.trans S_H5)
        refine ⟨q2, _, _, _, _, rfl, (S3.trans S_H4).free n_q2, S5, ?_⟩
        rw [e_q2, take_snoc hi2, rowBits_app]
        unfold bitsV
        rw [List.map_append]
        show _ = some (HO.lst (_ ++ List.map bi (bits8 b ++ [])))
        rw [List.append_nil]
    · rintro σ H' ⟨q, v2, v3, v4, v5, rfl, nq, S, eq⟩
      walk_at "go"
      have e : row.take (bytesV row).length = row := List.take_of_length_le (by unfold bytesV; rw [List.length_map]; exact Nat.le_refl _)
      rw [e] at eq
      exact k q H' nq S eq
end
end My

namespace My
open PySem L2 Pre Crc
theorem start_tab (bs : List Bool) : [V.int 1] ++ bitsV bs ++ (List.replicate 32 [V.int 0]).flatten = tab (bs.length + 33) (start0 bs) := by
  have e : [V.int 1] ++ bitsV bs ++ (List.replicate 32 [V.int 0]).flatten = bitsV (true :: (bs ++ List.replicate 32 false)) := by
    unfold bitsV
    rw [List.map_cons, List.map_append]
    rfl
  have el : (true :: (bs ++ List.replicate 32 false)).length = bs.length + 33 := by
    rw [List.length_cons, List.length_append, List.length_replicate]
  rw [e, bits_tab, el]
  rfl
theorem under_tab : [V.int 1] ++ (List.replicate 24 [V.int 0]).flatten ++ [V.int 1, V.int 0, V.int 0, V.int 0, V.int 1, V.int 1, V.int 0, V.int 1] = tab 33 under := by rfl
theorem ne_bits (a b : Bool) : V.int (if (!decide (bi a = bi b)) = true then 1 else 0) = bi (a ^^ b) := by
  cases a <;> cases b <;> rfl
theorem turn_int (b q : Nat) (hb : b < 256) (hq : q < 8) : (b : Int) + ((2 ^ (7 - q) : Nat) : Int) - 2 * ((2 ^ (7 - q) : Nat) : Int) * ((b : Int) / ((2 ^ (7 - q) : Nat) : Int) % 2) = ((tb b q : Nat) : Int) := by
  have e : (b : Int) / ((2 ^ (7 - q) : Nat) : Int) % 2 = ((b / 2 ^ (7 - q) % 2 : Nat) : Int) := by norm_cast
  rw [e]
  unfold tb
  have h2 := Nat.mod_lt (b / 2 ^ (7 - q)) (show 0 < 2 by decide)
  by_cases h : b / 2 ^ (7 - q) % 2 = 1
  · have hle : 2 ^ (7 - q) ≤ b := by
      rcases Nat.lt_or_ge b (2 ^ (7 - q)) with z | z
      · rw [Nat.div_eq_of_lt z] at h
        cases h
      · exact z
    rw [if_pos h, h]
    omega
  · have h0 : b / 2 ^ (7 - q) % 2 = 0 := by omega
    rw [if_neg h, h0]
    omega
theorem weights : ∀ q, q < 8 → [V.int 128, V.int 64, V.int 32, V.int 16, V.int 8, V.int 4, V.int 2, V.int 1][q]? = some (.int ((2 ^ (7 - q) : Nat) : Int)) := by decide +kernel
theorem bytes_set (row : List Nat) (i b : Nat) : (bytesV row).set i (.int b) = bytesV (row.set i b) := by
  unfold bytesV
  rw [List.map_set]
section
variable {P : Program} {w : World} {K : PySem.W.Frag} {mg : Str → Option Value} {base : Heap}
theorem ok_L_turned {f : Addr} {fd : FuncData} (F : Fun K "_law_turned" "_law_turned" s_L_turned f fd) (T : Txt mg) : FnOk P w K mg base CX0 1 f fd ["_law_row", "_law_places"] (spTurned K) := by
  refine F.ok sc_L_turned (fun vs H Q E h => ?_) (fun cdv A outer s H vs Q E hr h => ?_)
  · obtain ⟨p, q, row, ps, rfl, _⟩ := h
    rfl
  · obtain ⟨p, q, row, ps, rfl, hP, hQ, hb, hps, k⟩ := h
    refine ⟨_, (pss_cons (ps_set (i := 2) sc_L_turned.nd rfl (.inl rfl) (pe_callTy call_list_of (by rfl) T.b_list (by decide +kernel) (pa_cons (pv 0) pa_nil)))
      (pss_cons (ps_for PassesOwn.never rfl (pi_list (pv 1)) (pg_name (i := 3) sc_L_turned.nd rfl (.inl rfl))
        (pss_cons (ps_set (i := 4) sc_L_turned.nd rfl (.inl rfl) (pe_ix ix_list (pe_lst (pa_cons pe_int (pa_cons pe_int (pa_cons pe_int (pa_cons pe_int (pa_cons pe_int (pa_cons pe_int (pa_cons pe_int (pa_cons pe_int pa_nil))))))))) (pe_op op_mod (pe_callTy call_int1 (by rfl) T.b_int (by decide +kernel) (pa_cons (pv 3) pa_nil)) pe_int) (fun _ _ => rfl)))
      (pss_cons (ps_set (i := 5) sc_L_turned.nd rfl (.inl rfl) (pe_ix ix_list (pv 2) (pe_op op_fdiv (pe_callTy call_int1 (by rfl) T.b_int (by decide +kernel) (pa_cons (pv 3) pa_nil)) pe_int) (fun _ _ => rfl)))
      (pss_cons (ps_set (i := 6) sc_L_turned.nd rfl (.inl rfl) (pe_op op_mod (pe_op op_fdiv (pe_callTy call_int1 (by rfl) T.b_int (by decide +kernel) (pa_cons (pv 5) pa_nil)) (pv 4)) pe_int))
      (pss_one (ps_asg (pe_op op_sub (pe_op op_add (pv 5) (pv 4)) (pe_op op_mul (pe_op op_mul pe_int (pv 4)) (pv 6))) (pg_sub (pv 2) (pe_op op_fdiv (pe_callTy call_int1 (by rfl) T.b_int (by decide +kernel) (pa_cons (pv 3) pa_nil)) pe_int) set_list)))))))
      (pss_one (ps_ret (pv 2))))), ?_⟩
    walk_at "go"
    refine ⟨_, _, rfl, .inl hP, ?_⟩
    intro r n_r
    generalize eq_H1 : upd H r _ = H1
    have S_H1 : Same H H1 := by rw [← eq_H1]; exact Same.new n_r
    have e_r := congrFun eq_H1 r
    rw [upd_same] at e_r
    have e_r := e_r.symm
    clear eq_H1
    walk_at "go"
    refine ⟨q, rfl, ⟨_, S_H1.seq hQ⟩, for_list (K := K) (a := q) (xs := natsV ps) (fun i σ H' => ∃ (v3 v4 v5 v6 : Option V), σ = [some (.ref p), some (.ref q), some (.ref r), v3, v4, v5, v6] ∧ Same H H' ∧ H' r = some (.lst (bytesV ((ps.take i).foldl turn row)))) ⟨none, none, none, none, rfl, S_H1, e_r⟩ (fun i σ H' _ ⟨_, _, _, _, _, S, _⟩ => S.seq hQ) ?_ ?_⟩
    · rintro i x σ H' hi ⟨v3, v4, v5, v6, rfl, S, er⟩
      obtain ⟨y, hi2, rfl⟩ : ∃ y, ps[i]? = some y ∧ x = V.int y := bytes_at hi
      have hy := hps y (List.mem_of_getElem? hi2)
      obtain ⟨_, hlen, hby⟩ := turns_pv (ps.take i) row hb (fun z hz => hps z (List.mem_of_mem_take hz))
      generalize hrow : (ps.take i).foldl turn row = row' at er hlen hby
      have ey8 : (y : Int) % 8 = ((y % 8 : Nat) : Int) := by norm_cast
      have ed8 : (y : Int) / 8 = ((y / 8 : Nat) : Int) := by norm_cast
      have h8 : y % 8 < 8 := Nat.mod_lt _ (by decide)
      have hd : y / 8 < row'.length := by omega
      have hb' : row'.getD (y / 8) 0 < 256 := by
        rw [List.getD_eq_getElem?_getD, List.getElem?_eq_getElem hd]
        exact hby _ (List.getElem_mem _)
      walk_at "go"
      refine ⟨by walk_at "sz", ?_⟩
      intro wl n_wl
      generalize eq_H2 : upd H' wl _ = H2
      have S_H2 : Same H' H2 := by rw [← eq_H2]; exact Same.new n_wl
      have e_wl := congrFun eq_H2 wl
      rw [upd_same] at e_wl
      have e_wl := e_wl.symm
      clear eq_H2
      walk_at "go"
      rw [ey8]
      refine g_ixL (SqL.of e_wl) (atI_of rfl (weights _ h8)) ?_
      walk_at "go"
      rw [ed8]
      have er2 := S_H2 _ _ er
      refine g_ixL (SqL.of er2) (atI_of (v := .int (row'.getD (y / 8) 0 : Nat)) rfl (by unfold bytesV; rw [List.getElem?_map, getD_some hd]; rfl)) ?_
      walk_at "go"
      have hw : 2 ^ (7 - y % 8) ≤ 128 := Nat.pow_le_pow_right (n := 2) (by decide) (show 7 - y % 8 ≤ 7 by omega)
      have hw0 : 0 < 2 ^ (7 - y % 8) := Nat.pow_pos (by decide)
      refine g_rI (show CDiv _ _ from ⟨by omega, by omega⟩) ?_
      walk_at "go"
      rw [turn_int _ _ hb' h8, ed8]
      refine ⟨r, _, _, y / 8, rfl, rfl, er2, ?_, ?_⟩
      · unfold ixN
        rw [if_pos (Int.natCast_nonneg _), if_pos (by unfold bytesV; rw [List.length_map]; omega)]
        rfl
      · refine ⟨some _, some _, some _, some _, rfl, fun c o e => ?_, ?_⟩
        · have nr : H r = none := n_r
          rw [upd_ne (ne_of_none e nr)]
          exact S_H2 _ _ (S _ _ e)
        · rw [upd_same, bytes_set, take_snoc hi2, List.foldl_append, hrow]
          rfl
    · rintro σ H' ⟨v3, v4, v5, v6, rfl, S, er⟩
      walk_at "go"
      have e : ps.take (natsV ps).length = ps := List.take_of_length_le (by unfold natsV; rw [List.length_map]; exact Nat.le_refl _)
      rw [e] at er
      exact k r H' n_r S er
theorem ok_L_check {f : Addr} {fd : FuncData} (F : Fun K "_law_check" "_law_check" s_L_check f fd) (T : Txt mg) (C_L_bits : Cal P w K mg base 1 "_law_bits" (spBits K)) : FnOk P w K mg base CX0 2 f fd ["_law_row"] (spCheck K) := by
  refine F.ok sc_L_check (fun vs H Q E h => ?_) (fun cdv A outer s H vs Q E hr h => ?_)
  · obtain ⟨p, row, rfl, _⟩ := h
    rfl
  · obtain ⟨p, row, rfl, hS, hl, k⟩ := h
    refine ⟨_, (pss_cons (ps_set (i := 1) sc_L_check.nd rfl (.inl rfl) (pe_op op_cat (pe_op op_cat (pe_lst (pa_cons pe_int pa_nil)) (pe_op op_rep (pe_lst (pa_cons pe_int pa_nil)) pe_int)) (pe_lst (pa_cons pe_int (pa_cons pe_int (pa_cons pe_int (pa_cons pe_int (pa_cons pe_int (pa_cons pe_int (pa_cons pe_int (pa_cons pe_int pa_nil)))))))))))
      (pss_cons (ps_set (i := 2) sc_L_check.nd rfl (.inl rfl) (pe_op op_cat (pe_op op_cat (pe_lst (pa_cons pe_int pa_nil)) (pcal C_L_bits hr (by decide) (by rfl) (pa_cons (pv 0) pa_nil))) (pe_op op_rep (pe_lst (pa_cons pe_int pa_nil)) pe_int)))
      (pss_cons (ps_for PassesOwn.never rfl (pi_range1 (by rfl) T.b_range (pa_cons (pe_op op_sub (pe_callB call_len_seq (by rfl) T.b_len PySem.boot_len (pa_cons (pv 2) pa_nil)) pe_int) pa_nil)) (pg_name (i := 3) sc_L_check.nd rfl (.inl rfl))
        (pss_one (ps_if (pt_cmpR op_eq (pe_ix ix_list (pv 2) (pv 3) (fun _ _ => rfl)) pe_int (nomark _)) (pss_one (ps_for PassesOwn.never rfl (pi_range1 (by rfl) T.b_range (pa_cons pe_int pa_nil)) (pg_name (i := 4) sc_L_check.nd rfl (.inl rfl))
        (pss_one (ps_asg (pe_callTy call_int1 (by rfl) T.b_int (by decide +kernel) (pa_cons (pe_cmpR op_ne (pe_ix ix_list (pv 2) (pe_op op_add (pv 3) (pv 4)) (fun _ _ => rfl)) (pe_ix ix_list (pv 1) (pv 4) (fun _ _ => rfl)) (nomark _)) pa_nil)) (pg_sub (pv 2) (pe_op op_add (pv 3) (pv 4)) set_list))))) pss_nil)))
      (pss_cons (ps_set (i := 5) sc_L_check.nd rfl (.inl rfl) pe_int)
      (pss_cons (ps_for PassesOwn.never rfl (pi_list (pe_slice sl_list (pv 2) (po_some (pe_un un_neg pe_int)) po_none)) (pg_name (i := 6) sc_L_check.nd rfl (.inl rfl))
        (pss_one (ps_set (i := 5) sc_L_check.nd rfl (.inl rfl) (pe_op op_add (pe_op op_mul (pv 5) pe_int) (pv 6)))))
      (pss_one (ps_ret (pv 5)))))))), ?_⟩
    have hbl : (rowBits row).length = 8 * row.length := rowBits_len row
    walk_at "go"
    -- _law_under
    refine ⟨by walk_at "sz", ?_⟩
    intro a1 n_a1
    generalize eq_H1 : upd H a1 _ = H1
    have S_H1 : Same H H1 := by rw [← eq_H1]; exact Same.new n_a1
    have e_a1 := congrFun eq_H1 a1
    rw [upd_same] at e_a1
    have e_a1 := e_a1.symm
    clear eq_H1
    walk_at "go"
    refine ⟨by walk_at "sz", ?_⟩
    intro a2 n_a2
    generalize eq_H2 : upd H1 a2 _ = H2
    have S_H2 : Same H1 H2 := by rw [← eq_H2]; exact Same.new n_a2
    have e_a2 := congrFun eq_H2 a2
    rw [upd_same] at e_a2
    have e_a2 := e_a2.symm
    clear eq_H2
    walk_at "go"
    refine ⟨_, _, _, rfl, rfl, e_a2, by decide, by decide, by decide, ?_⟩
    intro a3 n_a3
    generalize eq_H3 : upd H2 a3 _ = H3
    have S_H3 : Same H2 H3 := by rw [← eq_H3]; exact Same.new n_a3
    have e_a3 := congrFun eq_H3 a3
    rw [upd_same] at e_a3
    have e_a3 := e_a3.symm
    clear eq_H3
    walk_at "go"
    refine ⟨_, _, _, _, rfl, rfl, S_H3 _ _ (S_H2 _ _ e_a1), e_a3, by decide, ?_⟩
    intro a4 n_a4
    generalize eq_H4 : upd H3 a4 _ = H4
    have S_H4 : Same H3 H4 := by rw [← eq_H4]; exact Same.new n_a4
    have e_a4 := congrFun eq_H4 a4
    rw [upd_same] at e_a4
    have e_a4 := e_a4.symm
    clear eq_H4
    walk_at "go"
    refine ⟨by walk_at "sz", ?_⟩
    intro a5 n_a5
    generalize eq_H5 : upd H4 a5 _ = H5
    have S_H5 : Same H4 H5 := by rw [← eq_H5]; exact Same.new n_a5
    have e_a5 := congrFun eq_H5 a5
    rw [upd_same] at e_a5
    have e_a5 := e_a5.symm
    clear eq_H5
    walk_at "go"
    refine ⟨_, _, _, _, rfl, rfl, S_H5 _ _ e_a4, e_a5, by decide, ?_⟩
    intro u n_u
    generalize eq_H6 : upd H5 u _ = H6
    have S_H6 : Same H5 H6 := by rw [← eq_H6]; exact Same.new n_u
    have e_u := congrFun eq_H6 u
    rw [upd_same] at e_u
    have e_u := e_u.symm
    clear eq_H6
    walk_at "go"
    rw [show ([V.int 1] ++ (List.replicate (24 : Int).toNat [V.int 0]).flatten ++ [V.int 1, V.int 0, V.int 0, V.int 0, V.int 1, V.int 1, V.int 0, V.int 1]) = tab 33 under from under_tab] at e_u
    -- _law_bits_here
    refine ⟨by walk_at "sz", ?_⟩
    intro b1 n_b1
    generalize eq_H7 : upd H6 b1 _ = H7
    have S_H7 : Same H6 H7 := by rw [← eq_H7]; exact Same.new n_b1
    have e_b1 := congrFun eq_H7 b1
    rw [upd_same] at e_b1
    have e_b1 := e_b1.symm
    clear eq_H7
    walk_at "go"
    have S7 := S_H1.trans (S_H2.trans (S_H3.trans (S_H4.trans (S_H5.trans (S_H6.trans S_H7)))))
    refine ⟨p, row, rfl, S7.seq hS, hl, fun b2 H8 n_b2 S_H8 e_b2 => ?_⟩
    walk_at "go"
    have hbv : (bitsV (rowBits row)).length = 8 * row.length := by unfold bitsV; rw [List.length_map, hbl]
    refine ⟨_, _, _, _, rfl, rfl, S_H8 _ _ e_b1, e_b2, ?_, ?_⟩
    · rw [hbv]
      exact Nat.le_of_lt (small1000 (show 1 + _ ≤ 1000 by omega))
    intro b3 n_b3
    generalize eq_H9 : upd H8 b3 _ = H9
    have S_H9 : Same H8 H9 := by rw [← eq_H9]; exact Same.new n_b3
    have e_b3 := congrFun eq_H9 b3
    rw [upd_same] at e_b3
    have e_b3 := e_b3.symm
    clear eq_H9
    walk_at "go"
    refine ⟨by walk_at "sz", ?_⟩
    intro b4 n_b4
    generalize eq_H10 : upd H9 b4 _ = H10
    have S_H10 : Same H9 H10 := by rw [← eq_H10]; exact Same.new n_b4
    have e_b4 := congrFun eq_H10 b4
    rw [upd_same] at e_b4
    have e_b4 := e_b4.symm
    clear eq_H10
    walk_at "go"
    refine ⟨_, _, _, rfl, rfl, e_b4, by decide, by decide, by decide, ?_⟩
    intro b5 n_b5
    generalize eq_H11 : upd H10 b5 _ = H11
    have S_H11 : Same H10 H11 := by rw [← eq_H11]; exact Same.new n_b5
    have e_b5 := congrFun eq_H11 b5
    rw [upd_same] at e_b5
    have e_b5 := e_b5.symm
    clear eq_H11
    walk_at "go"
    refine ⟨_, _, _, _, rfl, rfl, S_H11 _ _ (S_H10 _ _ e_b3), e_b5, ?_, ?_⟩
    · rw [List.length_append, hbv]
      exact Nat.le_of_lt (small1000 (show 1 + _ + 32 ≤ 1000 by omega))
    intro b n_b
    generalize eq_H12 : upd H11 b _ = H12
    have S_H12 : Same H11 H12 := by rw [← eq_H12]; exact Same.new n_b
    have e_b := congrFun eq_H12 b
    rw [upd_same] at e_b
    have e_b := e_b.symm
    clear eq_H12
    walk_at "go"
    rw [show ([V.int 1] ++ bitsV (rowBits row) ++ (List.replicate (32 : Int).toNat [V.int 0]).flatten) = tab ((rowBits row).length + 33) (start0 (rowBits row)) from start_tab _] at e_b
    have S12 := S7.trans (S_H8.trans (S_H9.trans (S_H10.trans (S_H11.trans S_H12))))
    have e_u12 := S_H12 _ _ (S_H11 _ _ (S_H10 _ _ (S_H9 _ _ (S_H8 _ _ (S_H7 _ _ e_u)))))
    have n_bH : H b = none := (S7.trans (S_H8.trans (S_H9.trans (S_H10.trans S_H11)))).free n_b
    have nub : u ≠ b := ne_of_none (S_H11 _ _ (S_H10 _ _ (S_H9 _ _ (S_H8 _ _ (S_H7 _ _ e_u))))) n_b
    rw [show chk row = chkB (rowBits row) from rfl] at k
    generalize rowBits row = bs at *
    have hn : bs.length ≤ 800 := by omega
    clear S_H1 S_H2 S_H3 S_H4 S_H5 S_H6 S_H7 S_H8 S_H9 S_H10 S_H11 S7
    refine ⟨_, _, rfl, .inl (SqL.of e_b), ?_⟩
    walk_at "go"
    refine ⟨((bs.length + 1 : Nat) : Int), congrArg (fun z => [V.int z]) (by rw [tab_len]; omega), by omega, by omega, for_range (lo := 0) (n := bs.length + 1) (fun i σ H' => ∃ v3 v4 : Option V, σ = [some (.ref p), some (.ref u), some (.ref b), v3, v4, none, none] ∧ Same H H' ∧ H' u = some (.lst (tab 33 under)) ∧ H' b = some (.lst (tab (bs.length + 33) (stt bs i)))) ⟨none, none, rfl, S12, e_u12, ?_⟩ ?_ ?_⟩
    · rw [e_b, tab_eq fun i _ => (stt_zero bs i).symm]
    · rintro i σ H' hi ⟨v3, v4, rfl, S, eu, eb⟩
      walk_at "go"
      refine g_ixL (SqL.of eb) (atI_of (n := i) (by omega) (tab_get _ (by omega))) ?_
      walk_at "go"
      refine ite2 (fun e => ?_) (fun e => ?_)
      · have eon : stt bs i i = true := by
          have e := of_decide_eq_true e
          cases hz : stt bs i i with
          | true => rfl
          | false => rw [hz] at e; cases e
        walk_at "go"
        refine ⟨33, rfl, by decide, by decide, for_range (lo := 0) (n := 33) (fun j σ H2 => ∃ v : Option V, σ = [some (.ref p), some (.ref u), some (.ref b), some (.int (0 + (i : Int))), v, none, none] ∧ Same H H2 ∧ H2 u = some (.lst (tab 33 under)) ∧ H2 b = some (.lst (tab (bs.length + 33) fun x => if i ≤ x ∧ x < i + j then (stt bs i x ^^ under (x - i)) else stt bs i x))) ⟨_, rfl, S, eu, ?_⟩ ?_ ?_⟩
        · rw [eb, tab_eq fun x _ => ?_]
          rw [if_neg (by omega)]
        · rintro j σ H2 hj ⟨v, rfl, S2, eu2, eb2⟩
          walk_at "go"
          refine g_ixL (SqL.of eb2) (atI_of (n := i + j) (by omega) (tab_get _ (by omega))) ?_
          walk_at "go"
          refine g_ixL (SqL.of eu2) (atI_of (n := j) (by omega) (tab_get _ (by omega))) ?_
          walk_at "go"
          rw [ne_bits]
          refine ⟨b, _, _, i + j, rfl, rfl, eb2, ixN_of (by omega) (by rw [tab_len]; omega), ?_⟩
          refine ⟨_, rfl, fun c o ec => ?_, ?_, ?_⟩
          · rw [upd_ne (ne_of_none ec n_bH)]
            exact S2 _ _ ec
          · rw [upd_ne nub]
            exact eu2
          · rw [upd_same, tab_set]
            congr 2
            refine tab_eq fun x _ => ?_
            by_cases hx : x = i + j
            · subst hx
              rw [if_pos rfl, if_neg (by omega), if_pos (by omega), show i + j - i = j by omega]
            · rw [if_neg hx]
              by_cases h1 : i ≤ x ∧ x < i + j
              · rw [if_pos h1, if_pos (by omega)]
              · rw [if_neg h1, if_neg (by omega)]
        · rintro σ H2 ⟨v, rfl, S2, eu2, eb2⟩
          refine ⟨_, _, rfl, S2, eu2, ?_⟩
          rw [eb2]
          congr 2
          refine tab_eq fun x _ => ?_
          rw [stt_step bs i x (by omega), eon]
          by_cases h1 : i ≤ x ∧ x < i + 33
          · rw [if_pos h1, if_pos ⟨h1.1, h1.2, rfl⟩]
          · rw [if_neg h1, if_neg (fun z => h1 ⟨z.1, z.2.1⟩)]
      · have eoff : stt bs i i = false := by
          cases hz : stt bs i i with
          | false => rfl
          | true => rw [hz] at e; exact absurd rfl e
        walk_at "go"
        refine ⟨_, _, rfl, S, eu, ?_⟩
        rw [eb]
        congr 2
        refine tab_eq fun x _ => ?_
        rw [stt_step bs i x (by omega), eoff, if_neg (fun z => Bool.noConfusion z.2.2)]
    · rintro σ H' ⟨v3, v4, rfl, S, eu, eb⟩
      walk_at "go"
      refine ⟨_, rfl, ?_⟩
      walk_at "go"
      refine ⟨b, _, rfl, SqL.of eb, ?_⟩
      intro q n_q
      generalize eq_H2 : upd H' q _ = H2
      have S_H2 : Same H' H2 := by rw [← eq_H2]; exact Same.new n_q
      have e_q := congrFun eq_H2 q
      rw [upd_same] at e_q
      have e_q := e_q.symm
      clear eq_H2
      have ecut : cutV (tab (bs.length + 33) (stt bs (bs.length + 1))) (some (-32)) none = tab 32 fun j => (chkB bs).getLsbD (31 - j) := by
        unfold cutV
        rw [tab_len, HT.sIx_none]
        have e1 : HT.sIx (bs.length + 33) 0 (some (-32)) = bs.length + 1 := by
          show (if (-32 : Int) < 0 then ((-32 : Int) + ((bs.length + 33 : Nat) : Int)).toNat else min (-32 : Int).toNat (bs.length + 33)) = _
          rw [if_pos (by decide)]
          omega
        rw [e1, show bs.length + 33 - (bs.length + 1) = 32 by omega]
        apply List.ext_getElem?
        intro j
        by_cases hj : j < 32
        · rw [List.getElem?_take, if_pos hj, List.getElem?_drop, tab_get _ (by omega), tab_get _ hj, stt_last bs j hj]
        · rw [List.getElem?_eq_none (by rw [List.length_take]; omega), List.getElem?_eq_none (by rw [tab_len]; omega)]
      have e_q : H2 q = some (.lst (tab 32 fun j => (chkB bs).getLsbD (31 - j))) := by rw [e_q]; exact congrArg (fun l => some (HO.lst l)) ecut
      walk_at "go"
      refine ⟨q, rfl, ⟨_, SqL.of e_q⟩, for_list (K := K) (a := q) (xs := tab 32 fun j => (chkB bs).getLsbD (31 - j)) (fun i σ H3 => ∃ v : Option V, σ = [some (.ref p), some (.ref u), some (.ref b), v3, v4, some (.int ((List.range i).foldl (fun n j => n * 2 + ((chkB bs).getLsbD (31 - j)).toNat) 0 : Nat)), v] ∧ H3 = H2) ⟨none, rfl, rfl⟩ (fun i σ H3 _ ⟨_, _, e⟩ => by rw [e]; exact SqL.of e_q) ?_ ?_⟩
      · rintro i x σ H3 hx ⟨v, rfl, rfl⟩
        have hi : i < 32 := by
          have := (List.getElem?_eq_some_iff.mp hx).1
          rwa [tab_len] at this
        rw [tab_get _ hi] at hx
        cases hx
        walk_at "go"
        refine g_rI0 (g := fun i j => V.int (i + j)) ?_
        walk_at "go"
        refine ⟨some (bi ((chkB bs).getLsbD (31 - i))), ?_, rfl⟩
        rw [List.range_succ, List.foldl_append]
        rfl
      · rintro σ H3 ⟨v, rfl, rfl⟩
        walk_at "go"
        rw [tab_len, num_all]
        exact k _ (S.trans S_H2)
end
end My

namespace My
open PySem L2 Pre Crc
theorem bytes_of {xs : List V} (h : ∀ y ∈ xs, ∃ b : Nat, b < 256 ∧ y = .int b) : ∃ row : List Nat, xs = bytesV row ∧ ∀ b ∈ row, b < 256 := by
  induction xs with
  | nil => exact ⟨[], rfl, fun _ z => nomatch z⟩
  | cons x xs ih =>
    obtain ⟨row, e, hr⟩ := ih fun y hy => h y (List.mem_cons_of_mem _ hy)
    obtain ⟨b, hb, rfl⟩ := h x (List.mem_cons_self ..)
    exact ⟨b :: row, by rw [e]; rfl, fun z hz => (List.mem_cons.mp hz).elim (fun q => by rw [q]; exact hb) (hr z)⟩
theorem nats_of {lo hi : Int} {xs : List V} (h : ∀ y ∈ xs, ∃ x : Nat, lo < (x : Int) ∧ (x : Int) < hi ∧ y = .int x) : ∃ ps : List Nat, xs = natsV ps ∧ ∀ x ∈ ps, lo < (x : Int) ∧ (x : Int) < hi := by
  induction xs with
  | nil => exact ⟨[], rfl, fun _ z => nomatch z⟩
  | cons x xs ih =>
    obtain ⟨row, e, hr⟩ := ih fun y hy => h y (List.mem_cons_of_mem _ hy)
    obtain ⟨b, h1, h2, rfl⟩ := h x (List.mem_cons_self ..)
    exact ⟨b :: row, by rw [e]; rfl, fun z hz => (List.mem_cons.mp hz).elim (fun q => by rw [q]; exact ⟨h1, h2⟩) (hr z)⟩
def spLaw (K : PySem.W.Frag) : Sp := fun vs H Q _ => ∃ (a : Addr) (ns : List Int), vs = [.ref a] ∧ SqL K H a (ns.map V.int) ∧ ns.length ≤ 63 ∧ ∀ H', Q (.bl true) H'
section
variable {P : Program} {w : World} {K : PySem.W.Frag} {mg : Str → Option Value} {base : Heap}
theorem ok_law {f : Addr} {fd : FuncData} (F : Fun K "law" "law" s_law f fd) (T : Txt mg) (C_L_pen : Cal P w K mg base 1 "_law_pen" (spPen K)) (C_L_draw : Cal P w K mg base 1 "_law_draw" spDraw) (C_L_pick : Cal P w K mg base 2 "_law_pick" (spPick K))
    (C_check_of : Cal P w K mg base 2 "check_of" (spChk K)) (C_L_check : Cal P w K mg base 2 "_law_check" (spCheck K)) (C_joined_check : Cal P w K mg base 4 "joined_check" spJoin) (C_L_turned : Cal P w K mg base 1 "_law_turned" (spTurned K)) : FnOk P w K mg base CX0 5 f fd ["_law_script"] (spLaw K) := by
  refine F.ok sc_law (fun vs H Q E h => ?_) (fun cdv A outer s H vs Q E hr h => ?_)
  · obtain ⟨a, ns, rfl, _⟩ := h
    rfl
  · obtain ⟨a, ns, rfl, hS, hlen, k⟩ := h
    refine ⟨_, (pss_cons (ps_set (i := 1) sc_law.nd rfl (.inr rfl) (pcal C_L_pen hr (by decide) (by rfl) (pa_cons (pv 0) pa_nil)))
      (pss_cons (ps_for PassesOwn.never rfl (pi_range1 (by rfl) T.b_range (pa_cons pe_int pa_nil)) (pg_name (i := 2) sc_law.nd rfl (.inl rfl))
        (pss_cons (ps_setLc (i := 3) (own := [("_law_k", 13)]) (g := gName 13) (tt := tYes) rfl sc_law.nd rfl rfl (sw_true rfl rfl rfl (by decide +kernel)) (pi_range1 (by rfl) T.b_range (pa_cons (pcal C_L_draw hr (by decide) (by rfl) (pa_cons (pv 1) (pa_cons pe_int pa_nil))) pa_nil)) (blkOk_by (N := N_law) (sc := defScope s_law) (by decide +kernel)) (fun _ _ _ _ _ => (pg_name (i := 13) sc_law.nd rfl (.inl rfl))) (fun _ _ _ _ _ => pts_nil) (fun _ _ _ _ _ => (pcal C_L_pick hr (by decide) (by rfl) (pa_cons (pv 1) (pa_cons (pe_lst (pa_cons pe_int (pa_cons pe_int (pa_cons pe_int (pa_cons (pcal C_L_draw hr (by decide) (by rfl) (pa_cons (pv 1) (pa_cons pe_int pa_nil))) pa_nil))))) pa_nil)))))
      (pss_cons (ps_setLc (i := 4) (own := [("_law_k", 13)]) (g := gName 13) (tt := tYes) rfl sc_law.nd rfl rfl (sw_true rfl rfl rfl (by decide +kernel)) (pi_range1 (by rfl) T.b_range (pa_cons (pcal C_L_draw hr (by decide) (by rfl) (pa_cons (pv 1) (pa_cons pe_int pa_nil))) pa_nil)) (blkOk_by (N := N_law) (sc := defScope s_law) (by decide +kernel)) (fun _ _ _ _ _ => (pg_name (i := 13) sc_law.nd rfl (.inl rfl))) (fun _ _ _ _ _ => pts_nil) (fun _ _ _ _ _ => (pcal C_L_draw hr (by decide) (by rfl) (pa_cons (pv 1) (pa_cons pe_int pa_nil)))))
      (pss_cons (ps_par (i := 5) (j := 6) (by rfl) sc_law.nd rfl rfl (by decide) rfl rfl (pa_cons (pcal C_check_of hr (by decide) (by rfl) (pa_cons (pe_callTy call_tuple_of (by rfl) T.b_tuple (by decide +kernel) (pa_cons (pv 3) pa_nil)) pa_nil)) (pa_cons (pcal C_check_of hr (by decide) (by rfl) (pa_cons (pe_callTy call_tuple_of (by rfl) T.b_tuple (by decide +kernel) (pa_cons (pv 4) pa_nil)) pa_nil)) pa_nil)) (by rfl))
      (pss_cons (ps_if (PW.pt (pw_or (pt_cmpR op_ne (pv 5) (pcal C_L_check hr (by decide) (by rfl) (pa_cons (pv 3) pa_nil)) (nomark _)) (pw_or1 (pt_cmpR op_ne (pv 6) (pcal C_L_check hr (by decide) (by rfl) (pa_cons (pv 4) pa_nil)) (nomark _))))) (pss_one (ps_ret pe_bl)) pss_nil)
      (pss_cons (ps_set (i := 7) sc_law.nd rfl (.inl rfl) (pcal C_L_check hr (by decide) (by rfl) (pa_cons (pe_op op_cat (pv 3) (pv 4)) pa_nil)))
      (pss_cons (ps_if (PW.pt (pw_or (pt_cmpR op_ne (pcal C_joined_check hr (by decide) (by rfl) (pa_cons (pv 5) (pa_cons (pv 6) (pa_cons (pe_callB call_len_seq (by rfl) T.b_len PySem.boot_len (pa_cons (pv 4) pa_nil)) pa_nil)))) (pv 7) (nomark _)) (pw_or1 (pt_cmpR op_ne (pcal C_check_of hr (by decide) (by rfl) (pa_cons (pe_callTy call_tuple_of (by rfl) T.b_tuple (by decide +kernel) (pa_cons (pe_op op_cat (pv 3) (pv 4)) pa_nil)) pa_nil)) (pv 7) (nomark _))))) (pss_one (ps_ret pe_bl)) pss_nil)
      (pss_cons (ps_set (i := 8) sc_law.nd rfl (.inl rfl) (pe_op op_mul pe_int (pe_callB call_len_seq (by rfl) T.b_len PySem.boot_len (pa_cons (pv 3) pa_nil))))
      (pss_one (ps_for PassesOwn.never rfl (pi_range1 (by rfl) T.b_range (pa_cons (pe_op op_mul pe_int (pe_callTy call_int1 (by rfl) T.b_int (by decide +kernel) (pa_cons (pe_cmpR op_gt (pv 8) pe_int (nomark _)) pa_nil))) pa_nil)) (pg_name (i := 9) sc_law.nd rfl (.inl rfl))
        (pss_cons (ps_set (i := 10) sc_law.nd rfl (.inl rfl) (pcal C_L_draw hr (by decide) (by rfl) (pa_cons (pv 1) (pa_cons (pv 8) pa_nil))))
      (pss_cons (ps_setLc (i := 11) (own := [("_law_k", 13)]) (g := gName 13) rfl sc_law.nd rfl rfl (sw_true rfl rfl rfl (by decide +kernel)) (pi_range2 (by rfl) T.b_range (pa_cons (pe_op op_add (pv 10) pe_int) (pa_cons (pe_callB (call_min2 rfl) (by rfl) T.b_min (by decide +kernel) (pa_cons (pv 8) (pa_cons (pe_op op_add (pv 10) pe_int) pa_nil))) pa_nil))) (blkOk_by (N := N_law) (sc := defScope s_law) (by decide +kernel)) (fun _ _ _ _ _ => (pg_name (i := 13) sc_law.nd rfl (.inl rfl))) (fun _ _ _ _ _ => (pts_one (pt_cmpR op_eq (pcal C_L_draw hr (by decide) (by rfl) (pa_cons (pv 1) (pa_cons pe_int pa_nil))) pe_int (nomark _)))) (fun _ _ _ _ _ => (pv 13)))
      (pss_cons (ps_set (i := 12) sc_law.nd rfl (.inl rfl) (pcal C_L_turned hr (by decide) (by rfl) (pa_cons (pv 3) (pa_cons (pe_op op_cat (pe_lst (pa_cons (pv 10) pa_nil)) (pe_ifExp (pt_cmpR op_gt (pv 9) pe_int (nomark _)) (pv 11) (pe_slice sl_list (pv 11) po_none (po_some (pv 9))))) pa_nil))))
      (pss_one (ps_if (pt_cmpR op_eq (pcal C_check_of hr (by decide) (by rfl) (pa_cons (pe_callTy call_tuple_of (by rfl) T.b_tuple (by decide +kernel) (pa_cons (pv 12) pa_nil)) pa_nil)) (pv 5) (nomark _)) (pss_one (ps_ret pe_bl)) pss_nil)))))))))))))))
      (pss_one (ps_ret pe_bl)))), ?_⟩
    walk_at "go"
    refine ⟨a, ns, rfl, hS, fun p c H0 hp hc S0 pen0 => ?_⟩
    walk_at "go"
    refine ⟨2, rfl, by decide, by decide, for_range (lo := 0) (n := 2) (fun t σ H1 => ∃ (v2 v3 v4 v5 v6 v7 v8 v9 v10 v11 v12 v13 : Option V), σ = [some (.ref a), some (.ref p), v2, v3, v4, v5, v6, v7, v8, v9, v10, v11, v12, v13] ∧ PenAt H1 p c (1000 * t)) ⟨_, _, _, _, _, _, _, _, _, _, _, _, rfl, pen0⟩ ?_ ?_⟩
    · rintro t σ H1 ht ⟨v2, v3, v4, v5, v6, v7, v8, v9, v10, v11, v12, v13, rfl, pen1⟩
      walk_at "go"
      -- _law_one
      refine ⟨p, c, 12, _, rfl, pen1, by omega, by decide, by decide, fun r1 H2 r10 r11 K2 P2 => ?_⟩
      walk_at "go"
      refine ⟨r1, rfl, by omega, by omega, fun D1 n_D1 => lc_pen (lo := 0) (n := r1.toNat) (d := 2) (fun y => ∃ b : Nat, b < 256 ∧ y = .int b) (by omega) n_D1 P2 (fun _ => rfl) (fun i H3 hi K3 P3 Qe hQe => ?_) (fun H3 one K3 P3 e_D1 hl1 hc1 => ?_)⟩
      · walk_at "go"
        refine ⟨p, c, 256, _, rfl, P3, by omega, by decide, by decide, fun r H4 r0 r1 K4 P4 => ?_⟩
        walk_at "go"
        refine ⟨by walk_at "sz", ?_⟩
        intro l n_l
        generalize eq_H5 : upd H4 l _ = H5
        have S_H5 : Same H4 H5 := by rw [← eq_H5]; exact Same.new n_l
        have e_l := congrFun eq_H5 l
        rw [upd_same] at e_l
        have e_l := e_l.symm
        clear eq_H5
        walk_at "go"
        have P5 := P4.keep S_H5
        refine ⟨p, c, _, 4, _, _, rfl, P5, by omega, fun z => P5.lst e_l (V.ref.inj z), Pk.lst (SqL.of e_l), by decide, by decide, fun i2 H6 hi2 K6 P6 => ?_⟩
        refine hQe _ _ ?_ ((K4.trans (Kp.of S_H5)).trans K6) (P6.mono (by omega))
        have : i2 = 0 ∨ i2 = 1 ∨ i2 = 2 ∨ i2 = 3 := by omega
        rcases this with z | z | z | z <;> subst z
        · exact ⟨0, by decide, rfl⟩
        · exact ⟨0, by decide, rfl⟩
        · exact ⟨255, by decide, rfl⟩
        · refine ⟨r.toNat, by omega, ?_⟩
          show V.int r = V.int (r.toNat : Int)
          rw [Int.toNat_of_nonneg r0]
      walk_at "go"
      obtain ⟨row1, rfl, hb1⟩ := bytes_of hc1
      -- _law_two
      refine ⟨p, c, 9, _, rfl, P3, by omega, by decide, by decide, fun r2 H4 r20 r21 K4 P4 => ?_⟩
      walk_at "go"
      refine ⟨r2, rfl, by omega, by omega, fun D2 n_D2 => lc_pen (lo := 0) (n := r2.toNat) (d := 2) (fun y => ∃ b : Nat, b < 256 ∧ y = .int b) (by omega) n_D2 P4 (fun _ => rfl) (fun i H5 hi K5 P5 Qe hQe => ?_) (fun H5 two K5 P5 e_D2 hl2 hc2 => ?_)⟩
      · walk_at "go"
        refine ⟨p, c, 256, _, rfl, P5, by omega, by decide, by decide, fun r H4 r0 r1 K4 P4 => hQe _ _ ⟨r.toNat, by omega, ?_⟩ K4 (P4.mono (by omega))⟩
        rw [Int.toNat_of_nonneg r0]
      obtain ⟨row2, rfl, hb2⟩ := bytes_of hc2
      have len1 : row1.length ≤ 12 := by unfold bytesV at hl1; rw [List.length_map] at hl1; omega
      have len2 : row2.length ≤ 9 := by unfold bytesV at hl2; rw [List.length_map] at hl2; omega
      have e1_5 : H5 D1 = some (.lst (bytesV row1)) := K5 _ _ (P3.lst e_D1) (K4 _ _ (P3.lst e_D1) e_D1)
      walk_at "go"
      -- the sums
      refine ⟨_, _, rfl, .inl ⟨SqL.of e1_5, ?_⟩⟩
      intro t1 n_t1
      generalize eq_H6 : upd H5 t1 _ = H6
      have S_H6 : Same H5 H6 := by rw [← eq_H6]; exact Same.new n_t1
      have e_t1 := congrFun eq_H6 t1
      rw [upd_same] at e_t1
      have e_t1 := e_t1.symm
      clear eq_H6
      walk_at "go"
      refine ⟨t1, row1, rfl, SqT.of e_t1, hb1, ?_⟩
      walk_at "go"
      refine ⟨_, _, rfl, .inl ⟨SqL.of (S_H6 _ _ e_D2), ?_⟩⟩
      intro t2 n_t2
      generalize eq_H7 : upd H6 t2 _ = H7
      have S_H7 : Same H6 H7 := by rw [← eq_H7]; exact Same.new n_t2
      have e_t2 := congrFun eq_H7 t2
      rw [upd_same] at e_t2
      have e_t2 := e_t2.symm
      clear eq_H7
      walk_at "go"
      refine ⟨t2, row2, rfl, SqT.of e_t2, hb2, ?_⟩
      walk_at "go"
      have S57 := S_H6.trans S_H7
      refine ⟨D1, row1, rfl, SqL.of (S57 _ _ e1_5), by omega, fun H8 S8 => ?_⟩
      walk_at "go"
      rw [decide_eq_true rfl]
      walk_at "go"
      refine ⟨D2, row2, rfl, SqL.of (S8 _ _ (S57 _ _ e_D2)), by omega, fun H9 S9 => ?_⟩
      walk_at "go"
      rw [decide_eq_true rfl]
      walk_at "go"
      -- the whole
      have S59 := S57.trans (S8.trans S9)
      refine ⟨_, _, _, _, rfl, rfl, S59 _ _ e1_5, S59 _ _ e_D2, by unfold bytesV; rw [List.length_map, List.length_map]; exact Nat.le_of_lt (small1000 (by omega)), ?_⟩
      intro w1 n_w1
      generalize eq_H10 : upd H9 w1 _ = H10
      have S_H10 : Same H9 H10 := by rw [← eq_H10]; exact Same.new n_w1
      have e_w1 := congrFun eq_H10 w1
      rw [upd_same] at e_w1
      have e_w1 := e_w1.symm
      clear eq_H10
      have e_w1 : H10 w1 = some (.lst (bytesV (row1 ++ row2))) := by rw [e_w1]; unfold bytesV; rw [List.map_append]
      walk_at "go"
      refine ⟨w1, row1 ++ row2, rfl, SqL.of e_w1, by rw [List.length_append]; omega, fun H11 S11 => ?_⟩
      walk_at "go"
      have S5_11 := S59.trans (S_H10.trans S11)
      refine ⟨_, _, rfl, .inl (SqL.of (S5_11 _ _ e_D2)), ?_⟩
      walk_at "go"
      refine ⟨chk row1, chk row2, row2.length, by unfold bytesV; rw [List.length_map]; rfl, by omega, ?_⟩
      walk_at "go"
      rw [← chk_join, decide_eq_true rfl]
      walk_at "go"
      refine ⟨_, _, _, _, rfl, rfl, S5_11 _ _ e1_5, S5_11 _ _ e_D2, by unfold bytesV; rw [List.length_map, List.length_map]; exact Nat.le_of_lt (small1000 (by omega)), ?_⟩
      intro w2 n_w2
      generalize eq_H12 : upd H11 w2 _ = H12
      have S_H12 : Same H11 H12 := by rw [← eq_H12]; exact Same.new n_w2
      have e_w2 := congrFun eq_H12 w2
      rw [upd_same] at e_w2
      have e_w2 := e_w2.symm
      clear eq_H12
      have e_w2 : H12 w2 = some (.lst (bytesV (row1 ++ row2))) := by rw [e_w2]; unfold bytesV; rw [List.map_append]
      walk_at "go"
      refine ⟨_, _, rfl, .inl ⟨SqL.of e_w2, ?_⟩⟩
      intro w3 n_w3
      generalize eq_H13 : upd H12 w3 _ = H13
      have S_H13 : Same H12 H13 := by rw [← eq_H13]; exact Same.new n_w3
      have e_w3 := congrFun eq_H13 w3
      rw [upd_same] at e_w3
      have e_w3 := e_w3.symm
      clear eq_H13
      walk_at "go"
      refine ⟨w3, row1 ++ row2, rfl, SqT.of e_w3, fun b hb => (List.mem_append.mp hb).elim (hb1 b) (hb2 b), ?_⟩
      walk_at "go"
      rw [decide_eq_true rfl]
      walk_at "go"
      have S5_13 := S5_11.trans (S_H12.trans S_H13)
      refine ⟨_, _, rfl, .inl (SqL.of (S5_13 _ _ e1_5)), ?_⟩
      walk_at "go"
      have hlen1 : (bytesV row1).length = row1.length := by unfold bytesV; rw [List.length_map]
      rw [hlen1]
      have P13 := (P5.keep S5_13).mono (show _ ≤ 1000 * t + 100 by omega)
      have e_1 := S5_13 _ _ e1_5
      refine ⟨_, rfl, by split <;> decide, by split <;> decide, for_range (lo := 0) (n := (6 * (if decide ((0 : Int) < 8 * (row1.length : Int)) = true then 1 else 0) : Int).toNat) (fun i σ H14 => ∃ (v9 v10 v11 v12 v13 : Option V), σ = [some (.ref a), some (.ref p), some (.int (0 + (t : Int))), some (.ref D1), some (.ref D2), some (.int (chk row1).toNat), some (.int (chk row2).toNat), some (.int (chk (row1 ++ row2)).toNat), some (.int (8 * (row1.length : Int))), v9, v10, v11, v12, v13] ∧ PenAt H14 p c (1000 * t + 100 + 40 * i) ∧ H14 D1 = some (.lst (bytesV row1))) ⟨_, _, _, _, _, rfl, P13, e_1⟩ ?_ ?_⟩
      · rintro i σ H14 hi ⟨v9, v10, v11, v12, v13, rfl, P14, e1⟩
        have hpos : 0 < row1.length := by
          rcases Nat.eq_zero_or_pos row1.length with z | z
          · rw [z] at hi
            exact absurd (show i < 0 from hi) (Nat.not_lt_zero i)
          · exact z
        have hi6 : i < 6 := by
          have h1 : (0 : Int) < 8 * (row1.length : Int) := by omega
          rw [decide_eq_true h1] at hi
          exact hi
        walk_at "go"
        refine ⟨p, c, 8 * (row1.length : Int), _, rfl, P14, by omega, by omega, by omega, fun first H15 f0 f1 K15 P15 => ?_⟩
        walk_at "go"
        have e15 := K15 _ _ (P14.lst e1) e1
        generalize hm : (if first + 32 < 8 * (row1.length : Int) then first + 32 else 8 * (row1.length : Int)) = lim
        have hlim : lim ≤ first + 32 ∧ lim ≤ 8 * (row1.length : Int) ∧ first < lim := by rw [← hm]; split <;> omega
        have hcnt : (lim - (first + 1)).toNat ≤ 31 := by omega
        refine ⟨_, _, rfl, ?_⟩
        walk_at "go"
        rw [hm]
        refine ⟨_, _, rfl, ⟨by omega, by omega, by omega, by omega⟩, fun D3 n_D3 => lc_penT (lo := first + 1) (n := (lim - (first + 1)).toNat) (d := 1) (fun y => ∃ x : Nat, first < (x : Int) ∧ (x : Int) < lim ∧ y = .int x) (by omega) n_D3 P15 (fun _ => rfl) (fun i2 H16 hi2 K16 P16 Qt hQt => ?_) (fun i2 H16 hi2 K16 P16 Qe hQe => ?_) (fun H16 more K16 P16 e_D3 hl3 hc3 => ?_)⟩
        · walk_at "go"
          refine ⟨p, c, 3, _, rfl, P16, by omega, by decide, by decide, fun r H17 r0 r1 K17 P17 => ?_⟩
          walk_at "go"
          exact hQt _ _ K17 P17
        · walk_at "go"
          exact hQe _ _ ⟨(first + 1 + (i2 : Int)).toNat, by omega, by omega, congrArg V.int (by omega)⟩ (Kp.refl _) P16
        obtain ⟨ms, rfl, hms⟩ := nats_of hc3
        have lenm : ms.length ≤ 31 := by unfold natsV at hl3; rw [List.length_map] at hl3; omega
        walk_at "go"
        refine ⟨by walk_at "sz", ?_⟩
        intro l1 n_l1
        generalize eq_H17 : upd H16 l1 _ = H17
        have S_H17 : Same H16 H17 := by rw [← eq_H17]; exact Same.new n_l1
        have e_l1 := congrFun eq_H17 l1
        rw [upd_same] at e_l1
        have e_l1 := e_l1.symm
        clear eq_H17
        walk_at "go"
        obtain ⟨fn, rfl⟩ : ∃ fn : Nat, first = (fn : Int) := ⟨first.toNat, (Int.toNat_of_nonneg f0).symm⟩
        have e1_17 : H17 D1 = some (.lst (bytesV row1)) := S_H17 _ _ (K16 _ _ (P15.lst e15) e15)
        have P17 := P16.keep S_H17
        refine g_join (fun v H' => ∃ (q : Addr) (qs : List Nat), v = .ref q ∧ Same H17 H' ∧ H' q = some (.lst (natsV qs)) ∧ (∀ x ∈ qs, x ∈ ms) ∧ qs.length ≤ 31) (fun _ Q' hQ' => ?_) (fun _ Q' hQ' => ?_) (fun v H18 ⟨q, qs, ev, S18, eq, hqs, hql⟩ => ?_)
        · walk_at "go"
          exact hQ' _ _ ⟨D3, ms, rfl, Same.refl _, S_H17 _ _ e_D3, fun _ h => h, lenm⟩
        · walk_at "go"
          refine ⟨_, rfl, ?_⟩
          walk_at "go"
          refine ⟨D3, _, rfl, SqL.of (S_H17 _ _ e_D3), ?_⟩
          intro q n_q
          generalize eq_H18 : upd H17 q _ = H18
          have S_H18 : Same H17 H18 := by rw [← eq_H18]; exact Same.new n_q
          have e_q := congrFun eq_H18 q
          rw [upd_same] at e_q
          have e_q := e_q.symm
          clear eq_H18
          refine hQ' _ _ ⟨q, ms.take (0 + i), rfl, S_H18, ?_, fun x hx => List.mem_of_mem_take hx, by rw [List.length_take]; omega⟩
          rw [e_q]
          unfold cutV
          rw [HT.sIx_none]
          unfold natsV
          rw [show (0 : Int) + (i : Int) = ((0 + i : Nat) : Int) by omega, HT.sIx_nat, List.drop_zero, Nat.sub_zero, ← List.map_take, List.length_map]
          rw [List.take_eq_take_min (l := ms) (i := 0 + i)]
        subst ev
        refine ⟨_, _, _, _, rfl, rfl, S18 _ _ e_l1, eq, by unfold natsV; rw [List.length_map]; exact Nat.le_of_lt (small1000 (show 1 + _ ≤ 1000 by omega)), ?_⟩
        intro q2 n_q2
        generalize eq_H19 : upd H18 q2 _ = H19
        have S_H19 : Same H18 H19 := by rw [← eq_H19]; exact Same.new n_q2
        have e_q2 := congrFun eq_H19 q2
        rw [upd_same] at e_q2
        have e_q2 := e_q2.symm
        clear eq_H19
        have e_q2 : H19 q2 = some (.lst (natsV (fn :: qs))) := e_q2
        walk_at "go"
        have e1_19 := S_H19 _ _ (S18 _ _ e1_17)
        have hmq : ∀ x ∈ qs, fn < x ∧ x < fn + 32 ∧ x < 8 * row1.length := fun x hx => by
          have := hms x (hqs x hx)
          omega
        have hfn : fn < 8 * row1.length := by omega
        refine ⟨D1, q2, row1, fn :: qs, rfl, SqL.of e1_19, SqL.of e_q2, hb1, fun x hx => ?_, fun r H20 n_r S20 e_r => ?_⟩
        · rcases List.mem_cons.mp hx with z | z
          · rw [z]; exact hfn
          · exact (hmq x z).2.2
        walk_at "go"
        refine ⟨_, _, rfl, .inl ⟨SqL.of e_r, ?_⟩⟩
        intro t3 n_t3
        generalize eq_H21 : upd H20 t3 _ = H21
        have S_H21 : Same H20 H21 := by rw [← eq_H21]; exact Same.new n_t3
        have e_t3 := congrFun eq_H21 t3
        rw [upd_same] at e_t3
        have e_t3 := e_t3.symm
        clear eq_H21
        walk_at "go"
        obtain ⟨_, _, hb3⟩ := turns_pv (fn :: qs) row1 hb1 (fun x hx => by
          rcases List.mem_cons.mp hx with z | z
          · rw [z]; exact hfn
          · exact (hmq x z).2.2)
        refine ⟨t3, _, rfl, SqT.of e_t3, hb3, ?_⟩
        walk_at "go"
        have hne : ¬ V.int ((chk ((fn :: qs).foldl turn row1)).toNat : Int) = V.int ((chk row1).toNat : Int) := fun z => by
          have z2 := V.int.inj z
          exact chk_turned hb1 hfn hmq (BitVec.eq_of_toNat_eq (by omega))
        rw [decide_eq_false hne]
        walk_at "go"
        refine ⟨_, _, _, _, _, rfl, ((P17.keep S18).keep (S_H19.trans (S20.trans S_H21))).mono (by omega), S_H21 _ _ (S20 _ _ e1_19)⟩
      · rintro σ H14 ⟨v9, v10, v11, v12, v13, rfl, P14, e1⟩
        refine ⟨_, _, _, _, _, _, _, _, _, _, _, _, rfl, P14.mono ?_⟩
        have : (6 * (if decide ((0 : Int) < 8 * (row1.length : Int)) = true then 1 else 0) : Int).toNat ≤ 6 := by split <;> decide
        omega
    · rintro σ H1 ⟨v2, v3, v4, v5, v6, v7, v8, v9, v10, v11, v12, v13, rfl, pen1⟩
      walk_at "go"
      exact k _
end
end My

namespace My
open PySem L2 Pre
theorem all_mk {l : PySem.W.OpenLaw} {w : World} {K : PySem.W.Frag} {h : Heap} {mg : Str → Option Value} {fa : Addr} (X : K.In h) (G : h.Ns mainGlobals mg) (hfa : mg "law" = some (.ref fa))
    {f_doubled : Addr} {od_doubled an_doubled : Option Addr} {sl_doubled : Array (Option Value)} {oc_doubled kV_doubled dc_doubled pm_doubled cd_doubled ct_doubled : Value}
    {f_product : Addr} {od_product an_product : Option Addr} {sl_product : Array (Option Value)} {oc_product kV_product dc_product pm_product cd_product ct_product : Value}
    {f_times_power : Addr} {od_times_power an_times_power : Option Addr} {sl_times_power : Array (Option Value)} {oc_times_power kV_times_power dc_times_power pm_times_power cd_times_power ct_times_power : Value}
    {f_check_of : Addr} {od_check_of an_check_of : Option Addr} {sl_check_of : Array (Option Value)} {oc_check_of kV_check_of dc_check_of pm_check_of cd_check_of ct_check_of : Value}
    {f_joined_check : Addr} {od_joined_check an_joined_check : Option Addr} {sl_joined_check : Array (Option Value)} {oc_joined_check kV_joined_check dc_joined_check pm_joined_check cd_joined_check ct_joined_check : Value}
    {f_L_pen : Addr} {od_L_pen an_L_pen : Option Addr} {sl_L_pen : Array (Option Value)} {oc_L_pen kV_L_pen dc_L_pen pm_L_pen cd_L_pen ct_L_pen : Value}
    {f_L_draw : Addr} {od_L_draw an_L_draw : Option Addr} {sl_L_draw : Array (Option Value)} {oc_L_draw kV_L_draw dc_L_draw pm_L_draw cd_L_draw ct_L_draw : Value}
    {f_L_pick : Addr} {od_L_pick an_L_pick : Option Addr} {sl_L_pick : Array (Option Value)} {oc_L_pick kV_L_pick dc_L_pick pm_L_pick cd_L_pick ct_L_pick : Value}
    {f_L_bits : Addr} {od_L_bits an_L_bits : Option Addr} {sl_L_bits : Array (Option Value)} {oc_L_bits kV_L_bits dc_L_bits pm_L_bits cd_L_bits ct_L_bits : Value}
    {f_L_check : Addr} {od_L_check an_L_check : Option Addr} {sl_L_check : Array (Option Value)} {oc_L_check kV_L_check dc_L_check pm_L_check cd_L_check ct_L_check : Value}
    {f_L_turned : Addr} {od_L_turned an_L_turned : Option Addr} {sl_L_turned : Array (Option Value)} {oc_L_turned kV_L_turned dc_L_turned pm_L_turned cd_L_turned ct_L_turned : Value}
    {f_law : Addr} {od_law an_law : Option Addr} {sl_law : Array (Option Value)} {oc_law kV_law dc_law pm_law cd_law ct_law : Value}
    {tk_HIGH : Tok}
    {tk_TAIL : Tok}
    {tk_WIDTH : Tok}
    (a_doubled : PySem.W.nsIn K mainGlobals "doubled" = some (some (.ref f_doubled)))
    (l_doubled : K.lookup f_doubled = some ⟨oc_doubled, od_doubled, .func (PySem.W.fnOf "doubled" "doubled" (defArgs s_doubled) (defBody s_doubled) (defScope s_doubled) .none kV_doubled dc_doubled pm_doubled an_doubled cd_doubled ct_doubled), sl_doubled⟩)
    (c_doubled : PySem.W.codeIn K cd_doubled "doubled" = true)
    (k_doubled : PySem.W.keepIn K (.ref f_doubled) = true)
    (a_product : PySem.W.nsIn K mainGlobals "product" = some (some (.ref f_product)))
    (l_product : K.lookup f_product = some ⟨oc_product, od_product, .func (PySem.W.fnOf "product" "product" (defArgs s_product) (defBody s_product) (defScope s_product) .none kV_product dc_product pm_product an_product cd_product ct_product), sl_product⟩)
    (c_product : PySem.W.codeIn K cd_product "product" = true)
    (k_product : PySem.W.keepIn K (.ref f_product) = true)
    (a_times_power : PySem.W.nsIn K mainGlobals "times_power" = some (some (.ref f_times_power)))
    (l_times_power : K.lookup f_times_power = some ⟨oc_times_power, od_times_power, .func (PySem.W.fnOf "times_power" "times_power" (defArgs s_times_power) (defBody s_times_power) (defScope s_times_power) .none kV_times_power dc_times_power pm_times_power an_times_power cd_times_power ct_times_power), sl_times_power⟩)
    (c_times_power : PySem.W.codeIn K cd_times_power "times_power" = true)
    (k_times_power : PySem.W.keepIn K (.ref f_times_power) = true)
    (a_check_of : PySem.W.nsIn K mainGlobals "check_of" = some (some (.ref f_check_of)))
    (l_check_of : K.lookup f_check_of = some ⟨oc_check_of, od_check_of, .func (PySem.W.fnOf "check_of" "check_of" (defArgs s_check_of) (defBody s_check_of) (defScope s_check_of) .none kV_check_of dc_check_of pm_check_of an_check_of cd_check_of ct_check_of), sl_check_of⟩)
    (c_check_of : PySem.W.codeIn K cd_check_of "check_of" = true)
    (k_check_of : PySem.W.keepIn K (.ref f_check_of) = true)
    (a_joined_check : PySem.W.nsIn K mainGlobals "joined_check" = some (some (.ref f_joined_check)))
    (l_joined_check : K.lookup f_joined_check = some ⟨oc_joined_check, od_joined_check, .func (PySem.W.fnOf "joined_check" "joined_check" (defArgs s_joined_check) (defBody s_joined_check) (defScope s_joined_check) .none kV_joined_check dc_joined_check pm_joined_check an_joined_check cd_joined_check ct_joined_check), sl_joined_check⟩)
    (c_joined_check : PySem.W.codeIn K cd_joined_check "joined_check" = true)
    (k_joined_check : PySem.W.keepIn K (.ref f_joined_check) = true)
    (a_L_pen : PySem.W.nsIn K mainGlobals "_law_pen" = some (some (.ref f_L_pen)))
    (l_L_pen : K.lookup f_L_pen = some ⟨oc_L_pen, od_L_pen, .func (PySem.W.fnOf "_law_pen" "_law_pen" (defArgs s_L_pen) (defBody s_L_pen) (defScope s_L_pen) .none kV_L_pen dc_L_pen pm_L_pen an_L_pen cd_L_pen ct_L_pen), sl_L_pen⟩)
    (c_L_pen : PySem.W.codeIn K cd_L_pen "_law_pen" = true)
    (k_L_pen : PySem.W.keepIn K (.ref f_L_pen) = true)
    (a_L_draw : PySem.W.nsIn K mainGlobals "_law_draw" = some (some (.ref f_L_draw)))
    (l_L_draw : K.lookup f_L_draw = some ⟨oc_L_draw, od_L_draw, .func (PySem.W.fnOf "_law_draw" "_law_draw" (defArgs s_L_draw) (defBody s_L_draw) (defScope s_L_draw) .none kV_L_draw dc_L_draw pm_L_draw an_L_draw cd_L_draw ct_L_draw), sl_L_draw⟩)
    (c_L_draw : PySem.W.codeIn K cd_L_draw "_law_draw" = true)
    (k_L_draw : PySem.W.keepIn K (.ref f_L_draw) = true)
    (a_L_pick : PySem.W.nsIn K mainGlobals "_law_pick" = some (some (.ref f_L_pick)))
    (l_L_pick : K.lookup f_L_pick = some ⟨oc_L_pick, od_L_pick, .func (PySem.W.fnOf "_law_pick" "_law_pick" (defArgs s_L_pick) (defBody s_L_pick) (defScope s_L_pick) .none kV_L_pick dc_L_pick pm_L_pick an_L_pick cd_L_pick ct_L_pick), sl_L_pick⟩)
    (c_L_pick : PySem.W.codeIn K cd_L_pick "_law_pick" = true)
    (k_L_pick : PySem.W.keepIn K (.ref f_L_pick) = true)
    (a_L_bits : PySem.W.nsIn K mainGlobals "_law_bits" = some (some (.ref f_L_bits)))
    (l_L_bits : K.lookup f_L_bits = some ⟨oc_L_bits, od_L_bits, .func (PySem.W.fnOf "_law_bits" "_law_bits" (defArgs s_L_bits) (defBody s_L_bits) (defScope s_L_bits) .none kV_L_bits dc_L_bits pm_L_bits an_L_bits cd_L_bits ct_L_bits), sl_L_bits⟩)
    (c_L_bits : PySem.W.codeIn K cd_L_bits "_law_bits" = true)
    (k_L_bits : PySem.W.keepIn K (.ref f_L_bits) = true)
    (a_L_check : PySem.W.nsIn K mainGlobals "_law_check" = some (some (.ref f_L_check)))
    (l_L_check : K.lookup f_L_check = some ⟨oc_L_check, od_L_check, .func (PySem.W.fnOf "_law_check" "_law_check" (defArgs s_L_check) (defBody s_L_check) (defScope s_L_check) .none kV_L_check dc_L_check pm_L_check an_L_check cd_L_check ct_L_check), sl_L_check⟩)
    (c_L_check : PySem.W.codeIn K cd_L_check "_law_check" = true)
    (k_L_check : PySem.W.keepIn K (.ref f_L_check) = true)
    (a_L_turned : PySem.W.nsIn K mainGlobals "_law_turned" = some (some (.ref f_L_turned)))
    (l_L_turned : K.lookup f_L_turned = some ⟨oc_L_turned, od_L_turned, .func (PySem.W.fnOf "_law_turned" "_law_turned" (defArgs s_L_turned) (defBody s_L_turned) (defScope s_L_turned) .none kV_L_turned dc_L_turned pm_L_turned an_L_turned cd_L_turned ct_L_turned), sl_L_turned⟩)
    (c_L_turned : PySem.W.codeIn K cd_L_turned "_law_turned" = true)
    (k_L_turned : PySem.W.keepIn K (.ref f_L_turned) = true)
    (a_law : PySem.W.nsIn K mainGlobals "law" = some (some (.ref f_law)))
    (l_law : K.lookup f_law = some ⟨oc_law, od_law, .func (PySem.W.fnOf "law" "law" (defArgs s_law) (defBody s_law) (defScope s_law) .none kV_law dc_law pm_law an_law cd_law ct_law), sl_law⟩)
    (c_law : PySem.W.codeIn K cd_law "law" = true)
    (k_law : PySem.W.keepIn K (.ref f_law) = true)
    (z_int : PySem.W.nsIn K mainGlobals "int" = some none)
    (z_len : PySem.W.nsIn K mainGlobals "len" = some none)
    (z_list : PySem.W.nsIn K mainGlobals "list" = some none)
    (z_min : PySem.W.nsIn K mainGlobals "min" = some none)
    (z_range : PySem.W.nsIn K mainGlobals "range" = some none)
    (z_tuple : PySem.W.nsIn K mainGlobals "tuple" = some none)
    (q_HIGH : PySem.W.nsIn K mainGlobals "HIGH" = some (some (.int (4294967296) tk_HIGH)))
    (q_TAIL : PySem.W.nsIn K mainGlobals "TAIL" = some (some (.int (141) tk_TAIL)))
    (q_WIDTH : PySem.W.nsIn K mainGlobals "WIDTH" = some (some (.int (32) tk_WIDTH)))
    : ∃ fd : FuncData, (∀ (s : Shared) (v : Value), BindsTo s fd ⟨[v], []⟩ [("_law_script", v)]) ∧ ∀ base : Heap, K.In base → base.Ns mainGlobals mg → FnOk l.prog w K mg base CX0 5 fa fd ["_law_script"] (spLaw K) := by
  have e := hfa.symm.trans (PySem.W.mg_of X G a_law)
  cases e
  have F_doubled := fun_mk (st := s_doubled) l_doubled c_doubled k_doubled
  have b_doubled := F_doubled.binds (ps := ["left"]) fun _ _ _ _ _ _ us hl => match us, hl with | [_], _ => rfl
  have F_product := fun_mk (st := s_product) l_product c_product k_product
  have b_product := F_product.binds (ps := ["one", "two"]) fun _ _ _ _ _ _ us hl => match us, hl with | [_, _], _ => rfl
  have F_times_power := fun_mk (st := s_times_power) l_times_power c_times_power k_times_power
  have b_times_power := F_times_power.binds (ps := ["left", "many"]) fun _ _ _ _ _ _ us hl => match us, hl with | [_, _], _ => rfl
  have F_check_of := fun_mk (st := s_check_of) l_check_of c_check_of k_check_of
  have b_check_of := F_check_of.binds (ps := ["row"]) fun _ _ _ _ _ _ us hl => match us, hl with | [_], _ => rfl
  have F_joined_check := fun_mk (st := s_joined_check) l_joined_check c_joined_check k_joined_check
  have b_joined_check := F_joined_check.binds (ps := ["one", "two", "many"]) fun _ _ _ _ _ _ us hl => match us, hl with | [_, _, _], _ => rfl
  have F_L_pen := fun_mk (st := s_L_pen) l_L_pen c_L_pen k_L_pen
  have b_L_pen := F_L_pen.binds (ps := ["_law_script"]) fun _ _ _ _ _ _ us hl => match us, hl with | [_], _ => rfl
  have F_L_draw := fun_mk (st := s_L_draw) l_L_draw c_L_draw k_L_draw
  have b_L_draw := F_L_draw.binds (ps := ["_law_pen_here", "_law_many"]) fun _ _ _ _ _ _ us hl => match us, hl with | [_, _], _ => rfl
  have F_L_pick := fun_mk (st := s_L_pick) l_L_pick c_L_pick k_L_pick
  have b_L_pick := F_L_pick.binds (ps := ["_law_pen_here", "_law_some"]) fun _ _ _ _ _ _ us hl => match us, hl with | [_, _], _ => rfl
  have F_L_bits := fun_mk (st := s_L_bits) l_L_bits c_L_bits k_L_bits
  have b_L_bits := F_L_bits.binds (ps := ["_law_row"]) fun _ _ _ _ _ _ us hl => match us, hl with | [_], _ => rfl
  have F_L_check := fun_mk (st := s_L_check) l_L_check c_L_check k_L_check
  have b_L_check := F_L_check.binds (ps := ["_law_row"]) fun _ _ _ _ _ _ us hl => match us, hl with | [_], _ => rfl
  have F_L_turned := fun_mk (st := s_L_turned) l_L_turned c_L_turned k_L_turned
  have b_L_turned := F_L_turned.binds (ps := ["_law_row", "_law_places"]) fun _ _ _ _ _ _ us hl => match us, hl with | [_, _], _ => rfl
  have F_law := fun_mk (st := s_law) l_law c_law k_law
  have b_law := F_law.binds (ps := ["_law_script"]) fun _ _ _ _ _ _ us hl => match us, hl with | [_], _ => rfl
  have T : Txt mg := ⟨⟨_, PySem.W.mg_of X G q_HIGH, ⟨_, rfl⟩⟩, ⟨_, PySem.W.mg_of X G q_TAIL, ⟨_, rfl⟩⟩, ⟨_, PySem.W.mg_of X G q_WIDTH, ⟨_, rfl⟩⟩, PySem.W.mg_none_of X G z_int, PySem.W.mg_none_of X G z_len, PySem.W.mg_none_of X G z_list, PySem.W.mg_none_of X G z_min, PySem.W.mg_none_of X G z_range, PySem.W.mg_none_of X G z_tuple⟩
  refine ⟨PySem.W.fnOf "law" "law" (defArgs s_law) (defBody s_law) (defScope s_law) .none kV_law dc_law pm_law an_law cd_law ct_law, fun s v => .of_eq rfl, fun base _ _ => ?_⟩
  have C_doubled := cal_of F_doubled (ok_doubled (P := l.prog) (w := w) (base := base) F_doubled T ) (PySem.W.mg_of X G a_doubled) b_doubled
  have C_product := cal_of F_product (ok_product (P := l.prog) (w := w) (base := base) F_product T (C_doubled := C_doubled)) (PySem.W.mg_of X G a_product) b_product
  have C_times_power := cal_of F_times_power (ok_times_power (P := l.prog) (w := w) (base := base) F_times_power T (C_product := C_product)) (PySem.W.mg_of X G a_times_power) b_times_power
  have C_check_of := cal_of F_check_of (ok_check_of (P := l.prog) (w := w) (base := base) F_check_of T (C_doubled := C_doubled)) (PySem.W.mg_of X G a_check_of) b_check_of
  have C_joined_check := cal_of F_joined_check (ok_joined_check (P := l.prog) (w := w) (base := base) F_joined_check T (C_times_power := C_times_power)) (PySem.W.mg_of X G a_joined_check) b_joined_check
  have C_L_pen := cal_of F_L_pen (ok_L_pen (P := l.prog) (w := w) (base := base) F_L_pen T ) (PySem.W.mg_of X G a_L_pen) b_L_pen
  have C_L_draw := cal_of F_L_draw (ok_L_draw (P := l.prog) (w := w) (base := base) F_L_draw T ) (PySem.W.mg_of X G a_L_draw) b_L_draw
  have C_L_pick := cal_of F_L_pick (ok_L_pick (P := l.prog) (w := w) (base := base) F_L_pick T (C_L_draw := C_L_draw)) (PySem.W.mg_of X G a_L_pick) b_L_pick
  have C_L_bits := cal_of F_L_bits (ok_L_bits (P := l.prog) (w := w) (base := base) F_L_bits T ) (PySem.W.mg_of X G a_L_bits) b_L_bits
  have C_L_check := cal_of F_L_check (ok_L_check (P := l.prog) (w := w) (base := base) F_L_check T (C_L_bits := C_L_bits)) (PySem.W.mg_of X G a_L_check) b_L_check
  have C_L_turned := cal_of F_L_turned (ok_L_turned (P := l.prog) (w := w) (base := base) F_L_turned T ) (PySem.W.mg_of X G a_L_turned) b_L_turned
  exact ok_law (P := l.prog) (w := w) (base := base) F_law T (C_L_pen := C_L_pen) (C_L_draw := C_L_draw) (C_check_of := C_check_of) (C_L_check := C_L_check) (C_joined_check := C_joined_check) (C_L_turned := C_L_turned) (C_L_pick := C_L_pick)
end My
open PySem PySem.W PyProof.Rows
set_option maxRecDepth 100000 in
set_option maxHeartbeats 0 in
theorem PySem.Challenge.cw_wordquarry_k03_check_sums_holds : PySem.Challenge.rw_wordquarry_k03_check_sums.Holds := by
  w_on; o_law; k_head; (case hw => w_witness2)
  k_fill
  refine L2.walk_of (l := PySem.Challenge.rw_wordquarry_k03_check_sums) (n := 63) (k := 5) (x := "_law_script") (CX := fun _ => L2.CX0) (sp := fun w => My.spLaw _) rfl (by decide) rfl ⟨rfl, by decide, by decide⟩ (fun w h Y => PySem.W.kIn_of Y) ?F (fun _ _ a ns hl _ hS => ⟨a, ns, rfl, hS, hl, fun _ => rfl⟩) (fun _ _ _ _ _ h => h)
  case F =>
    intro w mg fa h KX G hmg
    refine' My.all_mk KX G hmg ?a_doubled ?l_doubled ?c_doubled ?k_doubled ?a_product ?l_product ?c_product ?k_product ?a_times_power ?l_times_power ?c_times_power ?k_times_power ?a_check_of ?l_check_of ?c_check_of ?k_check_of ?a_joined_check ?l_joined_check ?c_joined_check ?k_joined_check ?a_L_pen ?l_L_pen ?c_L_pen ?k_L_pen ?a_L_draw ?l_L_draw ?c_L_draw ?k_L_draw ?a_L_pick ?l_L_pick ?c_L_pick ?k_L_pick ?a_L_bits ?l_L_bits ?c_L_bits ?k_L_bits ?a_L_check ?l_L_check ?c_L_check ?k_L_check ?a_L_turned ?l_L_turned ?c_L_turned ?k_L_turned ?a_law ?l_law ?c_law ?k_law ?z_int ?z_len ?z_list ?z_min ?z_range ?z_tuple ?q_HIGH ?q_TAIL ?q_WIDTH
    (case a_doubled => k_is); (case l_doubled => k_is); (case c_doubled => k_is); (case k_doubled => k_is); (case a_product => k_is); (case l_product => k_is)
    (case c_product => k_is); (case k_product => k_is); (case a_times_power => k_is); (case l_times_power => k_is); (case c_times_power => k_is); (case k_times_power => k_is)
    (case a_check_of => k_is); (case l_check_of => k_is); (case c_check_of => k_is); (case k_check_of => k_is); (case a_joined_check => k_is); (case l_joined_check => k_is)
    (case c_joined_check => k_is); (case k_joined_check => k_is); (case a_L_pen => k_is); (case l_L_pen => k_is); (case c_L_pen => k_is); (case k_L_pen => k_is)
    (case a_L_draw => k_is); (case l_L_draw => k_is); (case c_L_draw => k_is); (case k_L_draw => k_is); (case a_L_pick => k_is); (case l_L_pick => k_is)
    (case c_L_pick => k_is); (case k_L_pick => k_is); (case a_L_bits => k_is); (case l_L_bits => k_is); (case c_L_bits => k_is); (case k_L_bits => k_is)
    (case a_L_check => k_is); (case l_L_check => k_is); (case c_L_check => k_is); (case k_L_check => k_is); (case a_L_turned => k_is); (case l_L_turned => k_is)
    (case c_L_turned => k_is); (case k_L_turned => k_is); (case a_law => k_is); (case l_law => k_is); (case c_law => k_is); (case k_law => k_is)
    (case z_int => k_is); (case z_len => k_is); (case z_list => k_is); (case z_min => k_is); (case z_range => k_is); (case z_tuple => k_is)
    (case q_HIGH => k_is); (case q_TAIL => k_is); (case q_WIDTH => k_is)
