import Derived.Test.YtpcnnjnddnaogaaGreatDoorEd
import Derived.KernelRfl
set_option linter.unusedVariables false
set_option linter.unusedSimpArgs false
set_option linter.unusedSectionVars false
set_option linter.unnecessarySimpa false
set_option exponentiation.threshold 1000
namespace Go.Db
open Go Go.Sx
def dbl (x : Nat) : Nat := Nat.lor (Nat.shiftLeft x 32) x
def ro3 (x a b c : Nat) : Nat := Nat.mod (Nat.xor (Nat.xor (Nat.shiftRight (dbl x) a) (Nat.shiftRight (dbl x) b)) (Nat.shiftRight (dbl x) c)) 4294967296
def rs3 (x a b c : Nat) : Nat := Nat.mod (Nat.xor (Nat.xor (Nat.shiftRight (dbl x) a) (Nat.shiftRight (dbl x) b)) (Nat.shiftRight x c)) 4294967296
def tN (e f g h k w : Nat) : Nat := Nat.add (Nat.add (Nat.add (Nat.add h (ro3 e 6 11 25)) (Nat.xor (Nat.land e f) (Nat.land (Nat.sub 4294967295 e) g))) k) w
def uN (a b c : Nat) : Nat := Nat.add (ro3 a 2 13 22) (Nat.xor (Nat.xor (Nat.land a b) (Nat.land a c)) (Nat.land b c))
def nextN (W : Nat) : Nat := Nat.add (Nat.shiftLeft (Nat.mod W (Nat.pow 2 480)) 32)
  (Nat.mod (Nat.add (Nat.add (Nat.add (Nat.shiftRight W 480) (Nat.mod (Nat.shiftRight W 192) 4294967296)) (rs3 (Nat.mod (Nat.shiftRight W 448) 4294967296) 7 18 3)) (rs3 (Nat.mod (Nat.shiftRight W 32) 4294967296) 17 19 10)) 4294967296)
noncomputable def loopN (ks : List Nat) : Nat → Nat → Nat → Nat → Nat → Nat → Nat → Nat → Nat → List Nat :=
  List.rec (motive := fun _ => Nat → Nat → Nat → Nat → Nat → Nat → Nat → Nat → Nat → List Nat) (fun a b c d e f g h _ => [a, b, c, d, e, f, g, h])
    (fun k _ ih a b c d e f g h W => ih (Nat.mod (Nat.add (tN e f g h k (Nat.shiftRight W 480)) (uN a b c)) 4294967296) a b c (Nat.mod (Nat.add d (tN e f g h k (Nat.shiftRight W 480))) 4294967296) e f g (nextN W)) ks
theorem toNat32_lt (x : UInt32) : x.toNat < 2 ^ 32 := UInt32.toNat_lt x
theorem rotr_nat (x s : UInt32) (k : Nat) (hs : s.toNat = k) (h0 : 0 < k) (h : k < 32) : (rotr x s).toNat = (dbl x.toNat >>> k) % 2 ^ 32 := by
  have hx := toNat32_lt x
  have h32 : (32 - s).toNat = 32 - k := by
    rw [UInt32.toNat_sub_of_le _ _ (by rw [UInt32.le_iff_toNat_le, hs]; exact Nat.le_of_lt h), hs]; rfl
  apply Nat.eq_of_testBit_eq
  intro i
  unfold rotr
  rw [UInt32.toNat_or, UInt32.toNat_shiftLeft, UInt32.toNat_shiftRight, h32, hs, Nat.mod_eq_of_lt (show k < 32 from h), Nat.mod_eq_of_lt (show 32 - k < 32 by omega)]
  have hd : dbl x.toNat = x.toNat <<< 32 ||| x.toNat := rfl
  rw [hd, Nat.testBit_or, Nat.testBit_mod_two_pow, Nat.testBit_mod_two_pow, Nat.testBit_shiftRight, Nat.testBit_shiftRight, Nat.testBit_shiftLeft, Nat.testBit_or, Nat.testBit_shiftLeft]
  by_cases hi : i < 32
  · by_cases hk : 32 ≤ k + i
    · have e1 : x.toNat.testBit (k + i) = false := Nat.testBit_lt_two_pow (Nat.lt_of_lt_of_le hx (Nat.pow_le_pow_right (by decide) hk))
      have e2 : i - (32 - k) = k + i - 32 := by omega
      simp [hi, hk, e1, e2]; omega
    · have : ¬ 32 - k ≤ i := by omega
      simp [hi, hk, this]
  · have e1 : x.toNat.testBit (k + i) = false := Nat.testBit_lt_two_pow (Nat.lt_of_lt_of_le hx (Nat.pow_le_pow_right (by decide) (by omega)))
    simp [hi, e1]
theorem xor3_mod (a b c : Nat) : (a % 2 ^ 32 ^^^ b % 2 ^ 32 ^^^ c % 2 ^ 32) = (a ^^^ b ^^^ c) % 2 ^ 32 := by
  rw [Nat.xor_mod_two_pow, Nat.xor_mod_two_pow]
theorem ro3_eq (x s t u : UInt32) (a b c : Nat) (ha : s.toNat = a) (hb : t.toNat = b) (hc : u.toNat = c) (h : (0 < a ∧ a < 32) ∧ (0 < b ∧ b < 32) ∧ 0 < c ∧ c < 32) :
    (rotr x s ^^^ rotr x t ^^^ rotr x u).toNat = ro3 x.toNat a b c := by
  rw [UInt32.toNat_xor, UInt32.toNat_xor, rotr_nat x s a ha h.1.1 h.1.2, rotr_nat x t b hb h.2.1.1 h.2.1.2, rotr_nat x u c hc h.2.2.1 h.2.2.2, xor3_mod]; rfl
theorem rs3_eq (x s t u : UInt32) (a b c : Nat) (ha : s.toNat = a) (hb : t.toNat = b) (hc : u.toNat = c) (h : (0 < a ∧ a < 32) ∧ (0 < b ∧ b < 32) ∧ 0 < c ∧ c < 32) :
    (rotr x s ^^^ rotr x t ^^^ x >>> u).toNat = rs3 x.toNat a b c := by
  have e : (x >>> u).toNat = (x.toNat >>> c) % 2 ^ 32 := by
    rw [UInt32.toNat_shiftRight, hc, Nat.mod_eq_of_lt (show c < 32 from h.2.2.2), Nat.mod_eq_of_lt]
    rw [Nat.shiftRight_eq_div_pow]
    exact Nat.lt_of_le_of_lt (Nat.div_le_self _ _) (toNat32_lt x)
  rw [UInt32.toNat_xor, UInt32.toNat_xor, rotr_nat x s a ha h.1.1 h.1.2, rotr_nat x t b hb h.2.1.1 h.2.1.2, e, xor3_mod]; rfl
abbrev gN (v : List UInt32) (i : Nat) : Nat := (v.getD i 0).toNat
theorem not_nat (x : UInt32) : (~~~ x).toNat = Nat.sub 4294967295 x.toNat := by rw [UInt32.toNat_not]; rfl
theorem tOf_nat (v : List UInt32) (k x : UInt32) : (tOf v k x).toNat = tN (gN v 4) (gN v 5) (gN v 6) (gN v 7) k.toNat x.toNat % 2 ^ 32 := by
  unfold tOf
  dsimp only
  rw [UInt32.toNat_add, UInt32.toNat_add, UInt32.toNat_add, UInt32.toNat_add, ro3_eq _ 6 11 25 6 11 25 rfl rfl rfl (by decide), UInt32.toNat_xor, UInt32.toNat_and, UInt32.toNat_and, not_nat]
  show _ = (gN v 7 + ro3 (gN v 4) 6 11 25 + (gN v 4 &&& gN v 5 ^^^ Nat.sub 4294967295 (gN v 4) &&& gN v 6) + k.toNat + x.toNat) % 2 ^ 32
  generalize (gN v 4 &&& gN v 5 ^^^ Nat.sub 4294967295 (gN v 4) &&& gN v 6) = z
  generalize ro3 (gN v 4) 6 11 25 = y
  show _ = ((v.getD 7 0).toNat + y + z + k.toNat + x.toNat) % 2 ^ 32
  omega
theorem uOf_nat (v : List UInt32) : (uOf v).toNat = uN (gN v 0) (gN v 1) (gN v 2) % 2 ^ 32 := by
  unfold uOf
  dsimp only
  rw [UInt32.toNat_add, ro3_eq _ 2 13 22 2 13 22 rfl rfl rfl (by decide), UInt32.toNat_xor, UInt32.toNat_xor, UInt32.toNat_and, UInt32.toNat_and, UInt32.toNat_and]
  rfl
/-- words in one number -/
def pk (f : Nat → Nat) (i : Nat) : Nat → Nat
  | 0 => 0
  | n + 1 => pk f i n * 2 ^ 32 + f (i + n)
theorem pk_app (f : Nat → Nat) (i m : Nat) : ∀ r, pk f i (m + r) = pk f i m * 2 ^ (32 * r) + pk f (i + m) r
  | 0 => by simp [pk]
  | r + 1 => by
    rw [← Nat.add_assoc, pk, pk_app f i m r, pk, Nat.mul_add 32 r 1, Nat.pow_add, Nat.add_mul, Nat.mul_assoc, Nat.add_assoc, Nat.add_assoc i m r]
theorem pk_lt {f : Nat → Nat} (h : ∀ i, f i < 2 ^ 32) (i : Nat) : ∀ n, pk f i n < 2 ^ (32 * n)
  | 0 => by simp [pk]
  | n + 1 => by
    have h1 := pk_lt h i n
    have h2 := h (i + n)
    rw [pk, Nat.mul_add 32 n 1, Nat.pow_add]
    have h3 : pk f i n * 2 ^ 32 + 2 ^ 32 ≤ 2 ^ (32 * n) * 2 ^ 32 := by
      have := Nat.mul_le_mul_right (2 ^ 32) (show pk f i n + 1 ≤ 2 ^ (32 * n) from h1)
      rw [Nat.add_mul, Nat.one_mul] at this; exact this
    rw [Nat.mul_one]; omega
theorem pk_shr {f : Nat → Nat} (h : ∀ i, f i < 2 ^ 32) (i m r : Nat) : pk f i (m + r) >>> (32 * r) = pk f i m := by
  rw [Nat.shiftRight_eq_div_pow, pk_app, Nat.mul_comm, Nat.mul_add_div (Nat.pow_pos (by decide)), Nat.div_eq_of_lt (pk_lt h _ _), Nat.add_zero]
theorem pk_mod {f : Nat → Nat} (h : ∀ i, f i < 2 ^ 32) (i m r : Nat) : pk f i (m + r) % 2 ^ (32 * r) = pk f (i + m) r := by
  rw [pk_app, Nat.mul_comm, Nat.mul_add_mod, Nat.mod_eq_of_lt (pk_lt h _ _)]
theorem pk_word {f : Nat → Nat} (h : ∀ i, f i < 2 ^ 32) (i n : Nat) : pk f i (n + 1) % 2 ^ 32 = f (i + n) := by
  have := pk_mod h i n 1
  rw [Nat.mul_one] at this
  rw [this]
  simp [pk]
/-- a word of the schedule -/
def sw (b : List UInt8) (i : Nat) : Nat := ((schedTo b (i + 1)).getD i 0).toNat
theorem sw_lt (b : List UInt8) (i : Nat) : sw b i < 2 ^ 32 := toNat32_lt _
theorem sched_last (b : List UInt8) (i : Nat) : (schedTo b (i + 1)).getD i 0 = if i < 16 then wordTo b i 4 else nextW (schedTo b i) i := by
  rw [schedTo, List.getD_eq_getElem?_getD, List.getElem?_append_right (by rw [schedTo_length]; exact Nat.le_refl _), schedTo_length, Nat.sub_self]; rfl
theorem sched_get (b : List UInt8) {i : Nat} : ∀ n, i < n → (schedTo b n).getD i 0 = (schedTo b (i + 1)).getD i 0
  | 0, h => by omega
  | n + 1, h => by
    by_cases e : i = n
    · subst e; rfl
    · rw [← sched_get b n (by omega), schedTo, List.getD_eq_getElem?_getD, List.getElem?_append_left (by rw [schedTo_length]; omega), List.getD_eq_getElem?_getD]
theorem sw_get (b : List UInt8) {i n : Nat} (h : i < n) : gN (schedTo b n) i = sw b i := congrArg UInt32.toNat (sched_get b n h)
theorem sw_hi (b : List UInt8) (i : Nat) : sw b (i + 16) = (sw b i + sw b (i + 9) + rs3 (sw b (i + 1)) 7 18 3 + rs3 (sw b (i + 14)) 17 19 10) % 2 ^ 32 := by
  have h := sched_last b (i + 16)
  rw [if_neg (by omega)] at h
  unfold sw
  rw [h]
  unfold nextW
  dsimp only
  rw [UInt32.toNat_add, UInt32.toNat_add, UInt32.toNat_add, rs3_eq _ 7 18 3 7 18 3 rfl rfl rfl (by decide), rs3_eq _ 17 19 10 17 19 10 rfl rfl rfl (by decide)]
  have e1 := sw_get b (i := i + 16 - 15) (n := i + 16) (by omega)
  have e2 := sw_get b (i := i + 16 - 2) (n := i + 16) (by omega)
  have e3 := sw_get b (i := i + 16 - 16) (n := i + 16) (by omega)
  have e4 := sw_get b (i := i + 16 - 7) (n := i + 16) (by omega)
  rw [show i + 16 - 15 = i + 1 by omega] at e1 ⊢
  rw [show i + 16 - 2 = i + 14 by omega] at e2 ⊢
  rw [show i + 16 - 16 = i by omega] at e3 ⊢
  rw [show i + 16 - 7 = i + 9 by omega] at e4 ⊢
  unfold gN at e1 e2 e3 e4
  rw [e1, e2, e3, e4]
  show (((sw b i + sw b (i + 9)) % 2 ^ 32 + rs3 (sw b (i + 1)) 7 18 3) % 2 ^ 32 + rs3 (sw b (i + 14)) 17 19 10) % 2 ^ 32 = (sw b i + sw b (i + 9) + rs3 (sw b (i + 1)) 7 18 3 + rs3 (sw b (i + 14)) 17 19 10) % 2 ^ 32
  omega
theorem pk_shr' {f : Nat → Nat} (h : ∀ i, f i < 2 ^ 32) (i m r n s : Nat) (hn : m + r = n) (hs : 32 * r = s) : Nat.shiftRight (pk f i n) s = pk f i m := by subst hn hs; exact pk_shr h i m r
theorem pk_w' {f : Nat → Nat} (h : ∀ i, f i < 2 ^ 32) (i m r n s : Nat) (hn : m + 1 + r = n) (hs : 32 * r = s) : Nat.mod (Nat.shiftRight (pk f i n) s) 4294967296 = f (i + m) := by
  rw [pk_shr' h i (m + 1) r n s hn hs]; exact pk_word h i m
theorem pk_one (f : Nat → Nat) (i : Nat) : pk f i 1 = f i := by simp [pk]
theorem pk_mod' {f : Nat → Nat} (h : ∀ i, f i < 2 ^ 32) (i m r n s : Nat) (hn : m + r = n) (hs : 32 * r = s) : Nat.mod (pk f i n) (Nat.pow 2 s) = pk f (i + m) r := by subst hn hs; exact pk_mod h i m r
theorem pk_top {f : Nat → Nat} (h : ∀ i, f i < 2 ^ 32) (i : Nat) : Nat.shiftRight (pk f i 16) 480 = f i := by rw [pk_shr' h i 1 15 16 480 rfl rfl, pk_one]
theorem nextN_eq (W : Nat) : nextN W = Nat.add (Nat.shiftLeft (Nat.mod W (Nat.pow 2 480)) 32)
  (Nat.mod (Nat.add (Nat.add (Nat.add (Nat.shiftRight W 480) (Nat.mod (Nat.shiftRight W 192) 4294967296)) (rs3 (Nat.mod (Nat.shiftRight W 448) 4294967296) 7 18 3)) (rs3 (Nat.mod (Nat.shiftRight W 32) 4294967296) 17 19 10)) 4294967296) := rfl
theorem next_pk (b : List UInt8) (i : Nat) : nextN (pk (sw b) i 16) = pk (sw b) (i + 1) 16 := by
  have hl := sw_lt b
  rw [nextN_eq, pk_top hl, pk_w' hl i 9 6 16 192 rfl rfl, pk_w' hl i 1 14 16 448 rfl rfl, pk_w' hl i 14 1 16 32 rfl rfl, pk_mod' hl i 1 15 16 480 rfl rfl]
  have e : Nat.mod (Nat.add (Nat.add (Nat.add (sw b i) (sw b (i + 9))) (rs3 (sw b (i + 1)) 7 18 3)) (rs3 (sw b (i + 14)) 17 19 10)) 4294967296 = sw b (i + 16) := (sw_hi b i).symm
  rw [e, show i + 16 = i + 1 + 15 by omega]
  generalize sw b = f
  rw [show pk f (i + 1) 16 = pk f (i + 1) 15 * 2 ^ 32 + f (i + 1 + 15) from rfl]
  generalize pk f (i + 1) 15 = z
  show z <<< 32 + f (i + 1 + 15) = _
  rw [Nat.shiftLeft_eq]
theorem loopN_cons (k : Nat) (ks : List Nat) (a b c d e f g h W : Nat) : loopN (k :: ks) a b c d e f g h W = loopN ks (Nat.mod (Nat.add (tN e f g h k (Nat.shiftRight W 480)) (uN a b c)) 4294967296) a b c (Nat.mod (Nat.add d (tN e f g h k (Nat.shiftRight W 480))) 4294967296) e f g (nextN W) := rfl
theorem loopN_nil (a b c d e f g h W : Nat) : loopN [] a b c d e f g h W = [a, b, c, d, e, f, g, h] := rfl
def kkN : List Nat := kk.map UInt32.toNat
theorem list8 {l : List UInt32} (h : l.length = 8) : l.map UInt32.toNat = [gN l 0, gN l 1, gN l 2, gN l 3, gN l 4, gN l 5, gN l 6, gN l 7] := by
  match l, h with
  | [a, b, c, d, e, f, g, i], _ => rfl
theorem loop_eq {h : List UInt32} (hl : h.length = 8) (b : List UInt8) : ∀ r i, i + r = 64 →
    loopN (kkN.drop i) (gN (roundsTo h (sched b) i) 0) (gN (roundsTo h (sched b) i) 1) (gN (roundsTo h (sched b) i) 2) (gN (roundsTo h (sched b) i) 3) (gN (roundsTo h (sched b) i) 4) (gN (roundsTo h (sched b) i) 5) (gN (roundsTo h (sched b) i) 6) (gN (roundsTo h (sched b) i) 7) (pk (sw b) i 16) = (roundsTo h (sched b) 64).map UInt32.toNat
  | 0, i, hi => by
    obtain rfl : i = 64 := by omega
    rw [List.drop_eq_nil_of_le (by decide : kkN.length ≤ 64), list8 (roundsTo_length hl 64), loopN_nil]
  | r + 1, i, hi => by
    have hk : i < kkN.length := by rw [show kkN.length = 64 from rfl]; omega
    have hki : kkN[i] = (kk.getD i 0).toNat := by
      have h2 : kk[i]? = some (kk.getD i 0) := by rw [List.getD_eq_getElem?_getD, List.getElem?_eq_getElem (by rw [show kk.length = 64 from rfl]; omega)]; rfl
      have h1 : kkN[i]? = some (kk.getD i 0).toNat := by unfold kkN; rw [List.getElem?_map, h2]; rfl
      rw [List.getElem?_eq_getElem hk] at h1
      exact Option.some.inj h1
    rw [List.drop_eq_getElem_cons hk, hki, ← loop_eq hl b r (i + 1) (by omega)]
    have hw : ((sched b).getD i 0).toNat = sw b i := sw_get b (n := 64) (by omega)
    rw [loopN_cons, pk_top (sw_lt b), next_pk]
    have ht := tOf_nat (roundsTo h (sched b) i) (kk.getD i 0) ((sched b).getD i 0)
    rw [hw] at ht
    have hu := uOf_nat (roundsTo h (sched b) i)
    have n0 : gN (roundsTo h (sched b) (i + 1)) 0 = Nat.mod (Nat.add (tN (gN (roundsTo h (sched b) i) 4) (gN (roundsTo h (sched b) i) 5) (gN (roundsTo h (sched b) i) 6) (gN (roundsTo h (sched b) i) 7) (kk.getD i 0).toNat (sw b i)) (uN (gN (roundsTo h (sched b) i) 0) (gN (roundsTo h (sched b) i) 1) (gN (roundsTo h (sched b) i) 2))) 4294967296 := by
      show (tOf (roundsTo h (sched b) i) (kk.getD i 0) ((sched b).getD i 0) + uOf (roundsTo h (sched b) i)).toNat = _
      rw [UInt32.toNat_add, ht, hu, ← Nat.add_mod]; rfl
    have n4 : gN (roundsTo h (sched b) (i + 1)) 4 = Nat.mod (Nat.add (gN (roundsTo h (sched b) i) 3) (tN (gN (roundsTo h (sched b) i) 4) (gN (roundsTo h (sched b) i) 5) (gN (roundsTo h (sched b) i) 6) (gN (roundsTo h (sched b) i) 7) (kk.getD i 0).toNat (sw b i))) 4294967296 := by
      show ((roundsTo h (sched b) i).getD 3 0 + tOf (roundsTo h (sched b) i) (kk.getD i 0) ((sched b).getD i 0)).toNat = _
      rw [UInt32.toNat_add, ht, Nat.add_mod_mod]; rfl
    have n1 : gN (roundsTo h (sched b) (i + 1)) 1 = gN (roundsTo h (sched b) i) 0 := rfl
    have n2 : gN (roundsTo h (sched b) (i + 1)) 2 = gN (roundsTo h (sched b) i) 1 := rfl
    have n3 : gN (roundsTo h (sched b) (i + 1)) 3 = gN (roundsTo h (sched b) i) 2 := rfl
    have n5 : gN (roundsTo h (sched b) (i + 1)) 5 = gN (roundsTo h (sched b) i) 4 := rfl
    have n6 : gN (roundsTo h (sched b) (i + 1)) 6 = gN (roundsTo h (sched b) i) 5 := rfl
    have n7 : gN (roundsTo h (sched b) (i + 1)) 7 = gN (roundsTo h (sched b) i) 6 := rfl
    rw [n0, n1, n2, n3, n4, n5, n6, n7]
def kkL : List Nat := [1116352408, 1899447441, 3049323471, 3921009573, 961987163, 1508970993, 2453635748, 2870763221, 3624381080, 310598401, 607225278, 1426881987, 1925078388, 2162078206, 2614888103, 3248222580, 3835390401, 4022224774, 264347078, 604807628, 770255983, 1249150122, 1555081692, 1996064986, 2554220882, 2821834349, 2952996808, 3210313671, 3336571891, 3584528711, 113926993, 338241895, 666307205, 773529912, 1294757372, 1396182291, 1695183700, 1986661051, 2177026350, 2456956037, 2730485921, 2820302411, 3259730800, 3345764771, 3516065817, 3600352804, 4094571909, 275423344, 430227734, 506948616, 659060556, 883997877, 958139571, 1322822218, 1537002063, 1747873779, 1955562222, 2024104815, 2227730452, 2361852424, 2428436474, 2756734187, 3204031479, 3329325298]
theorem kkL_eq : kkN = kkL := by kernel_rfl
def hhL : List Nat := [1779033703, 3144134277, 1013904242, 2773480762, 1359893119, 2600822924, 528734635, 1541459225]
theorem hhL_eq : hh.map UInt32.toNat = hhL := by kernel_rfl
noncomputable def compressN (hs : List Nat) (W : Nat) : List Nat := List.zipWith (fun x y => Nat.mod (Nat.add x y) 4294967296) hs (loopN kkL (hs.getD 0 0) (hs.getD 1 0) (hs.getD 2 0) (hs.getD 3 0) (hs.getD 4 0) (hs.getD 5 0) (hs.getD 6 0) (hs.getD 7 0) W)
theorem zip_nat : ∀ (l r : List UInt32), (List.zipWith (· + ·) l r).map UInt32.toNat = List.zipWith (fun x y => Nat.mod (Nat.add x y) 4294967296) (l.map UInt32.toNat) (r.map UInt32.toNat)
  | [], _ => rfl
  | _ :: _, [] => rfl
  | a :: l, b :: r => by
    rw [List.zipWith_cons_cons, List.map_cons, List.map_cons, List.map_cons, List.zipWith_cons_cons, zip_nat l r, UInt32.toNat_add]; rfl
theorem gN_map {h : List UInt32} (i : Nat) : (h.map UInt32.toNat).getD i 0 = gN h i := by
  unfold gN
  rw [List.getD_eq_getElem?_getD, List.getElem?_map, List.getD_eq_getElem?_getD]
  cases h[i]? <;> rfl
theorem compress_nat {h : List UInt32} (hl : h.length = 8) (b : List UInt8) : (compress h b).map UInt32.toNat = compressN (h.map UInt32.toNat) (pk (sw b) 0 16) := by
  unfold compress compressN
  rw [zip_nat, ← loop_eq hl b 64 0 rfl, ← kkL_eq]
  simp only [gN_map]
  rfl
def be (b : List UInt8) (o : Nat) : Nat → Nat
  | 0 => 0
  | k + 1 => be b o k * 256 + (b.getD (o + k) 0).toNat
theorem be_lt (b : List UInt8) (o : Nat) : ∀ k, be b o k < 256 ^ k
  | 0 => by simp [be]
  | k + 1 => by
    have h1 := be_lt b o k
    have h2 := UInt8.toNat_lt (b.getD (o + k) 0)
    rw [be, Nat.pow_succ]; omega
theorem word_nat (b : List UInt8) (i : Nat) : ∀ k, k ≤ 4 → (wordTo b i k).toNat = be b (4 * i) k
  | 0, _ => rfl
  | k + 1, hk => by
    have h1 := word_nat b i k (by omega)
    have h2 := be_lt b (4 * i) k
    have h3 := UInt8.toNat_lt (b.getD (4 * i + k) 0)
    have h4 : 256 ^ k ≤ 256 ^ 3 := Nat.pow_le_pow_right (by decide) (by omega)
    have h5 : be b (4 * i) k <<< 8 < 2 ^ 32 := by rw [Nat.shiftLeft_eq]; omega
    have h6 : (bw b (4 * i + k)).toNat = (b.getD (4 * i + k) 0).toNat := by unfold bw; exact UInt8.toNat_toUInt32 _
    rw [wordTo, UInt32.toNat_or, UInt32.toNat_shiftLeft, h1, h6, show (8 : UInt32).toNat % 32 = 8 from rfl, Nat.mod_eq_of_lt h5, ← Nat.shiftLeft_add_eq_or_of_lt (by omega), Nat.shiftLeft_eq, be]
theorem sw_lo (b : List UInt8) {i : Nat} (h : i < 16) : sw b i = be b (4 * i) 4 := by
  unfold sw
  rw [sched_last, if_pos h]; exact word_nat b i 4 (Nat.le_refl _)
theorem pk_be (b : List UInt8) : ∀ n, n ≤ 16 → pk (sw b) 0 n = be b 0 (4 * n)
  | 0, _ => rfl
  | n + 1, h => by
    rw [pk, pk_be b n (by omega), Nat.zero_add, sw_lo b (by omega), show 4 * (n + 1) = 4 * n + 1 + 1 + 1 + 1 by omega]
    simp only [be, Nat.zero_add]
    rw [show 4 * n + 1 + 1 = 4 * n + 2 from rfl, show 4 * n + 2 + 1 = 4 * n + 3 from rfl, Nat.add_zero]
    omega
def bigE (l : List Nat) : Nat := l.foldl (fun a x => Nat.add (Nat.mul a 256) x) 0
theorem be_fold (b : List UInt8) : ∀ n, n ≤ b.length → bigE ((b.take n).map UInt8.toNat) = be b 0 n
  | 0, _ => rfl
  | n + 1, h => by
    obtain ⟨x, hx⟩ : ∃ x, b[n]? = some x := ⟨_, List.getElem?_eq_getElem (by omega)⟩
    have ih := be_fold b n (by omega)
    unfold bigE at ih ⊢
    rw [List.take_add_one, hx, Option.toList_some, List.map_append, List.foldl_append, ih, be, Nat.zero_add, List.getD_eq_getElem?_getD, hx]; rfl
noncomputable def digN (m : List Nat) : Nat → List Nat
  | 0 => hhL
  | k + 1 => compressN (digN m k) (bigE ((m.drop (64 * k)).take 64))
theorem dig_nat (m : List UInt8) : ∀ k, 64 * k ≤ m.length → (digestTo m k).map UInt32.toNat = digN (m.map UInt8.toNat) k
  | 0, _ => hhL_eq
  | k + 1, h => by
    have hl : ((m.drop (64 * k)).take 64).length = 64 := by rw [List.length_take, List.length_drop]; omega
    have hb := be_fold ((m.drop (64 * k)).take 64) 64 (by omega)
    rw [List.take_of_length_le (by omega)] at hb
    rw [digestTo, digN, compress_nat (digestTo_length m k), dig_nat m k (by omega), pk_be _ 16 (Nat.le_refl _), ← hb, List.map_take, List.map_drop]
def byN (d s : Nat) : Nat := Nat.mod (Nat.shiftRight d s) 256
def hashN (d : List Nat) : List Nat := [byN (d.getD 0 0) 24, byN (d.getD 0 0) 16, byN (d.getD 0 0) 8, byN (d.getD 0 0) 0, byN (d.getD 1 0) 24, byN (d.getD 1 0) 16, byN (d.getD 1 0) 8, byN (d.getD 1 0) 0]
theorem outB_nat (h : List UInt32) (s : UInt32) (i : Nat) (hs : s.toNat < 32) : ((h.getD i 0) >>> s).toUInt8.toNat = byN (gN h i) s.toNat := by
  rw [UInt32.toNat_toUInt8, UInt32.toNat_shiftRight, Nat.mod_eq_of_lt hs]; rfl
def le4N (n : Nat) : List Nat := [Nat.mod n 256, Nat.mod (Nat.div n 256) 256, Nat.mod (Nat.div n 65536) 256, Nat.mod (Nat.div n 16777216) 256]
def packedN (parts : List (List Nat)) : List Nat := parts.flatMap fun p => le4N p.length ++ p
def len8N (n : Nat) : List Nat := [n * 8 / 2 ^ 56 % 256, n * 8 / 2 ^ 48 % 256, n * 8 / 2 ^ 40 % 256, n * 8 / 2 ^ 32 % 256, n * 8 / 2 ^ 24 % 256, n * 8 / 2 ^ 16 % 256, n * 8 / 2 ^ 8 % 256, n * 8 % 256]
def paddedN (b : List Nat) : List Nat := b ++ 128 :: List.replicate (zeros b.length) 0 ++ len8N b.length
noncomputable def hN (p : Nat) (parts : List (List Nat)) : List Nat := hashN (digN (paddedN (p :: packedN parts)) ((paddedN (p :: packedN parts)).length / 64))
abbrev nl (b : List UInt8) : List Nat := b.map UInt8.toNat
theorem le4_nat (n : Nat) : nl (le4 n) = le4N n := by
  simp [nl, le4, le4N]
  exact ⟨rfl, rfl, rfl, rfl⟩
theorem packed_nat (parts : List (List UInt8)) : nl (packed parts) = packedN (parts.map nl) := by
  induction parts with
  | nil => rfl
  | cons p ps ih =>
    unfold packed packedN at *
    rw [List.flatMap_cons, List.map_cons, List.flatMap_cons, nl, List.map_append, List.map_append]
    rw [show (List.flatMap (fun p => le4 p.length ++ p) ps).map UInt8.toNat = _ from ih, show (le4 p.length).map UInt8.toNat = _ from le4_nat _, List.length_map]
theorem len8_nat (n : Nat) : nl (len8 n) = len8N n := by simp [nl, len8, len8N]
theorem padded_nat (b : List UInt8) : nl (padded b) = paddedN (nl b) := by
  unfold padded paddedN nl
  rw [List.map_append, List.map_append, List.map_cons, List.map_replicate, List.length_map, show (len8 b.length).map UInt8.toNat = _ from len8_nat _]; rfl
theorem hOf_nat (p : UInt8) (parts : List (List UInt8)) : nl (hOf p parts).toList = hN p.toNat (parts.map nl) := by
  have h1 : (hOf p parts).toList = (sha (p :: packed parts)).take 8 := rfl
  have h2 : (sha (p :: packed parts)).take 8 = (List.range 8).map (outB (digestTo (padded (p :: packed parts)) ((padded (p :: packed parts)).length / 64))) := by
    unfold sha
    rw [← List.map_take]; rfl
  have hp : p.toNat :: packedN (parts.map nl) = nl (p :: packed parts) := by rw [← packed_nat]; rfl
  unfold hN
  rw [h1, h2, hp, ← padded_nat]
  unfold nl
  rw [List.length_map, ← dig_nat _ _ (Nat.mul_div_le _ _)]
  generalize digestTo (padded (p :: packed parts)) ((padded (p :: packed parts)).length / 64) = D
  unfold hashN
  simp only [gN_map]
  rw [show List.range 8 = [0, 1, 2, 3, 4, 5, 6, 7] from rfl]
  simp only [List.map_cons, List.map_nil]
  rw [show outB D 0 = (D.getD 0 0 >>> 24).toUInt8 from rfl, show outB D 1 = (D.getD 0 0 >>> 16).toUInt8 from rfl, show outB D 2 = (D.getD 0 0 >>> 8).toUInt8 from rfl, show outB D 3 = (D.getD 0 0 >>> 0).toUInt8 from rfl,
    show outB D 4 = (D.getD 1 0 >>> 24).toUInt8 from rfl, show outB D 5 = (D.getD 1 0 >>> 16).toUInt8 from rfl, show outB D 6 = (D.getD 1 0 >>> 8).toUInt8 from rfl, show outB D 7 = (D.getD 1 0 >>> 0).toUInt8 from rfl]
  rw [outB_nat D 24 0 (by decide), outB_nat D 16 0 (by decide), outB_nat D 8 0 (by decide), outB_nat D 0 0 (by decide), outB_nat D 24 1 (by decide), outB_nat D 16 1 (by decide), outB_nat D 8 1 (by decide), outB_nat D 0 1 (by decide)]
  rfl
end Go.Db
namespace Go.Db
open Go Go.Sx
set_option maxRecDepth 100000
noncomputable def secN (seed : List Nat) (i k b : Nat) : List Nat := hN 115 [seed, [i, k, b, 0]]
noncomputable def mrkN (s : List Nat) : List Nat := hN 112 [s]
noncomputable def pubN (seed : List Nat) (i : Nat) : List Nat := hN 107 [(List.range 16).flatMap fun k => mrkN (secN seed i k 0) ++ mrkN (secN seed i k 1)]
noncomputable def twoN (a b : List Nat) : List Nat := hN 109 [a, b]
noncomputable def lfN (a : List Nat) : List Nat := hN 108 [a]
noncomputable def rootN (p0 p1 p2 p3 p4 p5 p6 p7 : List Nat) : List Nat :=
  twoN (twoN (twoN (lfN p0) (lfN p1)) (twoN (lfN p2) (lfN p3))) (twoN (twoN (lfN p4) (lfN p5)) (twoN (lfN p6) (lfN p7)))
theorem byteI_num (n : Nat) (h : n < 256) : (byteI (n : Int)).toNat = n := by
  rw [byteI_nat]; simp; omega
theorem sec_nat (seed : Hash) (i k b : Nat) (hi : i < 256) (hk : k < 256) (hb : b < 256) : nl (secretOf seed (i : Int) (k : Int) (b : Int)).toList = secN (nl seed.toList) i k b := by
  unfold secretOf secN
  rw [hOf_nat]
  simp only [List.map_cons, List.map_nil, nl]
  rw [byteI_num i hi, byteI_num k hk, byteI_num b hb]; rfl
theorem mrk_nat (s : Hash) : nl (markOf s).toList = mrkN (nl s.toList) := by
  unfold markOf mrkN
  rw [hOf_nat]; rfl
theorem bit_h0 (k : Nat) : bitOf h0 k = 0 := by
  unfold bitOf
  have h : h0.toList.getD (k / 8) 0 = 0 := by
    rw [List.getD_eq_getElem?_getD, show h0.toList = List.replicate 8 0 from rfl, List.getElem?_replicate]
    split <;> rfl
  rw [h]
  show 0 / 2 ^ (k % 8) % 2 = 0
  simp
theorem opn_get (seed : Hash) (i : Nat) {k : Nat} (h : k < 16) : (opnTo seed (i : Int) h0 16).getD k h0 = secretOf seed (i : Int) (k : Int) 0 := by
  unfold opnTo
  rw [List.getD_eq_getElem?_getD, List.getElem?_map, List.getElem?_range h, Option.map_some, Option.getD_some, bit_h0]; rfl
theorem shut_get (seed : Hash) (i : Nat) {k : Nat} (h : k < 16) : (shutTo seed (i : Int) h0 16).getD k h0 = markOf (secretOf seed (i : Int) (k : Int) 1) := by
  unfold shutTo
  rw [List.getD_eq_getElem?_getD, List.getElem?_map, List.getElem?_range h, Option.map_some, Option.getD_some, bit_h0]; rfl
theorem pubTo_nat (seed : Hash) (i : Nat) (hi : i < 256) : ∀ n, n ≤ 16 → nl (pubTo h0 (opnTo seed (i : Int) h0 16) (shutTo seed (i : Int) h0 16) n) = (List.range n).flatMap fun k => mrkN (secN (nl seed.toList) i k 0) ++ mrkN (secN (nl seed.toList) i k 1)
  | 0, _ => rfl
  | n + 1, h => by
    have ih := pubTo_nat seed i hi n (by omega)
    rw [pubTo, bit_h0, if_neg (by decide), opn_get seed i (by omega), shut_get seed i (by omega), List.range_succ, List.flatMap_append, ← ih]
    have e0 := sec_nat seed i n 0 hi (by omega) (by decide)
    have e1 := sec_nat seed i n 1 hi (by omega) (by decide)
    have m0 := mrk_nat (secretOf seed (i : Int) (n : Int) 0)
    have m1 := mrk_nat (secretOf seed (i : Int) (n : Int) 1)
    rw [show ((0 : Nat) : Int) = 0 from rfl] at e0
    rw [show ((1 : Nat) : Int) = 1 from rfl] at e1
    rw [e0] at m0
    rw [e1] at m1
    simp only [nl, List.map_append, List.flatMap_cons, List.flatMap_nil, List.append_nil] at m0 m1 ⊢
    rw [m0, m1]
theorem pub_nat (seed : Hash) (i : Nat) (hi : i < 256) : nl (publicOf h0 (opnTo seed (i : Int) h0 16) (shutTo seed (i : Int) h0 16)).toList = pubN (nl seed.toList) i := by
  unfold publicOf pubN
  rw [hOf_nat, ← pubTo_nat seed i hi 16 (Nat.le_refl _)]; rfl
theorem two_nat (a b : Hash) : nl (two 109 a b).toList = twoN (nl a.toList) (nl b.toList) := by
  unfold two twoN
  rw [hOf_nat]; rfl
theorem leaf_nat (a : Hash) : nl (hOf 108 [a.toList]).toList = lfN (nl a.toList) := by
  unfold lfN
  rw [hOf_nat]; rfl
theorem root8 (a b c d e f g h : Hash) : rootOf [a, b, c, d, e, f, g, h] = two 109 (two 109 (two 109 (hOf 108 [a.toList]) (hOf 108 [b.toList])) (two 109 (hOf 108 [c.toList]) (hOf 108 [d.toList]))) (two 109 (two 109 (hOf 108 [e.toList]) (hOf 108 [f.toList])) (two 109 (hOf 108 [g.toList]) (hOf 108 [h.toList]))) := by
  have c8 : cutN 8 = 4 := by decide
  have c4 : cutN 4 = 2 := by decide
  have c2 : cutN 2 = 1 := by decide
  have r1 : ∀ x : Hash, rootOf [x] = hOf 108 [x.toList] := fun x => rootOf_one rfl
  have r2 : ∀ x y : Hash, rootOf [x, y] = two 109 (hOf 108 [x.toList]) (hOf 108 [y.toList]) := fun x y => by
    rw [rootOf_two (l := [x, y]) (show 1 < 2 by decide) (show 2 ≤ 65536 by decide), show [x, y].length = 2 from rfl, c2]
    show two 109 (rootOf [x]) (rootOf [y]) = _
    rw [r1, r1]
  have r4 : ∀ x y z w : Hash, rootOf [x, y, z, w] = two 109 (rootOf [x, y]) (rootOf [z, w]) := fun x y z w => by
    rw [rootOf_two (l := [x, y, z, w]) (show 1 < 4 by decide) (show 4 ≤ 65536 by decide), show [x, y, z, w].length = 4 from rfl, c4]; rfl
  rw [rootOf_two (l := [a, b, c, d, e, f, g, h]) (show 1 < 8 by decide) (show 8 ≤ 65536 by decide), show [a, b, c, d, e, f, g, h].length = 8 from rfl, c8]
  show two 109 (rootOf [a, b, c, d]) (rootOf [e, f, g, h]) = _
  rw [r4, r4, r2, r2, r2, r2]
theorem tree_nat (seed : Hash) : nl (treeOf seed).toList = rootN (pubN (nl seed.toList) 0) (pubN (nl seed.toList) 1) (pubN (nl seed.toList) 2) (pubN (nl seed.toList) 3) (pubN (nl seed.toList) 4) (pubN (nl seed.toList) 5) (pubN (nl seed.toList) 6) (pubN (nl seed.toList) 7) := by
  have hp : ∀ i : Nat, i < 256 → nl (publicOf h0 (opnTo seed (i : Int) h0 16) (shutTo seed (i : Int) h0 16)).toList = pubN (nl seed.toList) i := fun i hi => pub_nat seed i hi
  unfold treeOf publicsOf publicsTo
  rw [show List.range 8 = [0, 1, 2, 3, 4, 5, 6, 7] from rfl]
  simp only [List.map_cons, List.map_nil]
  rw [root8]
  simp only [two_nat, leaf_nat]
  rw [hp 0 (by decide), hp 1 (by decide), hp 2 (by decide), hp 3 (by decide), hp 4 (by decide), hp 5 (by decide), hp 6 (by decide), hp 7 (by decide)]
  rfl
end Go.Db
namespace Go.Db
open Go Go.Sx
set_option maxRecDepth 100000
theorem pub0_0 : pubN [113, 0, 0, 0, 0, 0, 0, 0] 0 = [255, 106, 171, 30, 0, 1, 99, 59] := by kernel_rfl
theorem pub0_1 : pubN [113, 0, 0, 0, 0, 0, 0, 0] 1 = [106, 245, 50, 117, 138, 20, 162, 202] := by kernel_rfl
theorem pub0_2 : pubN [113, 0, 0, 0, 0, 0, 0, 0] 2 = [234, 21, 117, 53, 147, 136, 25, 49] := by kernel_rfl
theorem pub0_3 : pubN [113, 0, 0, 0, 0, 0, 0, 0] 3 = [122, 192, 39, 3, 116, 185, 173, 155] := by kernel_rfl
theorem pub0_4 : pubN [113, 0, 0, 0, 0, 0, 0, 0] 4 = [163, 196, 91, 208, 17, 10, 174, 107] := by kernel_rfl
theorem pub0_5 : pubN [113, 0, 0, 0, 0, 0, 0, 0] 5 = [39, 62, 226, 115, 218, 223, 114, 112] := by kernel_rfl
theorem pub0_6 : pubN [113, 0, 0, 0, 0, 0, 0, 0] 6 = [198, 101, 244, 187, 35, 6, 155, 28] := by kernel_rfl
theorem pub0_7 : pubN [113, 0, 0, 0, 0, 0, 0, 0] 7 = [83, 125, 202, 234, 100, 14, 204, 230] := by kernel_rfl
theorem root0 : rootN [255, 106, 171, 30, 0, 1, 99, 59] [106, 245, 50, 117, 138, 20, 162, 202] [234, 21, 117, 53, 147, 136, 25, 49] [122, 192, 39, 3, 116, 185, 173, 155] [163, 196, 91, 208, 17, 10, 174, 107] [39, 62, 226, 115, 218, 223, 114, 112] [198, 101, 244, 187, 35, 6, 155, 28] [83, 125, 202, 234, 100, 14, 204, 230] = [42, 27, 56, 72, 149, 84, 97, 106] := by kernel_rfl
theorem seed0 : nl (seedOf (0 : Nat)).toList = [113, 0, 0, 0, 0, 0, 0, 0] := by decide
theorem tree0 : nl (treeOf (seedOf (0 : Nat))).toList = [42, 27, 56, 72, 149, 84, 97, 106] := by rw [tree_nat, seed0, pub0_0, pub0_1, pub0_2, pub0_3, pub0_4, pub0_5, pub0_6, pub0_7, root0]
theorem pub1_0 : pubN [113, 1, 0, 0, 0, 0, 0, 0] 0 = [24, 103, 56, 166, 213, 68, 131, 201] := by kernel_rfl
theorem pub1_1 : pubN [113, 1, 0, 0, 0, 0, 0, 0] 1 = [162, 216, 153, 28, 237, 215, 27, 138] := by kernel_rfl
theorem pub1_2 : pubN [113, 1, 0, 0, 0, 0, 0, 0] 2 = [130, 180, 169, 244, 28, 86, 199, 75] := by kernel_rfl
theorem pub1_3 : pubN [113, 1, 0, 0, 0, 0, 0, 0] 3 = [241, 30, 197, 19, 210, 185, 195, 3] := by kernel_rfl
theorem pub1_4 : pubN [113, 1, 0, 0, 0, 0, 0, 0] 4 = [244, 17, 179, 74, 1, 202, 203, 54] := by kernel_rfl
theorem pub1_5 : pubN [113, 1, 0, 0, 0, 0, 0, 0] 5 = [106, 101, 98, 80, 42, 75, 89, 22] := by kernel_rfl
theorem pub1_6 : pubN [113, 1, 0, 0, 0, 0, 0, 0] 6 = [177, 218, 208, 155, 150, 1, 121, 172] := by kernel_rfl
theorem pub1_7 : pubN [113, 1, 0, 0, 0, 0, 0, 0] 7 = [208, 246, 89, 60, 132, 47, 8, 163] := by kernel_rfl
theorem root1 : rootN [24, 103, 56, 166, 213, 68, 131, 201] [162, 216, 153, 28, 237, 215, 27, 138] [130, 180, 169, 244, 28, 86, 199, 75] [241, 30, 197, 19, 210, 185, 195, 3] [244, 17, 179, 74, 1, 202, 203, 54] [106, 101, 98, 80, 42, 75, 89, 22] [177, 218, 208, 155, 150, 1, 121, 172] [208, 246, 89, 60, 132, 47, 8, 163] = [198, 66, 121, 243, 225, 231, 225, 136] := by kernel_rfl
theorem seed1 : nl (seedOf (1 : Nat)).toList = [113, 1, 0, 0, 0, 0, 0, 0] := by decide
theorem tree1 : nl (treeOf (seedOf (1 : Nat))).toList = [198, 66, 121, 243, 225, 231, 225, 136] := by rw [tree_nat, seed1, pub1_0, pub1_1, pub1_2, pub1_3, pub1_4, pub1_5, pub1_6, pub1_7, root1]
theorem pub2_0 : pubN [113, 2, 0, 0, 0, 0, 0, 0] 0 = [33, 255, 187, 84, 137, 93, 191, 196] := by kernel_rfl
theorem pub2_1 : pubN [113, 2, 0, 0, 0, 0, 0, 0] 1 = [14, 162, 189, 31, 23, 195, 101, 25] := by kernel_rfl
theorem pub2_2 : pubN [113, 2, 0, 0, 0, 0, 0, 0] 2 = [166, 93, 144, 216, 28, 32, 191, 0] := by kernel_rfl
theorem pub2_3 : pubN [113, 2, 0, 0, 0, 0, 0, 0] 3 = [171, 99, 17, 185, 16, 73, 246, 151] := by kernel_rfl
theorem pub2_4 : pubN [113, 2, 0, 0, 0, 0, 0, 0] 4 = [251, 167, 119, 251, 87, 129, 253, 47] := by kernel_rfl
theorem pub2_5 : pubN [113, 2, 0, 0, 0, 0, 0, 0] 5 = [58, 35, 103, 254, 209, 157, 229, 217] := by kernel_rfl
theorem pub2_6 : pubN [113, 2, 0, 0, 0, 0, 0, 0] 6 = [110, 242, 228, 153, 203, 74, 94, 94] := by kernel_rfl
theorem pub2_7 : pubN [113, 2, 0, 0, 0, 0, 0, 0] 7 = [177, 148, 97, 173, 185, 47, 203, 92] := by kernel_rfl
theorem root2 : rootN [33, 255, 187, 84, 137, 93, 191, 196] [14, 162, 189, 31, 23, 195, 101, 25] [166, 93, 144, 216, 28, 32, 191, 0] [171, 99, 17, 185, 16, 73, 246, 151] [251, 167, 119, 251, 87, 129, 253, 47] [58, 35, 103, 254, 209, 157, 229, 217] [110, 242, 228, 153, 203, 74, 94, 94] [177, 148, 97, 173, 185, 47, 203, 92] = [103, 242, 72, 14, 141, 212, 250, 235] := by kernel_rfl
theorem seed2 : nl (seedOf (2 : Nat)).toList = [113, 2, 0, 0, 0, 0, 0, 0] := by decide
theorem tree2 : nl (treeOf (seedOf (2 : Nat))).toList = [103, 242, 72, 14, 141, 212, 250, 235] := by rw [tree_nat, seed2, pub2_0, pub2_1, pub2_2, pub2_3, pub2_4, pub2_5, pub2_6, pub2_7, root2]
theorem nl_ne {a b : Hash} (h : nl a.toList ≠ nl b.toList) : a ≠ b := fun e => h (by rw [e])
theorem keys3 : keysM 3 = [treeOf (seedOf (0 : Nat)), treeOf (seedOf (1 : Nat)), treeOf (seedOf (2 : Nat))] := rfl
theorem ne0_0 : treeOf (seedOf (0 : Nat)) ≠ h0 := nl_ne (by rw [tree0]; decide)
theorem ne1_0 : treeOf (seedOf (1 : Nat)) ≠ h0 := nl_ne (by rw [tree1]; decide)
theorem ne2_0 : treeOf (seedOf (2 : Nat)) ≠ h0 := nl_ne (by rw [tree2]; decide)
theorem ne10 : treeOf (seedOf (1 : Nat)) ≠ treeOf (seedOf (0 : Nat)) := nl_ne (by rw [tree1, tree0]; decide)
theorem ne20 : treeOf (seedOf (2 : Nat)) ≠ treeOf (seedOf (0 : Nat)) := nl_ne (by rw [tree2, tree0]; decide)
theorem ne21 : treeOf (seedOf (2 : Nat)) ≠ treeOf (seedOf (1 : Nat)) := nl_ne (by rw [tree2, tree1]; decide)
theorem keys3_to {a b c : Hash} (ha : a ≠ h0) (hb : b ≠ h0) (hc : c ≠ h0) (h1 : b ≠ a) (h2 : c ≠ a) (h3 : c ≠ b) : keysTo [a, b, c] 3 := by
  intro j hj q hq
  match j, hj with
  | 0, _ => simp at hq; subst hq; exact ⟨ha, by simp⟩
  | 1, _ => simp at hq; subst hq; exact ⟨hb, by simp; exact h1⟩
  | 2, _ => simp at hq; subst hq; exact ⟨hc, by simp; exact ⟨h2, h3⟩⟩
theorem may_of {p : Par} {a b c : Hash} (hk : p.keys = [a, b, c]) (h4 : p.length = 4) (h2 : p.window = 2) (hn : p.need = 2) (ht : keysTo [a, b, c] 3) : mayP p := by
  unfold mayP
  rw [hk, h4, h2, hn]
  exact ⟨by show 1 ≤ 3; decide, by show 3 ≤ 5; decide, by decide, by show (2 : Int) ≤ ((3 : Nat) : Int); decide, ht, by decide, by decide, by decide, by decide⟩
/-- the laws' parameters may be -/
theorem made3_may : mayP (madeP 3 2) := may_of (p := ⟨4, 2, 2, keysM 3⟩) keys3 rfl rfl rfl (keys3_to ne0_0 ne1_0 ne2_0 ne10 ne20 ne21)
end Go.Db
