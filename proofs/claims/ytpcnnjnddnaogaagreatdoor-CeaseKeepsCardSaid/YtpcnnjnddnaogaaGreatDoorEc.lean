import Derived.Test.YtpcnnjnddnaogaaGreatDoorEb
import Derived.Laws.MakeOwn
set_option linter.unusedVariables false
set_option linter.unusedSimpArgs false
set_option linter.unusedSectionVars false
set_option linter.unnecessarySimpa false
set_option exponentiation.threshold 1000
namespace Go.Sx
open Go
theorem V.to {P : Program} {n : Nat} {w0 : World} {ro : Hp} {E : Env} {M : Res} {o : Oper} {v v' : Value} (h : V P n w0 ro E M o v) (e : v = v') : V P n w0 ro E M o v' := e ▸ h
end Go.Sx
namespace Go.Db
open Go Go.Sx

def rotr (x s : UInt32) : UInt32 := x <<< (32 - s) ||| x >>> s
def bw (b : List UInt8) (k : Nat) : UInt32 := (b.getD k 0).toUInt32
/-- the first so many bytes of a word -/
def wordTo (b : List UInt8) (i : Nat) : Nat → UInt32
  | 0 => 0
  | k + 1 => wordTo b i k <<< 8 ||| bw b (4 * i + k)
def nextW (l : List UInt32) (i : Nat) : UInt32 :=
  let x := l.getD (i - 15) 0
  let y := l.getD (i - 2) 0
  l.getD (i - 16) 0 + l.getD (i - 7) 0 + (rotr x 7 ^^^ rotr x 18 ^^^ x >>> 3) + (rotr y 17 ^^^ rotr y 19 ^^^ y >>> 10)
def schedTo (b : List UInt8) : Nat → List UInt32
  | 0 => []
  | i + 1 => schedTo b i ++ [if i < 16 then wordTo b i 4 else nextW (schedTo b i) i]
theorem schedTo_length (b : List UInt8) : ∀ i, (schedTo b i).length = i
  | 0 => rfl
  | i + 1 => by simp [schedTo, schedTo_length b i]
def sched (b : List UInt8) : List UInt32 := schedTo b 64

def kk : List UInt32 := [0x428a2f98, 0x71374491, 0xb5c0fbcf, 0xe9b5dba5, 0x3956c25b, 0x59f111f1, 0x923f82a4, 0xab1c5ed5,
  0xd807aa98, 0x12835b01, 0x243185be, 0x550c7dc3, 0x72be5d74, 0x80deb1fe, 0x9bdc06a7, 0xc19bf174,
  0xe49b69c1, 0xefbe4786, 0x0fc19dc6, 0x240ca1cc, 0x2de92c6f, 0x4a7484aa, 0x5cb0a9dc, 0x76f988da,
  0x983e5152, 0xa831c66d, 0xb00327c8, 0xbf597fc7, 0xc6e00bf3, 0xd5a79147, 0x06ca6351, 0x14292967,
  0x27b70a85, 0x2e1b2138, 0x4d2c6dfc, 0x53380d13, 0x650a7354, 0x766a0abb, 0x81c2c92e, 0x92722c85,
  0xa2bfe8a1, 0xa81a664b, 0xc24b8b70, 0xc76c51a3, 0xd192e819, 0xd6990624, 0xf40e3585, 0x106aa070,
  0x19a4c116, 0x1e376c08, 0x2748774c, 0x34b0bcb5, 0x391c0cb3, 0x4ed8aa4a, 0x5b9cca4f, 0x682e6ff3,
  0x748f82ee, 0x78a5636f, 0x84c87814, 0x8cc70208, 0x90befffa, 0xa4506ceb, 0xbef9a3f7, 0xc67178f2]
def hh : List UInt32 := [0x6a09e667, 0xbb67ae85, 0x3c6ef372, 0xa54ff53a, 0x510e527f, 0x9b05688c, 0x1f83d9ab, 0x5be0cd19]

def tOf (v : List UInt32) (k x : UInt32) : UInt32 :=
  let e := v.getD 4 0
  v.getD 7 0 + (rotr e 6 ^^^ rotr e 11 ^^^ rotr e 25) + (e &&& v.getD 5 0 ^^^ ~~~ e &&& v.getD 6 0) + k + x
def uOf (v : List UInt32) : UInt32 :=
  let a := v.getD 0 0
  (rotr a 2 ^^^ rotr a 13 ^^^ rotr a 22) + (a &&& v.getD 1 0 ^^^ a &&& v.getD 2 0 ^^^ v.getD 1 0 &&& v.getD 2 0)
def round (v : List UInt32) (k x : UInt32) : List UInt32 :=
  [tOf v k x + uOf v, v.getD 0 0, v.getD 1 0, v.getD 2 0, v.getD 3 0 + tOf v k x, v.getD 4 0, v.getD 5 0, v.getD 6 0]
/-- the state behind so many rounds -/
def roundsTo (h : List UInt32) (w : List UInt32) : Nat → List UInt32
  | 0 => h
  | i + 1 => round (roundsTo h w i) (kk.getD i 0) (w.getD i 0)
theorem roundsTo_length {h w : List UInt32} (hl : h.length = 8) : ∀ i, (roundsTo h w i).length = 8
  | 0 => hl
  | i + 1 => rfl
def compress (h : List UInt32) (b : List UInt8) : List UInt32 := List.zipWith (· + ·) h (roundsTo h (sched b) 64)
theorem compress_length {h : List UInt32} {b : List UInt8} (hl : h.length = 8) : (compress h b).length = 8 := by simp [compress, hl, roundsTo_length hl]

/-- the noughts that stand behind so many bytes -/
def zeros (n : Nat) : Nat := (119 - n % 64) % 64
def len8 (n : Nat) : List UInt8 := [(n * 8 / 2 ^ 56).toUInt8, (n * 8 / 2 ^ 48).toUInt8, (n * 8 / 2 ^ 40).toUInt8, (n * 8 / 2 ^ 32).toUInt8, (n * 8 / 2 ^ 24).toUInt8, (n * 8 / 2 ^ 16).toUInt8, (n * 8 / 2 ^ 8).toUInt8, (n * 8).toUInt8]
def padded (b : List UInt8) : List UInt8 := b ++ 0x80 :: List.replicate (zeros b.length) 0 ++ len8 b.length
/-- block behind block -/
def digestTo (m : List UInt8) : Nat → List UInt32
  | 0 => hh
  | k + 1 => compress (digestTo m k) ((m.drop (64 * k)).take 64)
theorem digestTo_length (m : List UInt8) : ∀ k, (digestTo m k).length = 8
  | 0 => rfl
  | k + 1 => compress_length (digestTo_length m k)
def outB (h : List UInt32) (i : Nat) : UInt8 := (h.getD (i / 4) 0 >>> (24 - (i % 4).toUInt32 * 8)).toUInt8
def sha (b : List UInt8) : List UInt8 := (List.range 32).map (outB (digestTo (padded b) ((padded b).length / 64)))
theorem sha_length (b : List UInt8) : (sha b).length = 32 := by simp [sha]
def le4 (n : Nat) : List UInt8 := [n.toUInt8, (n / 2 ^ 8).toUInt8, (n / 2 ^ 16).toUInt8, (n / 2 ^ 24).toUInt8]
def packed (parts : List (List UInt8)) : List UInt8 := parts.flatMap fun p => le4 p.length ++ p
def hOf (p : UInt8) (parts : List (List UInt8)) : Hash := ⟨((sha (p :: packed parts)).take 8).toArray, by simp [sha_length]⟩
def two (p : UInt8) (a b : Hash) : Hash := hOf p [a.toList, b.toList]
def over (a b : Hash) : Hash := if a = h0 ∧ b = h0 then h0 else two 110 a b
end Go.Db
namespace Go.Db
theorem sched_length (b : List UInt8) : (sched b).length = 64 := schedTo_length b 64
end Go.Db
namespace Go.Db
open Go Go.Sx
theorem sub32 (s : UInt32) (h1 : s.toNat < 32) : (32 - s).toNat = 32 - s.toNat := by
  rw [UInt32.toNat_sub]; simp; omega
theorem rot1 (s : UInt32) (h0 : 0 < s.toNat) (h1 : s.toNat < 32) : Value.int .u64 (IntKind.u64.wrap (-(s.toNat : Int))) = .int .u64 ((18446744073709551616 - s.toNat : Nat) : Int) := by
  rw [IntKind.wrap_u64]; congr 1; omega
theorem rot2 (s : UInt32) (h0 : 0 < s.toNat) (h1 : s.toNat < 32) : Value.int .u64 (((18446744073709551616 - s.toNat) &&& 31 : Nat) : Int) = .int .u64 ((32 - s : UInt32).toNat : Int) := by
  rw [sub32 s h1, show (31 : Nat) = 2 ^ 5 - 1 from rfl, Nat.and_two_pow_sub_one_eq_mod]; congr 1; omega
theorem rot3 (s : UInt32) (h0 : 0 < s.toNat) (h1 : s.toNat < 32) : (32 - s : UInt32).toNat < 32 := by rw [sub32 s h1]; omega
theorem rot4 (s : UInt32) (h0 : 0 < s.toNat) (h1 : s.toNat < 32) : Value.int .u64 (IntKind.u64.wrap (32 - ((32 - s : UInt32).toNat : Int))) = .int .u64 (s.toNat : Int) := by
  rw [sub32 s h1, IntKind.wrap_u64]; congr 1; omega
theorem rot5 (s : UInt32) (h1 : s.toNat < 32) : Value.int .i64 (IntKind.i64.wrap (0 - (s.toNat : Int))) = .int .i64 (-(s.toNat : Int)) := by
  rw [wrap_in _ (by omega) (by omega)]; congr 1; omega

theorem bys_get {b : List UInt8} {k : Nat} (h : k < b.length) : (bys b)[k]? = some [bv (b.getD k 0)] := by simp [bys, h]
theorem bys_sub {b : List UInt8} {lo m : Nat} : ((bys b).drop lo).take m = bys ((b.drop lo).take m) := by simp [bys, List.map_drop, List.map_take]
/-- the words so far, the one that is being made, and noughts -/
def spr (b : List UInt8) (i : Nat) (w : UInt32) : List UInt32 := schedTo b i ++ w :: List.replicate (63 - i) 0
def spr0 (b : List UInt8) (i : Nat) : List UInt32 := schedTo b i ++ List.replicate (64 - i) 0
theorem spr0_eq (b : List UInt8) {i : Nat} (h : i < 64) : spr0 b i = spr b i 0 := by
  unfold spr0 spr
  rw [show 64 - i = (63 - i) + 1 from by omega, List.replicate_succ]
theorem spr_length (b : List UInt8) {i : Nat} (h : i < 64) (w : UInt32) : (spr b i w).length = 64 := by simp [spr, schedTo_length]; omega
theorem spr0_length (b : List UInt8) {i : Nat} (h : i ≤ 64) : (spr0 b i).length = 64 := by simp [spr0, schedTo_length]; omega
theorem spr_at (b : List UInt8) (i : Nat) (w : UInt32) : (spr b i w)[i]? = some w := by
  unfold spr; rw [List.getElem?_append_right (by rw [schedTo_length]; omega), schedTo_length]; simp
theorem spr_set (b : List UInt8) (i : Nat) (w x : UInt32) : (spr b i w).set i x = spr b i x := by
  unfold spr; rw [List.set_append_right _ _ (by rw [schedTo_length]; omega), schedTo_length]; simp
theorem spr_old (b : List UInt8) {i j : Nat} (w : UInt32) (h : j < i) : (spr b i w)[j]? = some ((schedTo b i).getD j 0) := by
  unfold spr; rw [List.getElem?_append_left (by rw [schedTo_length]; omega)]; simp [schedTo_length, h]
theorem spr_next (b : List UInt8) (i : Nat) {w : UInt32} (h : w = if i < 16 then wordTo b i 4 else nextW (schedTo b i) i) : spr b i w = spr0 b (i + 1) := by
  unfold spr spr0; rw [schedTo, ← h]; simp
theorem spr0_64 (b : List UInt8) : spr0 b 64 = sched b := by simp [spr0, sched]
end Go.Db
namespace Go.Db
open Go Go.Sx
theorem eight {α : Type} {l : List α} (h : l.length = 8) : ∃ a0 a1 a2 a3 a4 a5 a6 a7, l = [a0, a1, a2, a3, a4, a5, a6, a7] := by
  match l, h with
  | [a0, a1, a2, a3, a4, a5, a6, a7], _ => exact ⟨a0, a1, a2, a3, a4, a5, a6, a7, rfl⟩
theorem getD_some {α : Type} {l : List α} {i : Nat} {d : α} (h : i < l.length) : l[i]? = some (l.getD i d) := by simp [h]
/-- the sum so far -/
def cto (h : List UInt32) (b : List UInt8) (i : Nat) : List UInt32 := (compress h b).take i ++ h.drop i
theorem cto0 {h : List UInt32} {b : List UInt8} : cto h b 0 = h := by simp [cto]
theorem cto8 {h : List UInt32} {b : List UInt8} (hl : h.length = 8) : cto h b 8 = compress h b := by
  have h1 := compress_length (b := b) hl
  simp [cto, ← h1]; omega
theorem cto_at {h : List UInt32} {b : List UInt8} {i : Nat} (hl : h.length = 8) (hi : i < 8) : (cto h b i)[i]? = some (h.getD i 0) := by
  have h1 := compress_length (b := b) hl
  unfold cto
  rw [List.getElem?_append_right (by simp [h1]; omega)]
  simp [h1, hl, hi, Nat.min_eq_left (Nat.le_of_lt hi)]
theorem cto_set {h : List UInt32} {b : List UInt8} {i : Nat} (hl : h.length = 8) (hi : i < 8) :
    (cto h b i).set i (h.getD i 0 + (roundsTo h (sched b) 64).getD i 0) = cto h b (i + 1) := by
  have h1 := compress_length (b := b) hl
  have h2 : (roundsTo h (sched b) 64).length = 8 := roundsTo_length hl 64
  unfold cto
  rw [List.set_append_right _ _ (by simp [h1]; omega)]
  have e : i - ((compress h b).take i).length = 0 := by simp [h1]; omega
  rw [e, List.drop_eq_getElem_cons (by omega), List.set_cons_zero]
  rw [List.take_succ_eq_append_getElem (by omega)]
  simp [compress, hl, h2, hi]
theorem ones_words (l : List UInt32) : Ones (l.map wv) := by
  intro v hv
  obtain ⟨b, _, rfl⟩ := List.mem_map.1 hv
  rfl
theorem seven_get {a0 a1 a2 a3 a4 a5 a6 a7 : UInt32} {j : Nat} {u : Value} (h : [wv a0, wv a1, wv a2, wv a3, wv a4, wv a5, wv a6][j]? = some u) :
    (flat (uni wv 1 [a0, a1, a2, a3, a4, a5, a6, a7]))[0 + 0 * 1 + j]? = some u := by
  rw [flat_uni1 (fun _ => rfl)]
  match j, h with
  | 0, h => exact h
  | 1, h => exact h
  | 2, h => exact h
  | 3, h => exact h
  | 4, h => exact h
  | 5, h => exact h
  | 6, h => exact h
/-- the table of the rounds' numbers stands where it was laid -/
def RoK (ro : Hp) : Prop := ∃ T fr, ro 0 = some (.cells (kk.map wv).toArray T fr)
theorem RoK.mono {a b : Hp} (h : RoK a) (l : Hp.le a b) : RoK b := let ⟨T, fr, h⟩ := h; ⟨T, fr, l _ _ h⟩
theorem V.ldK {P : Program} {n : Nat} {w0 : World} {ro : Hp} {E : Env} {M : Res} {dst : Option Tmp} {ty T : TypeId} {pos : String} {af : Array Edge} {g : Option (Nat × Bool)} {x : Operand} {off : Nat} {u : UInt32}
    (hK : RoK ro) (hx : opnd E x = some (.pointer (some ⟨0, off, none⟩))) (hi : kk[off]? = some u) (hT : Sc P T) : V P n w0 ro E M ⟨dst, .load T x, ty, pos, af, g⟩ (wv u) :=
  .of_run fun a W f iv => by
    obtain ⟨T1, fr, h⟩ := hK
    have := run_loadVar_sc (off := off) hT (iv.roLe _ _ h) (v := wv u) (by simp [hi])
    simp [execOp, f.eval hx, Instr.loadAt, Instr.sureAddr, this]
end Go.Db
namespace Go.Db
open Go Go.Sx
theorem start_parts : ∀ p ∈ ([0, 1, 2, 3, 4, 5, 6, 7].zip [Value.int .u32 1779033703, .int .u32 3144134277, .int .u32 1013904242, .int .u32 2773480762, .int .u32 1359893119, .int .u32 2600822924, .int .u32 528734635, .int .u32 1541459225] : List (Nat × Value)),
    p.1 < 8 ∧ p.2.cells.size = 1 := by
  intro p hp
  simp only [List.zip_cons_cons, List.zip_nil_right, List.mem_cons, List.not_mem_nil, or_false] at hp
  rcases hp with rfl | rfl | rfl | rfl | rfl | rfl | rfl | rfl <;> exact ⟨by decide, rfl⟩
theorem bys_append (a b : List UInt8) : bys (a ++ b) = bys a ++ bys b := by simp [bys]
theorem sum_start (b : List UInt8) (v : Value) (xs : List (List Value)) (h : xs = bys b ++ [[Value.int .u8 128]]) : Ow v 5 1 xs = Ow v 5 1 (bys (b ++ 128 :: List.replicate 0 0)) := by
  subst h; rw [bys_append]; rfl
end Go.Db
namespace Go.Db
open Go Go.Sx
theorem sum_start' {e : Nat} (b : List UInt8) (v : Value) (xs : List (List Value)) (h : xs = bys b ++ [[Value.int .u8 128]]) : Ow v e 1 xs = Ow v e 1 (bys (b ++ 128 :: List.replicate 0 0)) := by
  subst h; rw [bys_append]; rfl
theorem sum_zero {e : Nat} (b : List UInt8) (z : Nat) (v : Value) (xs : List (List Value)) (h : xs = bys (b ++ 128 :: List.replicate z 0) ++ [[Value.int .u8 0]]) :
    Ow v e 1 xs = Ow v e 1 (bys (b ++ 128 :: List.replicate (z + 1) 0)) := by
  subst h
  rw [List.replicate_succ', show (128 :: (List.replicate z (0 : UInt8) ++ [0])) = (128 :: List.replicate z 0) ++ [0] from rfl, ← List.append_assoc, bys_append (b ++ _)]; rfl
theorem zeros_le (n : Nat) : zeros n < 64 := by unfold zeros; omega
theorem sum_t (b : List UInt8) (z : Nat) (hz : z ≤ zeros b.length) (h : ¬ ((bys (b ++ 128 :: List.replicate z 0)).length : Int) % 64 = 56) : z < zeros b.length := by
  have e : (bys (b ++ 128 :: List.replicate z 0)).length = b.length + (z + 1) := by simp [bys]
  rw [e] at h
  unfold zeros at *
  omega
theorem sum_f (b : List UInt8) (z : Nat) (hz : z ≤ zeros b.length) (h : ¬ ¬ ((bys (b ++ 128 :: List.replicate z 0)).length : Int) % 64 = 56) : z = zeros b.length := by
  have e : (bys (b ++ 128 :: List.replicate z 0)).length = b.length + (z + 1) := by simp [bys]
  rw [e] at h
  unfold zeros at *
  omega
theorem len8_length (n : Nat) : (len8 n).length = 8 := rfl
theorem sum_len {e : Nat} (b : List UInt8) (k : Nat) (v : Value) (zs : List UInt8) (xs : List (List Value)) (hk : k < 8)
    (h : xs = bys (b ++ 128 :: (zs ++ (len8 b.length).take k)) ++ [[bv ((len8 b.length).getD k 0)]]) : Ow v e 1 xs = Ow v e 1 (bys (b ++ 128 :: (zs ++ (len8 b.length).take (k + 1)))) := by
  subst h
  have e1 : (len8 b.length).take (k + 1) = (len8 b.length).take k ++ [(len8 b.length).getD k 0] := by
    rw [List.take_add_one, getD_some (d := 0) (by rw [len8_length]; exact hk)]; rfl
  rw [e1, show (128 :: (zs ++ ((len8 b.length).take k ++ [(len8 b.length).getD k 0]))) = (128 :: (zs ++ (len8 b.length).take k)) ++ [(len8 b.length).getD k 0] from by simp, ← List.append_assoc, bys_append (b ++ _)]; rfl
theorem sum_u64 (b : List UInt8) (hl : b.length ≤ 1099511627776) : Value.int .u64 (IntKind.u64.wrap ((bys b).length : Int)) = .int .u64 (b.length : Int) := by
  rw [bys_length, IntKind.wrap_u64]; congr 1; omega
theorem sum_shl (b : List UInt8) (hl : b.length ≤ 1099511627776) : Value.int .u64 (IntKind.u64.wrap ((b.length : Int) * 2 ^ ((3 : Int).toNat))) = .int .u64 ((b.length * 8 : Nat) : Int) := by
  rw [IntKind.wrap_u64, show (2 : Int) ^ ((3 : Int).toNat) = 8 from rfl]; congr 1; omega
theorem byte_of (n : Nat) : Value.int .u8 (IntKind.u8.wrap (n : Int)) = bv n.toUInt8 := by
  rw [wrap8]; simp [bv]
theorem sum_byte (b : List UInt8) (k : Nat) (hl : b.length ≤ 1099511627776) (hk : k < 8) :
    Value.int .u8 (IntKind.u8.wrap (((b.length * 8 : Nat) : Int) / 2 ^ ((8 * (7 - (k : Int))).toNat))) = bv ((len8 b.length).getD k 0) := by
  have e : ∀ m : Nat, (((b.length * 8 : Nat) : Int) / 2 ^ m) = ((b.length * 8 / 2 ^ m : Nat) : Int) := fun m => by simp
  rw [e, byte_of]
  match k, hk with
  | 0, _ => rfl
  | 1, _ => rfl
  | 2, _ => rfl
  | 3, _ => rfl
  | 4, _ => rfl
  | 5, _ => rfl
  | 6, _ => rfl
  | 7, _ => simp [len8]
theorem sum_b1 (b : List UInt8) (z : Nat) (vs : List (List Value)) (h1 : vs.length = 1) (hl : b.length ≤ 1099511627776) (hz : z < zeros b.length) : ((bys (b ++ 128 :: List.replicate z 0)).length + vs.length) * 1 ≤ 140737488355328 ∧ (bys (b ++ 128 :: List.replicate z 0)).length + vs.length ≤ maxLen := by
  have e : (bys (b ++ 128 :: List.replicate z 0)).length = b.length + (z + 1) := by simp [bys]
  have := zeros_le b.length
  rw [e, h1]; unfold maxLen; omega
theorem sum_b3 (b : List UInt8) (k : Nat) (vs : List (List Value)) (h1 : vs.length = 1) (hl : b.length ≤ 1099511627776) :
    ((bys (b ++ 128 :: (List.replicate (zeros b.length) 0 ++ (len8 b.length).take k))).length + vs.length) * 1 ≤ 140737488355328 ∧ (bys (b ++ 128 :: (List.replicate (zeros b.length) 0 ++ (len8 b.length).take k))).length + vs.length ≤ maxLen := by
  have e : (bys (b ++ 128 :: (List.replicate (zeros b.length) 0 ++ (len8 b.length).take k))).length = b.length + (zeros b.length + min k 8 + 1) := by simp [bys, len8_length]
  have := zeros_le b.length
  rw [e, h1]; unfold maxLen; omega
theorem sum_pad (b : List UInt8) : b ++ 128 :: (List.replicate (zeros b.length) 0 ++ (len8 b.length).take 8) = padded b := by
  simp [padded, len8]
theorem padded_length (b : List UInt8) : (padded b).length = b.length + 9 + zeros b.length := by simp [padded, len8_length]; omega
theorem padded_mod (b : List UInt8) : (padded b).length % 64 = 0 := by rw [padded_length]; unfold zeros; omega
theorem bys_take (l : List UInt8) (m : Nat) : (bys l).take m = bys (l.take m) := by simp [bys, List.map_take]
theorem bys_drop (l : List UInt8) (m : Nat) : (bys l).drop m = bys (l.drop m) := by simp [bys, List.map_drop]
theorem sum_more (b : List UInt8) (k : Nat) (hk : 64 * k ≤ (padded b).length) (h : (0 : Int) < ((bys ((padded b).drop (64 * k))).length : Int)) : 64 ≤ (padded b).length - 64 * k := by
  have := padded_mod b
  rw [bys_length, List.length_drop] at h; omega
theorem sum_done (b : List UInt8) (k : Nat) (hk : 64 * k ≤ (padded b).length) (h : ¬ (0 : Int) < ((bys ((padded b).drop (64 * k))).length : Int)) : k = (padded b).length / 64 := by
  have := padded_mod b
  rw [bys_length, List.length_drop] at h; omega
theorem sum_chunk {ro : Hp} {q : Value} {l : List UInt8} (hq : RS ro q 1 (bys l)) (h : 64 ≤ l.length) : RS ro (subS q 0 64 1) 1 (bys (l.take 64)) := by
  have := hq.sub (lo := 0) (hi := 64) (by omega) (by rw [bys_length]; exact h)
  rwa [List.drop_zero, Nat.sub_zero, bys_take] at this
theorem sum_rest {ro : Hp} {q : Value} {m : List UInt8} {k : Nat} (hq : RS ro q 1 (bys (m.drop (64 * k)))) (h : 64 ≤ m.length - 64 * k) : RS ro (subS q 64 (m.length - 64 * k) 1) 1 (bys (m.drop (64 * (k + 1)))) := by
  have := hq.sub (lo := 64) (hi := m.length - 64 * k) h (by rw [bys_length, List.length_drop]; exact Nat.le_refl _)
  rw [bys_drop, List.drop_drop, bys_take] at this
  rw [List.take_of_length_le (by rw [List.length_drop]; omega)] at this
  rwa [show 64 * (k + 1) = 64 * k + 64 from by omega]
def shto (b : List UInt8) (i : Nat) : List UInt8 := (sha b).take i ++ List.replicate (32 - i) 0
theorem shto_32 (b : List UInt8) : shto b 32 = sha b := by simp [shto, sha_length, List.take_of_length_le]
theorem shto_length (b : List UInt8) (i : Nat) (hi : i ≤ 32) : (shto b i).length = 32 := by simp [shto, sha_length]; omega
theorem shto_at (b : List UInt8) {i : Nat} (hi : i < 32) : (shto b i)[i]? = some 0 := by
  have hl : ((sha b).take i).length = i := by simp [sha_length]; omega
  unfold shto
  rw [List.getElem?_append_right (by rw [hl]; exact Nat.le_refl _), hl, Nat.sub_self, List.getElem?_replicate, if_pos (by omega)]
theorem shto_set (b : List UInt8) {i : Nat} (hi : i < 32) : (shto b i).set i ((digestTo (padded b) ((padded b).length / 64)).getD (i / 4) 0 >>> (24 - (i % 4).toUInt32 * 8)).toUInt8 = shto b (i + 1) := by
  have hl : ((sha b).take i).length = i := by simp [sha_length]; omega
  have he : (sha b)[i]? = some (outB (digestTo (padded b) ((padded b).length / 64)) i) := by simp [sha, hi]
  obtain ⟨h1, h2⟩ := List.getElem?_eq_some_iff.1 he
  unfold shto
  rw [List.set_append_right _ _ (by rw [hl]; exact Nat.le_refl _), hl, Nat.sub_self, show 32 - i = (32 - (i + 1)) + 1 from by omega, List.replicate_succ, List.set_cons_zero]
  rw [List.take_succ_eq_append_getElem h1, h2, List.append_assoc]; rfl
theorem out_mod (i : Nat) : ((i % 4).toUInt32).toNat = i % 4 := by
  have : i % 4 < 4 := Nat.mod_lt _ (by omega)
  simp; omega
theorem out_nat (i : Nat) : (24 - (i % 4).toUInt32 * 8 : UInt32).toNat = 24 - i % 4 * 8 := by
  have h4 : i % 4 < 4 := Nat.mod_lt _ (by omega)
  rw [UInt32.toNat_sub, UInt32.toNat_mul, out_mod]
  simp; omega
theorem out_shift (i : Nat) : Value.int .i64 (24 - (i : Int) % 4 * 8) = .int .i64 ((24 - (i % 4).toUInt32 * 8 : UInt32).toNat : Int) := by
  rw [out_nat]; congr 1; omega
theorem out_lt (i : Nat) : (24 - (i % 4).toUInt32 * 8 : UInt32).toNat < 32 := by rw [out_nat]; omega
end Go.Db
namespace Go.Db
open Go Go.Sx
/-- a slice of slices of bytes -/
def PS (ro : Hp) (v : Value) (ps : List (List UInt8)) : Prop :=
  ∃ rows : List (List Value), RS ro v 1 rows ∧ rows.length = ps.length ∧ ∀ (i : Nat) (p : List UInt8), ps[i]? = some p → ∃ q, rows[i]? = some [q] ∧ RS ro q 1 (bys p)
theorem PS.mono {ro ro' : Hp} {v : Value} {ps : List (List UInt8)} (h : PS ro v ps) (l : Hp.le ro ro') : PS ro' v ps := by
  obtain ⟨rows, h1, h2, h3⟩ := h
  refine ⟨rows, h1.mono l, h2, fun i p hp => ?_⟩
  obtain ⟨q, a, b⟩ := h3 i p hp
  exact ⟨q, a, b.mono l⟩
theorem packed_succ {ps : List (List UInt8)} {i : Nat} {p : List UInt8} (h : ps[i]? = some p) : packed (ps.take (i + 1)) = packed (ps.take i) ++ (le4 p.length ++ p) := by
  rw [List.take_add_one, h]; simp [packed]
theorem packed_le {ps : List (List UInt8)} {i : Nat} {p : List UInt8} (h : ps[i]? = some p) : (packed (ps.take i)).length + 4 + p.length ≤ (packed ps).length := by
  have e : packed ps = packed (ps.take (i + 1)) ++ packed (ps.drop (i + 1)) := by
    unfold packed; rw [← List.flatMap_append, List.take_append_drop]
  rw [e, packed_succ h]; simp [le4]; omega
theorem packed_len (ps : List (List UInt8)) : 4 * ps.length ≤ (packed ps).length := by
  induction ps with
  | nil => exact Nat.le_refl _
  | cons p ps ih => unfold packed at ih ⊢; simp [List.flatMap_cons, le4] at ih ⊢; omega
theorem of_step {e : Nat} {x : UInt8} {ps : List (List UInt8)} {i : Nat} {p : List UInt8} (h : ps[i]? = some p) (v : Value) :
    Ow v e 1 (bys (x :: packed (ps.take i)) ++ bys (le4 p.length) ++ bys p) = Ow v e 1 (bys (x :: packed (ps.take (i + 1)))) := by
  rw [packed_succ h, ← bys_append, ← bys_append, List.append_assoc]; rfl
theorem of_byte (n m : Nat) : Value.int .u8 (IntKind.u8.wrap (((n : Int)) / 2 ^ m)) = bv ((n / 2 ^ m).toUInt8) := by
  rw [show ((n : Int) / 2 ^ m) = ((n / 2 ^ m : Nat) : Int) from by simp, byte_of]
theorem flat_bytes (l : List UInt8) : flat (uni bv 1 l) = l.map bv := flat_uni1 (fun _ => rfl) l
theorem hOf_hc (x : UInt8) (ps : List (List UInt8)) : hc (hOf x ps) = ((sha (x :: packed ps)).take 8).map bv := by simp [hc, hOf]
theorem flat_h (h : Hash) : flat [(8, hv h)] = hc h := by simp [flat, hv, Value.cells]
theorem of_flat (x : UInt8) (ps : List (List UInt8)) : flat [(8, hv (hOf x ps))] = (flat [(8, hv h0)]).take (0 + 0 * 1) ++ ((sha (x :: packed ps)).take 8).map bv ++ (flat [(8, hv h0)]).drop (0 + 0 * 1 + (((sha (x :: packed ps)).take 8).map bv).length) := by
  rw [flat_h, hOf_hc, flat_h]
  have : (hc h0).length = 8 := hc_length _
  simp [sha_length]
  omega
theorem of_src {b : List UInt8} {j : Nat} {u : Value} (h : (((sha b).take 8).map bv)[j]? = some u) : (flat (uni bv 1 (sha b)))[(0 + 0 * 1) + j]? = some u := by
  rw [flat_bytes]
  simp only [List.getElem?_map, List.getElem?_take] at h ⊢
  split at h
  · simpa using h
  · simp at h
theorem rs_hash {ro : Hp} {b T : Nat} {h : Hash} (hb : ro b = some (.cells (flat [(8, hv h)]).toArray T (0, 0))) : RS ro (.slice (some ⟨b, 0 + 0 * 1, none⟩) (8 - 0) (8 - 0)) 1 (bys h.toList) := by
  refine RS.box hb (by simp [bys]) (by omega) (fun x hx => ?_) fun i x hx j u hu => ?_
  · obtain ⟨c, _, rfl⟩ := List.mem_map.1 hx
    exact ⟨rfl, by intro v hv; simp at hv; subst hv; rfl⟩
  · rw [flat_h]
    unfold bys at hx
    rw [List.getElem?_map] at hx
    obtain ⟨c, hc1, rfl⟩ := Option.map_eq_some_iff.1 hx
    have hj := (List.getElem?_eq_some_iff.1 hu).1
    obtain rfl : j = 0 := by simpa using hj
    simp at hu; subst hu
    simp only [hc, List.getElem?_map]
    rw [show 0 + 0 * 1 + i * 1 + 0 = i from by omega, hc1]; rfl
theorem ps_two {ro : Hp} {v q1 q2 : Value} {a b : Hash} (h : RS ro v 1 [[q1], [q2]]) (h1 : RS ro q1 1 (bys a.toList)) (h2 : RS ro q2 1 (bys b.toList)) : PS ro v [a.toList, b.toList] :=
  ⟨_, h, rfl, fun i p hp => by
    match i, hp with
    | 0, hp => simp at hp; subst hp; exact ⟨q1, rfl, h1⟩
    | 1, hp => simp at hp; subst hp; exact ⟨q2, rfl, h2⟩
    | i + 2, hp => simp at hp⟩
theorem st_ro {ro k : Hp} {b T : Nat} {vs : Lv} (h : St b vs T k) (l : Hp.le k ro) : ro b = some (.cells (flat vs).toArray T (0, 0)) := l _ _ h.1
end Go.Db
namespace Go.Sx
open Go
theorem fillL_range {α : Type} {enc : α → Value} (hc : ∀ x, (enc x).cells = #[enc x]) : ∀ (m k : Nat) (cs : List Value) (l : List α), l.length = m → cs.length = k + m →
    fillL 1 cs ((List.range' k m).zip (l.map enc)) = cs.take k ++ l.map enc
  | 0, k, cs, l, h1, h2 => by
    obtain rfl := List.eq_nil_of_length_eq_zero h1
    simp [fillL, List.take_of_length_le (show cs.length ≤ k by omega)]
  | m + 1, k, cs, [], h1, h2 => by simp at h1
  | m + 1, k, cs, x :: l, h1, h2 => by
    rw [List.range'_succ, List.map_cons, List.zip_cons_cons, fillL, fillL_range hc m (k + 1) _ l (by simpa using h1) (by simp [hc]; omega)]
    have e1 : (cs.take (k * 1) ++ (enc x).cells.toList).length = k + 1 := by simp [hc]; omega
    rw [List.take_left' e1]; simp [hc]
theorem V.bldU {α : Type} {enc : α → Value} {P : Program} {n : Nat} {w0 : World} {ro : Hp} {E : Env} {M : Res} {dst : Option Tmp} {T ty : TypeId} {pos : String} {af : Array Edge} {g : Option (Nat × Bool)}
    {len e : Nat} {ps : List (Nat × Operand)} {l : List α} {zs : Lv} (hT : Ar P T len e 1) (hx : opnds E (ps.map (·.2)) = some (l.map enc)) (hz : Zr P T zs) (hzl : (flat zs).length = len)
    (hi : ps.map (·.1) = List.range len) (hl : l.length = len) (hc : ∀ x, (enc x).cells = #[enc x]) : V P n w0 ro E M ⟨dst, .build T ps.toArray, ty, pos, af, g⟩ (ag (uni enc 1 l)) := by
  have h := V.bldA (n := n) (w0 := w0) (ro := ro) (M := M) (dst := dst) (ty := ty) (pos := pos) (af := af) (g := g) (cs := flat zs) (cs' := l.map enc) hT hx hz (by omega) (fun p hp => ?_) ?_
  · rw [← flat_uni1 hc l] at h; exact h
  · rw [hi] at hp
    obtain ⟨h1, h2⟩ := List.of_mem_zip hp
    obtain ⟨x, _, hx2⟩ := List.mem_map.1 h2
    exact ⟨List.mem_range.1 h1, by rw [← hx2, hc]; rfl⟩
  · rw [hi, List.range_eq_range', fillL_range hc len 0 _ l hl (by omega)]; simp
end Go.Sx
namespace Go.Db
open Go Go.Sx
theorem turn1 (s : UInt32) (h1 : s.toNat < 32) : Value.int .u64 (IntKind.u64.wrap (32 - (s.toNat : Int))) = .int .u64 ((32 - s : UInt32).toNat : Int) := by
  rw [sub32 s h1, IntKind.wrap_u64]; congr 1; omega
theorem turn2 (x s : UInt32) : wv (x >>> s ||| x <<< (32 - s)) = wv (rotr x s) := by rw [rotr, UInt32.or_comm]
def chunk (b : List UInt8) (k : Nat) : List UInt8 := ((padded b).drop (64 * k)).take 64
theorem chunk_length {b : List UInt8} {k : Nat} (h : 64 * k < (padded b).length) : (chunk b k).length = 64 := by
  have := padded_mod b; simp [chunk]; omega
theorem chunk_get {b : List UInt8} {k i j : Nat} {e : Int} (h : 64 * k < (padded b).length) (hi : i < 16) (hj : j < 4) (he : e = ((64 * k + 4 * i + j : Nat) : Int)) :
    (bys (padded b))[e.toNat]? = some [bv ((chunk b k).getD (4 * i + j) 0)] := by
  subst he
  have h2 := padded_mod b
  have h3 : 64 * k + 4 * i + j < (padded b).length := by omega
  rw [Int.toNat_natCast, bys_get h3]
  have e : (padded b).getD (64 * k + 4 * i + j) 0 = (chunk b k).getD (4 * i + j) 0 := by
    simp only [chunk, List.getD_eq_getElem?_getD, List.getElem?_take, List.getElem?_drop, show 4 * i + j < 64 from by omega, if_true]
    rw [Nat.add_assoc]
  rw [e]
theorem word_eq (b : List UInt8) (i : Nat) (a0 a1 a2 a3 : UInt8) (h0 : a0 = b.getD (4 * i + 0) 0) (h1 : a1 = b.getD (4 * i + 1) 0) (h2 : a2 = b.getD (4 * i + 2) 0) (h3 : a3 = b.getD (4 * i + 3) 0) :
    a0.toUInt32 <<< 24 ||| a1.toUInt32 <<< 16 ||| a2.toUInt32 <<< 8 ||| a3.toUInt32 = wordTo b i 4 := by
  subst h0 h1 h2 h3
  simp only [wordTo, bw]
  generalize (b.getD (4 * i + 0) 0).toUInt32 = x0
  generalize (b.getD (4 * i + 1) 0).toUInt32 = x1
  generalize (b.getD (4 * i + 2) 0).toUInt32 = x2
  generalize (b.getD (4 * i + 3) 0).toUInt32 = x3
  have e16 : x1 <<< 16 = x1 <<< 8 <<< 8 := UInt32.shiftLeft_add (a := x1) (b := 8) (c := 8) (by decide) (by decide) (by decide)
  have e24 : x0 <<< 24 = x0 <<< 8 <<< 8 <<< 8 := by
    rw [← UInt32.shiftLeft_add (a := x0) (b := 8) (c := 8) (by decide) (by decide) (by decide)]
    exact UInt32.shiftLeft_add (a := x0) (b := 16) (c := 8) (by decide) (by decide) (by decide)
  rw [e16, e24, UInt32.zero_shiftLeft, UInt32.zero_or, UInt32.shiftLeft_or, UInt32.shiftLeft_or, UInt32.shiftLeft_or]
theorem sched_eq (b : List UInt8) (i : Nat) (h : 16 ≤ i) {w : UInt32} (e : w = (schedTo b i).getD (i - 16) 0 + (rotr ((schedTo b i).getD (i - 15) 0) 7 ^^^ rotr ((schedTo b i).getD (i - 15) 0) 18 ^^^ (schedTo b i).getD (i - 15) 0 >>> 3) + (schedTo b i).getD (i - 7) 0
    + (rotr ((schedTo b i).getD (i - 2) 0) 17 ^^^ rotr ((schedTo b i).getD (i - 2) 0) 19 ^^^ (schedTo b i).getD (i - 2) 0 >>> 10)) : w = if i < 16 then wordTo b i 4 else nextW (schedTo b i) i := by
  rw [if_neg (by omega), e, nextW]
  ac_rfl
theorem mul8_u64 (b : List UInt8) (hl : b.length ≤ 1099511627776) : Value.int .u64 (IntKind.u64.wrap ((b.length : Int) * 8)) = .int .u64 ((b.length * 8 : Nat) : Int) := by
  rw [IntKind.wrap_u64]; congr 1; omega
theorem amt_u64 {e : Int} (h0 : 0 ≤ e) (h1 : e < 64) : Value.int .u64 (IntKind.u64.wrap e) = .int .u64 e := by
  rw [IntKind.wrap_u64]; congr 1; omega
theorem out_shiftR (i : Nat) : Value.int .u64 (IntKind.u64.wrap (24 - 8 * ((i : Int) % 4))) = .int .u64 ((24 - (i % 4).toUInt32 * 8 : UInt32).toNat : Int) := by
  rw [out_nat, IntKind.wrap_u64]; congr 1; omega
end Go.Db
namespace Go.Db
open Go Go.Sx
theorem len_u64 (b : List UInt8) (hl : b.length ≤ 1099511627776) : Value.int .u64 (IntKind.u64.wrap (b.length : Int)) = .int .u64 (b.length : Int) := by
  rw [IntKind.wrap_u64]; congr 1; omega
end Go.Db
namespace Go.Db
open Go Go.Sx
def byteI (x : Int) : UInt8 := UInt8.ofNat (x % 256).toNat
theorem byteI_of (x : Int) : Value.int .u8 (IntKind.u8.wrap x) = bv (byteI x) := by
  rw [wrap8]; unfold bv byteI; congr 1
  simp; omega
def numB (n : Int) (w : Nat) : List UInt8 := (List.range w).map fun i => byteI (n / 2 ^ (8 * i))
theorem numB_length (n : Int) (w : Nat) : (numB n w).length = w := by simp [numB]
theorem numB_succ (n : Int) (w : Nat) : numB n (w + 1) = numB n w ++ [byteI (n / 2 ^ (8 * w))] := by simp [numB, List.range_succ]
theorem num_byte (n : Int) (i : Nat) : Value.int .u8 (IntKind.u8.wrap (n / 2 ^ ((8 * (i : Int)).toNat))) = bv (byteI (n / 2 ^ (8 * i))) := by
  rw [show (8 * (i : Int)).toNat = 8 * i from by omega, byteI_of]
theorem num_step {e : Nat} (n : Int) (i : Nat) (v : Value) : Ow v e 1 (bys (numB n i) ++ [[bv (byteI (n / 2 ^ (8 * i)))]]) = Ow v e 1 (bys (numB n (i + 1))) := by
  rw [numB_succ, bys_append]; rfl
theorem byteI_nat (m : Nat) : byteI (m : Int) = m.toUInt8 := by
  apply UInt8.toNat_inj.1
  unfold byteI; simp; omega
theorem le4_num (n : Nat) : le4 n = numB (n : Int) 4 := by
  have e : ∀ k : Nat, byteI ((n : Int) / 2 ^ k) = (n / 2 ^ k).toUInt8 := fun k => by
    rw [show ((n : Int) / 2 ^ k) = ((n / 2 ^ k : Nat) : Int) from by simp, byteI_nat]
  have h : numB (n : Int) 4 = [byteI ((n : Int) / 2 ^ 0), byteI ((n : Int) / 2 ^ 8), byteI ((n : Int) / 2 ^ 16), byteI ((n : Int) / 2 ^ 24)] := rfl
  rw [h, e, e, e, e, Nat.pow_zero, Nat.div_one]; rfl
/-- headers of slices, and what they are of -/
def PQ (ro : Hp) : List Value → List (List UInt8) → Prop
  | [], [] => True
  | q :: qs, p :: ps => RS ro q 1 (bys p) ∧ PQ ro qs ps
  | _, _ => False
theorem PQ.len {ro : Hp} : ∀ {qs : List Value} {ps : List (List UInt8)}, PQ ro qs ps → qs.length = ps.length
  | [], [], _ => rfl
  | q :: qs, p :: ps, h => by simp [PQ.len h.2]
  | [], _ :: _, h => h.elim
  | _ :: _, [], h => h.elim
theorem PQ.get {ro : Hp} : ∀ {qs : List Value} {ps : List (List UInt8)}, PQ ro qs ps → ∀ (i : Nat) (p : List UInt8), ps[i]? = some p → ∃ q, qs[i]? = some q ∧ RS ro q 1 (bys p)
  | [], [], _, i, p, hp => by simp at hp
  | q :: qs, p' :: ps, h, 0, p, hp => by simp at hp; subst hp; exact ⟨q, rfl, h.1⟩
  | q :: qs, p' :: ps, h, i + 1, p, hp => PQ.get h.2 i p (by simpa using hp)
  | [], _ :: _, h, _, _, _ => h.elim
  | _ :: _, [], h, _, _, _ => h.elim
theorem PS.of {ro : Hp} {v : Value} {qs : List Value} {ps : List (List UInt8)} (h : RS ro v 1 (qs.map fun q => [q])) (hq : PQ ro qs ps) : PS ro v ps :=
  ⟨_, h, by simp [hq.len], fun i p hp => by
    obtain ⟨q, h1, h2⟩ := hq.get i p hp
    exact ⟨q, by simp [h1], h2⟩⟩
theorem dig_step {e : Nat} {x : UInt8} {ps : List (List UInt8)} {i : Nat} {p : List UInt8} (h : ps[i]? = some p) (v : Value) :
    Ow v e 1 (bys (x :: packed (ps.take i)) ++ bys (numB ((bys p).length : Int) 4) ++ bys p) = Ow v e 1 (bys (x :: packed (ps.take (i + 1)))) := by
  rw [bys_length, ← le4_num]; exact of_step h v

structure Acct where
  owner : Hash
  amount : Int
  nonce : Int
deriving DecidableEq
def Acct.lv (a : Acct) : Lv := [(8, hv a.owner), (1, iv a.amount), (1, iv a.nonce)]
def badAcct (i : Int) (a : Acct) : Prop := a.owner = h0 ∨ i < 0 ∨ 65535 < i ∨ a.amount < 0 ∨ 72057594037927936 ≤ a.amount ∨ a.nonce < 0 ∨ 255 < a.nonce
instance {i : Int} {a : Acct} : Decidable (badAcct i a) := by unfold badAcct; infer_instance
def leafOf (i : Int) (a : Acct) : Hash := if badAcct i a then h0 else hOf 97 [numB i 2, a.owner.toList, numB a.amount 7, numB a.nonce 1]
end Go.Db
namespace Go.Sx
open Go
/-- a box in what is only read -/
def Bx (ro : Hp) (b : Nat) (vs : Lv) (T : TypeId) : Prop := ro b = some (.cells (flat vs).toArray T (0, 0)) ∧ Wl vs
theorem Bx.mono {ro ro' : Hp} {b : Nat} {vs : Lv} {T : TypeId} (h : Bx ro b vs T) (l : Hp.le ro ro') : Bx ro' b vs T := ⟨l _ _ h.1, h.2⟩
theorem Bx.of {ro k : Hp} {b T : Nat} {vs : Lv} (h : St b vs T k) (l : Hp.le k ro) : Bx ro b vs T := ⟨l _ _ h.1, h.2⟩
section
variable {P : Program} {Q : Exit → Act → World → Prop} {n : Nat} {w0 : World} {ro : Hp} {E : Env} {M R : Res}
variable {dst : Option Tmp} {ty T T' T0 : TypeId} {pos : String} {af : Array Edge} {g : Option (Nat × Bool)} {x y z : Operand} {ops : Array Oper} {rest : List Oper}
theorem Inv.boxr {b : Nat} {vs : Lv} {W : World} (i : Inv w0 ro M W) (hp : Bx ro b vs T) : W.heap[b]? = some (.cells (flat vs).toArray T (0, 0)) ∧ Wl vs := ⟨i.roLe _ _ hp.1, hp.2⟩
theorem V.rldA {b off s i : Nat} {vs : Lv} {cs : Array Value} (hp : Bx ro b vs T0) (hx : opnd E x = some (.pointer (some ⟨b, off, none⟩))) (hT : Ag P T s)
    (hi : vs[i]? = some (s, .agg cs)) (ho : lsz (vs.take i) = off) : V P n w0 ro E M ⟨dst, .load T x, ty, pos, af, g⟩ (.agg cs) :=
  .of_run fun a W f iv => by
    obtain ⟨h1, h2⟩ := iv.boxr hp
    have hsz : cs.size = s := (h2 _ (List.mem_of_getElem? hi)).1
    have := run_loadVar_agg (off := off) hT h1 cs.toList (fun j v hv => by simpa using flat_get h2 hi ho j v hv) (by simpa using hsz)
    simp [execOp, f.eval hx, Instr.loadAt, Instr.sureAddr]
    simp at this
    simp [this]
theorem V.rldS {b off i : Nat} {vs : Lv} {v : Value} (hp : Bx ro b vs T0) (hx : opnd E x = some (.pointer (some ⟨b, off, none⟩))) (hT : Sc P T)
    (hi : vs[i]? = some (1, v)) (ho : lsz (vs.take i) = off) (hv : v.cells = #[v]) : V P n w0 ro E M ⟨dst, .load T x, ty, pos, af, g⟩ v :=
  .of_run fun a W f iv => by
    obtain ⟨h1, h2⟩ := iv.boxr hp
    have := run_loadVar_sc (off := off) hT h1 (v := v) (by simpa using flat_get h2 hi ho 0 v (by rw [hv]; rfl))
    simp [execOp, f.eval hx, Instr.loadAt, Instr.sureAddr, this]
theorem V.rldP {b off s i k : Nat} {vs us : Lv} (hp : Bx ro b vs T0) (hx : opnd E x = some (.pointer (some ⟨b, off, none⟩))) (hT : Ag P T s)
    (hu : (vs.drop i).take k = us) (ho : lsz (vs.take i) = off) (hs : lsz us = s) : V P n w0 ro E M ⟨dst, .load T x, ty, pos, af, g⟩ (ag us) :=
  .of_run fun a W f iv => by
    obtain ⟨h1, h2⟩ := iv.boxr hp
    have e : vs = vs.take i ++ (us ++ (vs.drop i).drop k) := by rw [← hu, List.take_append_drop, List.take_append_drop]
    have hw := (h2.sub (us := vs.take i) fun p hp => List.mem_of_mem_take hp).flat_length
    have hus : Wl us := h2.sub fun p hp => by rw [e]; simp [hp]
    have := run_loadVar_agg (off := off) hT h1 (flat us) (fun j v hv => by
      simp only [List.getElem?_toArray]
      have hj := (List.getElem?_eq_some_iff.1 hv).1
      rw [e, flat_append, List.getElem?_append_right (by omega), hw, ho, Nat.add_sub_cancel_left, flat_append, List.getElem?_append_left hj]
      exact hv) (by rw [hus.flat_length, hs])
    simp [execOp, f.eval hx, Instr.loadAt, Instr.sureAddr, this, ag]
theorem V.andI {a b : Nat} (hx : opnd E x = some (.int .i64 (a : Int))) (hy : opnd E y = some (.int .i64 (b : Int))) (ha : a < 9223372036854775808) (hb : b < 9223372036854775808) :
    V P n w0 ro E M ⟨dst, .binOp .and T x y T', ty, pos, af, g⟩ (.int .i64 ((a &&& b : Nat) : Int)) :=
  V.bin hx hy fun W => by
    have h : (BitVec.ofInt 64 (a : Int) &&& BitVec.ofInt 64 (b : Int)).toNat = a &&& b := by
      rw [BitVec.ofInt_natCast, BitVec.ofInt_natCast, BitVec.toNat_and, BitVec.toNat_ofNat, BitVec.toNat_ofNat, Nat.mod_eq_of_lt (by omega), Nat.mod_eq_of_lt (by omega)]
    show (Sem.run P (pure (Value.int .i64 (IntKind.i64.wrap ((BitVec.ofInt 64 (a : Int) &&& BitVec.ofInt 64 (b : Int)).toNat : Int)))) W) = _
    have : a &&& b ≤ a := Nat.and_le_left
    rw [h, wrap_in _ (by omega) (by omega)]; rfl
theorem V.xorI {a b : Nat} (hx : opnd E x = some (.int .i64 (a : Int))) (hy : opnd E y = some (.int .i64 (b : Int))) (ha : a < 4611686018427387904) (hb : b < 4611686018427387904) :
    V P n w0 ro E M ⟨dst, .binOp .xor T x y T', ty, pos, af, g⟩ (.int .i64 ((a ^^^ b : Nat) : Int)) :=
  V.bin hx hy fun W => by
    have h : (BitVec.ofInt 64 (a : Int) ^^^ BitVec.ofInt 64 (b : Int)).toNat = a ^^^ b := by
      rw [BitVec.ofInt_natCast, BitVec.ofInt_natCast, BitVec.toNat_xor, BitVec.toNat_ofNat, BitVec.toNat_ofNat, Nat.mod_eq_of_lt (by omega), Nat.mod_eq_of_lt (by omega)]
    show (Sem.run P (pure (Value.int .i64 (IntKind.i64.wrap ((BitVec.ofInt 64 (a : Int) ^^^ BitVec.ofInt 64 (b : Int)).toNat : Int)))) W) = _
    have : a ^^^ b < 2 ^ 62 := Nat.xor_lt_two_pow (by omega) (by omega)
    rw [h, wrap_in _ (by omega) (by omega)]; rfl
theorem Pu.at {f : FuncId} {args : Array Value} {l l' : Nat} {A : HP} {v : Value} (hp : pull M l = some (A, R)) (h : Pu P f args w0 ro ((l', A) :: R) v) : Pu P f args w0 ro M v := fun W hW =>
  (h W (hW.weak fun k s => (Sats.pull hp s : Sats ((l, A) :: R) k))).mono fun _ _ ⟨a, b⟩ => ⟨a, b.weak fun k s => Sats.unpull hp (show Sats ((l, A) :: R) k from s)⟩
theorem V.ixH {len e i : Nat} {k : IntKind} {j : Int} {u : Db.Hash} {l : List Db.Hash} (hx : opnd E x = some (ag (uni Db.hv 8 l))) (hy : opnd E y = some (.int k j)) (hT : Ar P T len e 8) (he : Ag P e 8)
    (hi : l[i]? = some u) (hj : j = (i : Int)) (hl : i < len) : V P n w0 ro E M ⟨dst, .index T x y, ty, pos, af, g⟩ (Db.hv u) :=
  V.ixUA (ec := Db.hc) (by rw [hx]; unfold ag; rw [show uni Db.hv 8 l = uni (fun x => Value.agg (Db.hc x).toArray) 8 l from rfl, flat_uniA]) hy hT he (fun _ => Db.hc_length _) hi hj hl
end
end Go.Sx
namespace Go.Db
open Go Go.Sx
theorem rs_leaf {ro : Hp} {b T i off : Nat} {h : Hash} {vs : Lv} (hb : Bx ro b vs T) (hi : vs[i]? = some (8, hv h)) (ho : lsz (vs.take i) = off) : RS ro (.slice (some ⟨b, off + 0 * 1, none⟩) (8 - 0) (8 - 0)) 1 (bys h.toList) := by
  refine RS.box hb.1 (by simp [bys]) (by omega) (fun x hx => ?_) fun j x hx m u hu => ?_
  · obtain ⟨c, _, rfl⟩ := List.mem_map.1 hx
    exact ⟨rfl, by intro v hv; simp at hv; subst hv; rfl⟩
  · unfold bys at hx
    rw [List.getElem?_map] at hx
    obtain ⟨c, hc1, rfl⟩ := Option.map_eq_some_iff.1 hx
    have hj := (List.getElem?_eq_some_iff.1 hu).1
    obtain rfl : m = 0 := by simpa using hj
    simp at hu; subst hu
    have := flat_get hb.2 hi ho j (bv c) (by simp [hv, Value.cells, hc, hc1])
    rw [← this]; congr 1; omega
instance {a : Acct} : Wc a.lv := inferInstanceAs (Wc [(8, hv a.owner), (1, iv a.amount), (1, iv a.nonce)])
theorem leaf_bad {i : Int} {a : Acct} (h : badAcct i a) : leafOf i a = h0 := if_pos h
theorem leaf_good {i : Int} {a : Acct} (h : ¬ badAcct i a) : leafOf i a = hOf 97 [numB i 2, a.owner.toList, numB a.amount 7, numB a.nonce 1] := if_neg h
theorem leaf_packed (i : Int) (a : Acct) : (packed [numB i 2, a.owner.toList, numB a.amount 7, numB a.nonce 1]).length ≤ 1099511627775 := by simp [packed, le4, numB_length]
theorem fitB_iff (n : Int) (k : Nat) : (decide (0 ≤ n) && decide (n / 2 ^ ((8 * (k : Int)).toNat) = 0)) = decide (0 ≤ n ∧ n < 2 ^ (8 * k)) := by
  rw [show (8 * (k : Int)).toNat = 8 * k from by omega]
  rw [Bool.eq_iff_iff]
  simp only [Bool.and_eq_true, decide_eq_true_eq]
  have hp : (0 : Int) < 2 ^ (8 * k) := Int.pow_pos (by decide)
  constructor
  · rintro ⟨h1, h2⟩
    refine ⟨h1, ?_⟩
    have := Int.lt_ediv_add_one_mul_self n hp
    rw [h2] at this; simpa using this
  · rintro ⟨h1, h2⟩
    exact ⟨h1, Int.ediv_eq_zero_of_lt h1 h2⟩
/-- the way up from a leaf -/
def upTo (i : Nat) (p : List Hash) (leaf : Hash) : Nat → Hash
  | 0 => leaf
  | k + 1 => if i / 2 ^ k % 2 = 1 then over (p.getD k h0) (upTo i p leaf k) else over (upTo i p leaf k) (p.getD k h0)
def goodLeaf (root : Hash) (i : Int) (leaf : Hash) (p : List Hash) : Bool := decide (0 ≤ i ∧ i < 65536) && decide (upTo i.toNat p leaf 16 = root)
end Go.Db
namespace Go.Sx
open Go
theorem Inv.ow {w0 : World} {ro : Hp} {M R : Res} {W : World} {l e sz : Nat} {v : Value} {xs : List (List Value)} (i : Inv w0 ro M W) (hp : Sx.pull M l = some (Ow v e sz xs, R)) : ∃ a c, v = .slice a xs.length c := by
  obtain ⟨h, _, h3⟩ := (i.pull hp).get
  rcases h3.2 with ⟨rfl, rfl⟩ | ⟨g, cap, cur, rfl, _⟩
  · exact ⟨none, 0, rfl⟩
  · exact ⟨_, cap, rfl⟩
/-- the shape of an owned slice -/
theorem Kp.ow {n : Nat} {w0 : World} {ro : Hp} {K : Act → World → Prop} {E : Env} {M R : Res} {l e sz : Nat} {v : Value} {xs : List (List Value)} (hp : Sx.pull M l = some (Ow v e sz xs, R))
    (h : ∀ a c, v = .slice a xs.length c → Kp n w0 ro K E M) : Kp n w0 ro K E M := fun a W f i => by
  obtain ⟨b, c, hv⟩ := i.ow hp
  exact h b c hv a W f i
theorem C.ow {P : Program} {Q : Exit → Act → World → Prop} {c : Code} {n : Nat} {w0 : World} {ro : Hp} {E : Env} {M R : Res} {l e sz : Nat} {v : Value} {xs : List (List Value)} (hp : Sx.pull M l = some (Ow v e sz xs, R))
    (h : ∀ a d, v = .slice a xs.length d → C P Q n w0 ro c E M) : C P Q n w0 ro c E M := fun a W f i => by
  obtain ⟨b, d, hv⟩ := i.ow hp
  exact h b d hv a W f i
end Go.Sx
namespace Go.Sx
open Go
instance {vs : Lv} {i s : Nat} {v : Value} [hw : Wc vs] [hc : Cz v s] : Wc (vs.set i (s, v)) := ⟨Wl.set hw.wl hc.sz hc.ones⟩
end Go.Sx
namespace Go.Db
open Go Go.Sx
abbrev LL := List (Nat × Hash)
def atR (l : LL) : List (List Value) := l.map fun p => [.int .i64 (p.1 : Int)]
def hashR (l : LL) : List (List Value) := l.map fun p => hc p.2
theorem atR_length (l : LL) : (atR l).length = l.length := by simp [atR]
theorem hashR_length (l : LL) : (hashR l).length = l.length := by simp [hashR]
theorem atR_get {l : LL} {k : Nat} {p : Nat × Hash} (h : l[k]? = some p) : (atR l)[((k : Int)).toNat]? = some [.int .i64 (p.1 : Int)] := by simp [atR, h]
theorem hashR_get {l : LL} {k : Nat} {p : Nat × Hash} (h : l[k]? = some p) : (hashR l)[((k : Int)).toNat]? = some (hc p.2) := by simp [hashR, h]
/-- one step of putting: what is there so far, done -/
def putA (i : Nat) (leaf : Hash) (x : Nat × Hash) (s : LL × Bool) : LL × Bool := if s.2 = false ∧ i ≤ x.1 then (s.1 ++ [(i, leaf)], true) else s
def putB (i : Nat) (x : Nat × Hash) (s : LL × Bool) : LL × Bool := if x.1 ≠ i then (s.1 ++ [x], s.2) else s
def putTo (l : LL) (i : Nat) (leaf : Hash) : Nat → LL × Bool
  | 0 => ([], decide (leaf = h0))
  | k + 1 => putB i (l.getD k (0, h0)) (putA i leaf (l.getD k (0, h0)) (putTo l i leaf k))
def put (l : LL) (i : Nat) (leaf : Hash) : LL := let s := putTo l i leaf l.length; if s.2 = false then s.1 ++ [(i, leaf)] else s.1
theorem putA_le (i : Nat) (leaf : Hash) (x : Nat × Hash) (s : LL × Bool) : (putA i leaf x s).1.length ≤ s.1.length + 1 := by unfold putA; split <;> simp
theorem putB_le (i : Nat) (x : Nat × Hash) (s : LL × Bool) : (putB i x s).1.length ≤ s.1.length + 1 := by unfold putB; split <;> simp
theorem putTo_le (l : LL) (i : Nat) (leaf : Hash) : ∀ k, (putTo l i leaf k).1.length ≤ 2 * k
  | 0 => by simp [putTo]
  | k + 1 => by
    have h1 := putB_le i (l.getD k (0, h0)) (putA i leaf (l.getD k (0, h0)) (putTo l i leaf k))
    have h2 := putA_le i leaf (l.getD k (0, h0)) (putTo l i leaf k)
    have h3 := putTo_le l i leaf k
    rw [putTo]; omega
def getL (l : LL) (i : Nat) : Hash := ((l.find? fun p => p.1 == i).map (·.2)).getD h0
theorem getL_skip (l : LL) (i : Nat) : ∀ k, (∀ j, j < k → ∀ p, l[j]? = some p → p.1 ≠ i) → getL l i = getL (l.drop k) i := by
  intro k
  induction k generalizing l with
  | zero => intro _; rfl
  | succ k ih =>
    intro h
    cases l with
    | nil => rfl
    | cons x l =>
      have hx : x.1 ≠ i := h 0 (by omega) x rfl
      rw [List.drop_succ_cons, ← ih l (fun j hj p hp => h (j + 1) (by omega) p (by simpa using hp))]
      unfold getL; rw [List.find?_cons_of_neg (by simpa using hx)]
theorem getL_hit {l : LL} {i k : Nat} {p : Nat × Hash} (h : ∀ j, j < k → ∀ p, l[j]? = some p → p.1 ≠ i) (hk : l[k]? = some p) (hp : p.1 = i) : getL l i = p.2 := by
  rw [getL_skip l i k h]
  obtain ⟨hlt, he⟩ := List.getElem?_eq_some_iff.1 hk
  rw [List.drop_eq_getElem_cons hlt, he]
  unfold getL; rw [List.find?_cons_of_pos (by simpa using hp)]; rfl
theorem getL_none {l : LL} {i : Nat} (h : ∀ j, j < l.length → ∀ p, l[j]? = some p → p.1 ≠ i) : getL l i = h0 := by
  rw [getL_skip l i l.length h, List.drop_length]; rfl
def inSpan (from_ h : Nat) (p : Nat × Hash) : Bool := decide (from_ ≤ p.1) && decide (p.1 < from_ + 2 ^ h)
def someIn (l : LL) (from_ h : Nat) : Bool := l.any (inSpan from_ h)
theorem someTo {l : LL} {f h k : Nat} {p : Nat × Hash} (hp : l[k]? = some p) : (l.take (k + 1)).any (inSpan f h) = ((l.take k).any (inSpan f h) || inSpan f h p) := by
  rw [List.take_add_one, hp]; simp [List.any_append]
def node (l : LL) (from_ : Nat) : Nat → Hash
  | 0 => if someIn l from_ 0 then getL l from_ else h0
  | h + 1 => if someIn l from_ (h + 1) then over (node l from_ h) (node l (from_ + 2 ^ h) h) else h0
def top (l : LL) : Hash := node l 0 16
def proofTo (l : LL) (i : Nat) (k : Nat) : List Hash := (List.range k).map fun k => node l ((i / 2 ^ k ^^^ 1) * 2 ^ k) k
def proof (l : LL) (i : Nat) : List Hash := proofTo l i 16
def prf (l : LL) (i k : Nat) : List Hash := proofTo l i k ++ List.replicate (16 - k) h0
theorem proofTo_length (l : LL) (i k : Nat) : (proofTo l i k).length = k := by simp [proofTo]
theorem prf_length (l : LL) (i k : Nat) (h : k ≤ 16) : (prf l i k).length = 16 := by simp [prf, proofTo_length]; omega
theorem prf_at (l : LL) (i : Nat) {k : Nat} (h : k < 16) : (prf l i k)[k]? = some h0 := by
  unfold prf; rw [List.getElem?_append_right (by rw [proofTo_length]; exact Nat.le_refl _), proofTo_length, Nat.sub_self, List.getElem?_replicate, if_pos (by omega)]
theorem prf_set (l : LL) (i : Nat) {k : Nat} (h : k < 16) : (prf l i k).set k (node l ((i / 2 ^ k ^^^ 1) * 2 ^ k) k) = prf l i (k + 1) := by
  unfold prf
  rw [List.set_append_right _ _ (by rw [proofTo_length]; exact Nat.le_refl _), proofTo_length, Nat.sub_self, show 16 - k = (16 - (k + 1)) + 1 from by omega, List.replicate_succ, List.set_cons_zero]
  simp [proofTo, List.range_succ]
theorem prf_16 (l : LL) (i : Nat) : prf l i 16 = proof l i := by simp [prf, proof]
theorem shr_nat (i k : Nat) : Value.int .i64 ((i : Int) / 2 ^ ((k : Int)).toNat) = .int .i64 ((i / 2 ^ k : Nat) : Int) := by simp
theorem one_and (a : Nat) : a &&& 1 = a % 2 := Nat.and_one_is_mod a
end Go.Db
namespace Go.Db
open Go Go.Sx
theorem dec_ge (a b : Nat) : Value.bool (decide ((a : Int) ≥ (b : Int))) = .bool (decide (b ≤ a)) := by
  congr 2; rw [eq_iff_iff]; omega
theorem dec_lt (a b c : Nat) : Value.bool (decide ((a : Int) < (b : Int) + (c : Int))) = .bool (decide (a < b + c)) := by
  congr 2; rw [eq_iff_iff]; omega
theorem one_shl {h : Nat} (hh : h ≤ 16) : Value.int .i64 (IntKind.i64.wrap (1 * 2 ^ ((h : Int)).toNat)) = .int .i64 ((2 ^ h : Nat) : Int) := by
  have h1 : 2 ^ h ≤ 65536 := Nat.pow_le_pow_right (n := 2) (by decide) hh
  have e : (1 : Int) * 2 ^ ((h : Int)).toNat = ((2 ^ h : Nat) : Int) := by rw [Int.toNat_natCast, Int.one_mul, Int.natCast_pow]; rfl
  rw [e]
  generalize 2 ^ h = m at h1
  rw [wrap_in _ (by omega) (by omega)]
theorem sub_one (h : Nat) : Value.int .i64 (((h + 1 : Nat) : Int) - 1) = .int .i64 (h : Int) := by congr 1; omega
theorem add_nat (a b : Nat) : Value.int .i64 ((a : Int) + (b : Int)) = .int .i64 ((a + b : Nat) : Int) := by congr 1
theorem pow16 {h : Nat} (hh : h ≤ 16) : 2 ^ h ≤ 65536 := Nat.pow_le_pow_right (n := 2) (by decide) hh
end Go.Db
namespace Go.Db
open Go Go.Sx
theorem sib_le {i k : Nat} (hi : i < 65536) (hk : k < 16) : (i / 2 ^ k ^^^ 1) * 2 ^ k + 2 ^ k ≤ 65536 := by
  have h1 : i / 2 ^ k < 2 ^ (16 - k) := by
    rw [Nat.div_lt_iff_lt_mul (Nat.pow_pos (by decide)), ← Nat.pow_add, show 16 - k + k = 16 from by omega]; exact hi
  have h2 : i / 2 ^ k ^^^ 1 < 2 ^ (16 - k) := Nat.xor_lt_two_pow h1 (by
    have : 2 ^ 1 ≤ 2 ^ (16 - k) := Nat.pow_le_pow_right (by decide) (by omega)
    omega)
  have h3 : ((i / 2 ^ k ^^^ 1) + 1) * 2 ^ k ≤ 2 ^ (16 - k) * 2 ^ k := Nat.mul_le_mul_right _ h2
  rw [← Nat.pow_add, show 16 - k + k = 16 from by omega, Nat.add_mul, Nat.one_mul] at h3
  exact h3
theorem sib_shl {i k : Nat} (hi : i < 65536) (hk : k < 16) : Value.int .i64 (IntKind.i64.wrap (((i / 2 ^ k ^^^ 1 : Nat) : Int) * 2 ^ ((k : Int)).toNat)) = .int .i64 (((i / 2 ^ k ^^^ 1) * 2 ^ k : Nat) : Int) := by
  have h := sib_le hi hk
  have e : ((i / 2 ^ k ^^^ 1 : Nat) : Int) * 2 ^ ((k : Int)).toNat = (((i / 2 ^ k ^^^ 1) * 2 ^ k : Nat) : Int) := by rw [Int.toNat_natCast, Int.natCast_mul, Int.natCast_pow]; rfl
  rw [e]
  have hp : 0 < 2 ^ k := Nat.pow_pos (by decide)
  generalize (i / 2 ^ k ^^^ 1) * 2 ^ k = m at h
  generalize 2 ^ k = q at h hp
  rw [wrap_in _ (by omega) (by omega)]
theorem putA_yes {i : Nat} {leaf : Hash} {x : Nat × Hash} {s : LL × Bool} (h : s.2 = false ∧ i ≤ x.1) : putA i leaf x s = (s.1 ++ [(i, leaf)], true) := if_pos h
theorem putA_no {i : Nat} {leaf : Hash} {x : Nat × Hash} {s : LL × Bool} (h : ¬ (s.2 = false ∧ i ≤ x.1)) : putA i leaf x s = s := if_neg h
theorem putTo_next {l : LL} {i k : Nat} {leaf : Hash} {p : Nat × Hash} (hp : l[k]? = some p) : putTo l i leaf (k + 1) = putB i p (putA i leaf p (putTo l i leaf k)) := by
  rw [putTo, List.getD_eq_getElem?_getD, hp]; rfl
theorem atR_app (l : LL) (p : Nat × Hash) : atR (l ++ [p]) = atR l ++ [[.int .i64 (p.1 : Int)]] := by simp [atR]
theorem hashR_app (l : LL) (p : Nat × Hash) : hashR (l ++ [p]) = hashR l ++ [hc p.2] := by simp [hashR]
end Go.Db
namespace Go.Db
open Go Go.Sx
theorem ow_at (v : Value) (e : Nat) (l : LL) (p : Nat × Hash) : Ow v e 1 (atR l ++ [[.int .i64 (p.1 : Int)]]) = Ow v e 1 (atR (l ++ [p])) := by rw [atR_app]
theorem ow_hash (v : Value) (e : Nat) (l : LL) (p : Nat × Hash) : Ow v e 8 (hashR l ++ [hc p.2]) = Ow v e 8 (hashR (l ++ [p])) := by rw [hashR_app]
end Go.Db
namespace Go.Db
open Go Go.Sx
def uv (x : UInt16) : Value := .int .u16 (x.toNat : Int)
def u16R (l : List UInt16) : List (List Value) := l.map fun x => [uv x]
theorem u16R_length (l : List UInt16) : (u16R l).length = l.length := by simp [u16R]
theorem u16R_get {l : List UInt16} {k : Nat} {x : UInt16} (h : l[k]? = some x) : (u16R l)[((k : Int)).toNat]? = some [uv x] := by simp [u16R, h]
instance {x : UInt16} : Cz (uv x) 1 := inferInstanceAs (Cz (.int .u16 (x.toNat : Int)) 1)
def wh (i : Nat) : Hash := #v[119, (i + 1).toUInt8, 0, 0, 0, 0, 0, 0]
theorem wh_fill (i : Nat) : fillL 1 (flat [(8, hv h0)]) [(0, .int .u8 119), (1, bv (i + 1).toUInt8)] = hc (wh i) := rfl
theorem wh_byte (i : Nat) : Value.int .u8 (IntKind.u8.wrap ((i : Int) + 1)) = bv (i + 1).toUInt8 := byte_of (i + 1)
theorem wh_parts (i : Nat) : ∀ p ∈ ([0, 1].zip [Value.int .u8 119, bv (i + 1).toUInt8] : List (Nat × Value)), p.1 < 8 ∧ p.2.cells.size = 1 := by
  intro p hp
  simp only [List.zip_cons_cons, List.zip_nil_right, List.mem_cons, List.not_mem_nil, or_false] at hp
  rcases hp with rfl | rfl
  · exact ⟨by decide, rfl⟩
  · exact ⟨(by decide : 1 < 8), rfl⟩
def acState (am : List UInt16) (i : Nat) : Acct := ⟨wh i, 1 + ((am.getD i 0).toNat : Int), ((i % 8 : Nat) : Int)⟩
theorem u16_int (x : UInt16) : Value.int .i64 (IntKind.i64.wrap (x.toNat : Int)) = .int .i64 (x.toNat : Int) := by
  have := UInt16.toNat_lt x
  rw [wrap_in _ (by omega) (by omega)]
theorem and7 (i : Nat) : Value.int .i64 ((i &&& 7 : Nat) : Int) = iv ((i % 8 : Nat) : Int) := by
  rw [show (7 : Nat) = 2 ^ 3 - 1 from rfl, Nat.and_two_pow_sub_one_eq_mod]; rfl
def treeTo (at_ am : List UInt16) : Nat → LL
  | 0 => []
  | k + 1 => put (treeTo at_ am k) (at_.getD k 0).toNat (leafOf ((at_.getD k 0).toNat : Int) (acState am k))
theorem put_le (l : LL) (i : Nat) (leaf : Hash) : (put l i leaf).length ≤ 2 * l.length + 1 := by
  have := putTo_le l i leaf l.length
  unfold put; dsimp only; split <;> simp <;> omega
theorem treeTo_le (at_ am : List UInt16) : ∀ k, (treeTo at_ am k).length < 2 ^ k
  | 0 => by simp [treeTo]
  | k + 1 => by
    have h1 := put_le (treeTo at_ am k) (at_.getD k 0).toNat (leafOf ((at_.getD k 0).toNat : Int) (acState am k))
    have h2 := treeTo_le at_ am k
    rw [treeTo, Nat.pow_succ]; omega
theorem treeTo_sm (at_ am : List UInt16) {k : Nat} (h : k ≤ 12) : (treeTo at_ am k).length ≤ 10000 := by
  have h1 := treeTo_le at_ am k
  have h2 : 2 ^ k ≤ 2 ^ 12 := Nat.pow_le_pow_right (by decide) h
  omega
end Go.Db
namespace Go.Db
open Go Go.Sx
def hkR (l : List Hash) : List (List Value) := l.map hc
theorem hkR_length (l : List Hash) : (hkR l).length = l.length := by simp [hkR]
theorem hkR_get {l : List Hash} {k : Nat} {h : Hash} (hh : l[k]? = some h) : (hkR l)[((k : Int)).toNat]? = some (hc h) := by simp [hkR, hh]
theorem hkR_take (l : List Hash) (k : Nat) : ((hkR l).drop 0).take (k - 0) = hkR (l.take k) := by simp [hkR, List.map_take]
/-- where a hash stands first -/
def ixH (l : List Hash) (h : Hash) : Int := if h ∈ l then (l.idxOf h : Int) else -1
theorem ixH_none {l : List Hash} {h : Hash} (hn : ∀ j, j < l.length → ∀ q, l[j]? = some q → q ≠ h) : ixH l h = -1 := by
  refine if_neg fun hm => ?_
  obtain ⟨j, hj, he⟩ := List.mem_iff_getElem.1 hm
  exact hn j hj _ (List.getElem?_eq_getElem hj) he
theorem ixH_some {l : List Hash} {h : Hash} {k : Nat} (hn : ∀ j, j < k → ∀ q, l[j]? = some q → q ≠ h) (hk : l[k]? = some h) : ixH l h = (k : Int) := by
  obtain ⟨hlt, he⟩ := List.getElem?_eq_some_iff.1 hk
  have hm : h ∈ l := List.mem_iff_getElem.2 ⟨k, hlt, he⟩
  unfold ixH
  rw [if_pos hm]
  congr 1
  have h1 := List.idxOf_lt_length_of_mem hm
  have h2 : l[l.idxOf h]'h1 = h := List.getElem_idxOf h1
  rcases Nat.lt_trichotomy (l.idxOf h) k with g | g | g
  · exact absurd h2 (hn _ g _ (List.getElem?_eq_getElem h1))
  · exact g
  · exfalso
    have := List.not_of_lt_findIdx (p := (· == h)) (xs := l) (i := k) g
    simp [he] at this
theorem ixH_has (l : List Hash) (h : Hash) : Value.bool (decide (ixH l h ≥ 0)) = .bool (decide (h ∈ l)) := by
  congr 1
  unfold ixH
  by_cases g : h ∈ l
  · simp [g]
  · simp [g]
def keysTo (l : List Hash) (k : Nat) : Prop := ∀ j, j < k → ∀ q, l[j]? = some q → q ≠ h0 ∧ q ∉ l.take j
structure Par where
  length : Int
  window : Int
  need : Int
  keys : List Hash
deriving DecidableEq
def Par.lv (p : Par) (v : Value) : Lv := [(1, iv p.length), (1, iv p.window), (1, iv p.need), (1, v)]
def mayP (p : Par) : Prop := 1 ≤ p.keys.length ∧ p.keys.length ≤ 5 ∧ 1 ≤ p.need ∧ p.need ≤ p.keys.length ∧ keysTo p.keys p.keys.length ∧ 2 ≤ p.length ∧ p.length ≤ 64 ∧ 1 ≤ p.window ∧ p.window ≤ p.length
noncomputable instance {p : Par} : Decidable (mayP p) := Classical.propDecidable _
end Go.Db
namespace Go.Db
open Go Go.Sx
instance {p : Par} {v : Value} [Cz v 1] : Wc (p.lv v) := inferInstanceAs (Wc [(1, iv p.length), (1, iv p.window), (1, iv p.need), (1, v)])
theorem may_fin {p : Par} (h1 : 1 ≤ p.keys.length ∧ p.keys.length ≤ 5 ∧ 1 ≤ p.need ∧ p.need ≤ p.keys.length) (h2 : keysTo p.keys p.keys.length) :
    Value.bool (((decide (p.length ≥ 2) && decide (p.length ≤ 64)) && decide (p.window ≥ 1)) && decide (p.window ≤ p.length)) = .bool (decide (mayP p)) := by
  congr 1
  rw [Bool.eq_iff_iff]
  simp only [Bool.and_eq_true, decide_eq_true_eq]
  unfold mayP
  constructor
  · rintro ⟨⟨⟨a, b⟩, c⟩, d⟩
    exact ⟨h1.1, h1.2.1, h1.2.2.1, h1.2.2.2, h2, a, b, c, d⟩
  · rintro ⟨_, _, _, _, _, a, b, c, d⟩
    exact ⟨⟨⟨a, b⟩, c⟩, d⟩
theorem keysTo_succ {l : List Hash} {k : Nat} {q : Hash} (h : keysTo l k) (hq : l[k]? = some q) (h1 : q ≠ h0) (h2 : q ∉ l.take k) : keysTo l (k + 1) := fun j hj q' hq' => by
  rcases Nat.lt_or_ge j k with g | g
  · exact h j g q' hq'
  · obtain rfl : j = k := by omega
    rw [hq] at hq'; cases hq'; exact ⟨h1, h2⟩
theorem keysTo_0 (l : List Hash) : keysTo l 0 := fun j hj => by omega
theorem rs_take {ro : Hp} {v : Value} {l : List Hash} {k : Nat} (h : RS ro v 8 (hkR l)) (hk : k ≤ l.length) : RS ro (subS v 0 k 8) 8 (hkR (l.take k)) := by
  have := h.sub (lo := 0) (hi := k) (by omega) (by rw [hkR_length]; exact hk)
  rwa [hkR_take] at this
end Go.Db
namespace Go.Db
open Go Go.Sx
theorem notin_take {l : List Hash} {k : Nat} {q : Hash} (h : ∀ m, m < k → ∀ q', l[m]? = some q' → q' ≠ q) : q ∉ l.take k := fun hm => by
  obtain ⟨m, hm1, hm2⟩ := List.mem_iff_getElem.1 hm
  rw [List.getElem_take] at hm2
  rw [List.length_take] at hm1
  exact h m (by omega) _ (List.getElem?_eq_getElem (by omega)) hm2
theorem in_take {l : List Hash} {k m : Nat} {q : Hash} (h : m < k) (hq : l[m]? = some q) : q ∈ l.take k := by
  obtain ⟨h1, h2⟩ := List.getElem?_eq_some_iff.1 hq
  exact List.mem_iff_getElem.2 ⟨m, by simp; omega, by rw [List.getElem_take]; exact h2⟩
end Go.Db
namespace Go.Sx
open Go
section
variable {P : Program} {n : Nat} {w0 : World} {ro : Hp} {E : Env} {M : Res} {dst : Option Tmp} {ty T T' : TypeId} {pos : String} {af : Array Edge} {g : Option (Nat × Bool)} {x : Operand}
theorem run_ptrNil {e : Nat} {a : Option Addr} (ht : P.underlying T = some (.pointer e)) (W : World) (d : Nat) : (Op.equalIn (d + 1) T (.pointer a) (.pointer none)).run P W = .ok a.isNone W := by
  cases a <;> simp [Op.equalIn, run_underlying ht]
theorem V.ptrEq {e : Nat} {a : Option Addr} (hx : opnd E x = some (.pointer a)) (ht : P.underlying T = some (.pointer e)) :
    V P n w0 ro E M ⟨dst, .binOp .eql T x (.const (.pointer none)) T', ty, pos, af, g⟩ (.bool a.isNone) := by
  refine .of_run fun a' W f i => ?_
  have hg : (eqGuard .eql T x (.const (.pointer none)) (.pointer a) (.pointer none)).run P W = .ok () W := by unfold eqGuard; split <;> rfl
  have hb : (binOp .eql T (.pointer a) (.pointer none)).run P W = .ok (.bool a.isNone) W := by
    simp only [binOp]; simp [Op.equal, Op.maxDepth, run_ptrNil ht W 9999]
  have hy : a'.eval (.const (.pointer none)) = .pointer none := rfl
  simp only [execOp, f.eval hx, hy, Sem.run_bind, hg, Result.andThen_ok, hb, Sem.run_pure]
theorem V.ptrNe {e : Nat} {a : Option Addr} (hx : opnd E x = some (.pointer a)) (ht : P.underlying T = some (.pointer e)) :
    V P n w0 ro E M ⟨dst, .binOp .neq T x (.const (.pointer none)) T', ty, pos, af, g⟩ (.bool (!a.isNone)) := by
  refine .of_run fun a' W f i => ?_
  have hg : (eqGuard .neq T x (.const (.pointer none)) (.pointer a) (.pointer none)).run P W = .ok () W := by unfold eqGuard; split <;> rfl
  have hb : (binOp .neq T (.pointer a) (.pointer none)).run P W = .ok (.bool (!a.isNone)) W := by
    simp only [binOp]; simp [Op.equal, Op.maxDepth, run_ptrNil ht W 9999]
  have hy : a'.eval (.const (.pointer none)) = .pointer none := rfl
  simp only [execOp, f.eval hx, hy, Sem.run_bind, hg, Result.andThen_ok, hb, Sem.run_pure]
end
end Go.Sx
namespace Go.Sx
open Go
theorem take_splice {α : Type} (l row : List α) {off sz N : Nat} (h1 : off + sz ≤ N) (h2 : N ≤ l.length) (hr : row.length = sz) :
    (l.take off ++ row ++ l.drop (off + sz)).take N = (l.take N).take off ++ row ++ (l.take N).drop (off + sz) := by
  have hl : (l.take off ++ row).length = off + sz := by simp; omega
  rw [List.take_append, hl, List.take_of_length_le (by omega), List.take_take, Nat.min_eq_left (by omega), List.drop_take]
theorem flatten_set {sz : Nat} {xs : List (List Value)} {i : Nat} {row : List Value} (h : ∀ x ∈ xs, x.length = sz) (hi : i < xs.length) :
    (xs.set i row).flatten = xs.flatten.take (i * sz) ++ row ++ xs.flatten.drop (i * sz + sz) := by
  have e : xs = xs.take i ++ xs[i] :: xs.drop (i + 1) := by
    conv => lhs; rw [← List.take_append_drop i xs, List.drop_eq_getElem_cons hi]
  have h1 : (xs.take i).flatten.length = i * sz := by
    rw [length_flatten_of fun x hx => h x (List.mem_of_mem_take hx), List.length_take, Nat.min_eq_left (by omega)]
  have h2 : xs[i].length = sz := h _ (List.getElem_mem hi)
  have e1 : xs.flatten = (xs.take i).flatten ++ (xs[i] ++ (xs.drop (i + 1)).flatten) := by
    exact (congrArg List.flatten e).trans (by simp only [List.flatten_append, List.flatten_cons])
  have e2 : (xs.set i row).flatten = (xs.take i).flatten ++ (row ++ (xs.drop (i + 1)).flatten) := by
    rw [List.set_eq_take_append_cons_drop, if_pos hi]; simp
  rw [e2, e1, List.take_left' h1, ← List.append_assoc (xs.take i).flatten xs[i], List.drop_left' (by rw [List.length_append, h1, h2]), List.append_assoc]
section
variable {P : Program} {Q : Exit → Act → World → Prop} {n : Nat} {w0 : World} {ro : Hp} {E : Env} {M R : Res}
variable {dst : Option Tmp} {ty T T' T0 : TypeId} {pos : String} {af : Array Edge} {g : Option (Nat × Bool)} {x y z : Operand}
variable {v : Value} {sz e : Nat} {xs : List (List Value)}
theorem Inv.owRS {l : Nat} {W : World} (i : Inv w0 ro M W) (hq : Sx.pull M l = some (Ow v e sz xs, R)) : RS (hp W) v sz xs := by
  obtain ⟨h, h1, h2⟩ := (i.pull hq).get
  exact h2.rs h1
theorem JO.stO {K : Act → World → Prop} {u : Value} {l i : Nat} (hx : opnd E x = some (.pointer (some (elA v i sz)))) (hy : opnd E y = some u) (hp : Sx.pull M l = some (Ow v e sz xs, R))
    (hT : (P.info? T).map (·.size) = some sz) (hi : i < xs.length) [hc : Cz u sz] (h : Kp n w0 ro K E ((l, Ow v e sz (xs.set i u.cells.toList)) :: R)) :
    JO P Q n w0 ro K ⟨none, .store T x y, ty, pos, af, g⟩ E M := fun a W f iv => by
  have hu := hc.sz
  have h1 := hc.ones
  obtain ⟨h0, hl0, ho⟩ := (iv.pull hp).get
  obtain ⟨hrow, hcase⟩ := ho
  rcases hcase with ⟨_, rfl⟩ | ⟨b, cap, cur, hv, hb, hcl, hm, hs, ht⟩
  · simp at hi
  have hbW : W.heap[b]? = some (.cells cur e (0, 0)) := hl0 _ _ hb
  have hfit : i * sz + sz ≤ cur.size := by
    have h2 : (i + 1) * sz ≤ cap * sz := Nat.mul_le_mul_right _ (by omega)
    rw [Nat.add_mul, Nat.one_mul] at h2; omega
  have hea : elA v i sz = ⟨b, i * sz, none⟩ := by rw [hv]; simp [elA, slB, slO]
  have hst := run_storeVar hT hbW hu h1 hfit
  unfold Oper.wp
  simp only [execOp, f.eval hx, f.eval hy, hea, Instr.storeAt, Instr.sureAddr, Sem.run_bind, Sem.run_pure, Result.andThen_ok, hst, Oper.upon_skip]
  refine h _ _ (f.put_none _) ?_
  have hul : u.cells.toList.length = sz := by simpa using hu
  have hset : ∀ x ∈ xs.set i u.cells.toList, x.length = sz ∧ Ones x := by
    intro x hx
    rcases List.mem_or_eq_of_mem_set hx with hx | rfl
    · exact hrow x hx
    · exact ⟨hul, h1⟩
  refine (iv.pull hp).turn rfl rfl rfl fun k hk hA => ?_
  obtain ⟨_, hcase2⟩ := hA
  rcases hcase2 with ⟨hv2, rfl⟩ | ⟨b2, cap2, cur2, hv2, hb2, _⟩
  · simp at hi
  have hbb : b2 = b := by rw [hv] at hv2; cases hv2; rfl
  subst hbb
  have hkk : k b2 ≠ none := by rw [hb2]; simp
  refine ⟨fun j => if j = b2 then some (.cells (cur.toList.take (i * sz) ++ u.cells.toList ++ cur.toList.drop (i * sz + sz)).toArray e (0, 0)) else none, ⟨hset, .inr ⟨b2, cap, _, ?_, if_pos rfl, by simpa using hcl, hm, ?_, ?_⟩⟩, ?_, ?_, ?_⟩
  · simpa using hv
  · simp [hul]; omega
  · rw [List.length_set, flatten_set (fun x hx => (hrow x hx).1) hi, ← ht]
    have hle : i * sz + sz ≤ xs.length * sz := by
      have h2 : (i + 1) * sz ≤ xs.length * sz := Nat.mul_le_mul_right _ hi
      rw [Nat.add_mul, Nat.one_mul] at h2; exact h2
    have hcs : xs.length * sz ≤ cur.toList.length := by
      have h2 : xs.length * sz ≤ cap * sz := Nat.mul_le_mul_right _ hcl
      simpa [hs] using h2
    rw [List.toList_toArray]
    exact take_splice _ _ hle hcs hul
  · intro j o hj
    by_cases hjb : j = b2
    · subst hjb; dsimp only at hj; rw [if_pos rfl] at hj; cases hj; exact setRow_hp hbW
    · dsimp only at hj; rw [if_neg hjb] at hj; cases hj
  · intro j o hj
    by_cases hjb : j = b2
    · subst hjb; left; exact hkk
    · dsimp only at hj; rw [if_neg hjb] at hj; cases hj
  · intro j o hj hn
    have : j ≠ b2 := by intro e; subst e; exact hkk hn
    show (W.setRow b2 _).heap[j]? = _
    rw [setRow_other W b2 j _ this]; exact hj
theorem V.iaO {l : Nat} {k : IntKind} {j : Int} (hx : opnd E x = some v) (hp : Sx.pull M l = some (Ow v e sz xs, R)) (hy : opnd E y = some (.int k j)) (ht : Sl P T e sz) (hj : 0 ≤ j ∧ j < xs.length) :
    V P n w0 ro E M ⟨dst, .indexAddr T x y, ty, pos, af, g⟩ (.pointer (some (elA v j.toNat sz))) := fun a W f iv => by
  have hR := iv.owRS hp
  obtain ⟨c, cs, T1, fr, hv, hr, hm⟩ := hR.mem (by intro h; subst h; simp at hj; omega)
  have := V.ia (P := P) (n := n) (w0 := w0) (ro := ro) (M := M) (dst := dst) (ty := ty) (pos := pos) (af := af) (g := g) (m := xs.length) (c := c) (b := slB v) (off := slO v) (hx.trans (by rw [← hv])) hy ht hj
  exact this a W f iv
theorem flatten_splice {sz s off i : Nat} {xs : List (List Value)} {row c : List Value} (h : ∀ x ∈ xs, x.length = sz) (hi : xs[i]? = some row) (ho : off + s ≤ sz) :
    (xs.set i (row.take off ++ c ++ row.drop (off + s))).flatten = xs.flatten.take (i * sz + off) ++ c ++ xs.flatten.drop (i * sz + off + s) := by
  have hlt := (List.getElem?_eq_some_iff.1 hi).1
  have hrow := (List.getElem?_eq_some_iff.1 hi).2
  have e : xs = xs.take i ++ row :: xs.drop (i + 1) := by
    conv => lhs; rw [← List.take_append_drop i xs, List.drop_eq_getElem_cons hlt, hrow]
  have h1 : (xs.take i).flatten.length = i * sz := by
    rw [length_flatten_of fun x hx => h x (List.mem_of_mem_take hx), List.length_take, Nat.min_eq_left (by omega)]
  have h2 : row.length = sz := by rw [← hrow]; exact h _ (List.getElem_mem hlt)
  have e1 : xs.flatten = (xs.take i).flatten ++ (row ++ (xs.drop (i + 1)).flatten) :=
    (congrArg List.flatten e).trans (by simp only [List.flatten_append, List.flatten_cons])
  have e2 : (xs.set i (row.take off ++ c ++ row.drop (off + s))).flatten = (xs.take i).flatten ++ ((row.take off ++ c ++ row.drop (off + s)) ++ (xs.drop (i + 1)).flatten) := by
    rw [List.set_eq_take_append_cons_drop, if_pos hlt]; simp
  have e3 : ((xs.take i).flatten ++ (row ++ (xs.drop (i + 1)).flatten)).take (i * sz + off) = (xs.take i).flatten ++ row.take off := by
    rw [List.take_append, List.take_of_length_le (by omega), h1, Nat.add_sub_cancel_left, List.take_append_of_le_length (by omega)]
  have e4 : ((xs.take i).flatten ++ (row ++ (xs.drop (i + 1)).flatten)).drop (i * sz + off + s) = row.drop (off + s) ++ (xs.drop (i + 1)).flatten := by
    rw [Nat.add_assoc, List.drop_append, List.drop_of_length_le (by omega), h1, Nat.add_sub_cancel_left, List.drop_append_of_le_length (by omega)]; rfl
  rw [e2, e1, e3, e4]; simp
/-- what an owned slice reads as, as if it were only read -/
theorem V.ofO {l : Nat} {o : Oper} {u : Value} (hp : Sx.pull M l = some (Ow v e sz xs, R)) (h : ∀ ro', RS ro' v sz xs → V P n w0 ro' E [] o u) : V P n w0 ro E M o u := fun a W f iv =>
  h (Sx.hp W) (iv.owRS hp) a W f ⟨iv.os, iv.tape, iv.output, fun _ => none, (fun _ => .inr rfl), Hp.le_refl _, (fun _ _ x => by cases x), trivial⟩
/-- a leaf of an element of an owned slice, written -/
theorem JO.stOl {K : Act → World → Prop} {u w : Value} {l i k s off : Nat} {vs : Lv} (hx : opnd E x = some (.pointer (some ⟨slB v, slO v + i * sz + off, none⟩))) (hy : opnd E y = some u) (hp : Sx.pull M l = some (Ow v e sz xs, R))
    (hT : (P.info? T).map (·.size) = some s) (hi : xs[i]? = some (flat vs)) (hw : Wl vs) (hk : vs[k]? = some (s, w)) (ho : lsz (vs.take k) = off) [hc : Cz u s] (h : Kp n w0 ro K E ((l, Ow v e sz (xs.set i (flat (vs.set k (s, u))))) :: R)) :
    JO P Q n w0 ro K ⟨none, .store T x y, ty, pos, af, g⟩ E M := fun a W f iv => by
  have hu := hc.sz
  have h1 := hc.ones
  obtain ⟨h0, hl0, ho'⟩ := (iv.pull hp).get
  obtain ⟨hrow, hcase⟩ := ho'
  have hlt := (List.getElem?_eq_some_iff.1 hi).1
  have hsz : lsz vs = sz := by rw [← hw.flat_length]; exact (hrow _ (List.mem_of_getElem? hi)).1
  have hos : off + s ≤ sz := by
    rw [← hsz, split_at hk, lsz_append, lsz, ho]; simp
  rcases hcase with ⟨_, rfl⟩ | ⟨b, cap, cur, hv, hb, hcl, hm, hs, ht⟩
  · simp at hlt
  have hbW : W.heap[b]? = some (.cells cur e (0, 0)) := hl0 _ _ hb
  have hle : i * sz + sz ≤ xs.length * sz := by
    have h2 : (i + 1) * sz ≤ xs.length * sz := Nat.mul_le_mul_right _ hlt
    rw [Nat.add_mul, Nat.one_mul] at h2; exact h2
  have hcs : xs.length * sz ≤ cur.size := by
    rw [hs]; exact Nat.mul_le_mul_right _ hcl
  have hfit : i * sz + off + s ≤ cur.size := by omega
  have hea : (⟨slB v, slO v + i * sz + off, none⟩ : Addr) = ⟨b, i * sz + off, none⟩ := by rw [hv]; simp [slB, slO]
  have hst := run_storeVar (off := i * sz + off) hT hbW hu h1 hfit
  unfold Oper.wp
  simp only [execOp, f.eval hx, f.eval hy, hea, Instr.storeAt, Instr.sureAddr, Sem.run_bind, Sem.run_pure, Result.andThen_ok, hst, Oper.upon_skip]
  refine h _ _ (f.put_none _) ?_
  have hul : u.cells.toList.length = s := by simpa using hu
  have hwl : Wl (vs.set k (s, u)) := hw.set hu h1
  have hsz' : lsz (vs.set k (s, u)) = sz := by
    rw [← hwl.flat_length, ← flat_set hw hk ho hu]
    simp only [List.length_append, List.length_take, List.length_drop, hul, hw.flat_length, hsz]; omega
  have hset : ∀ x ∈ xs.set i (flat (vs.set k (s, u))), x.length = sz ∧ Ones x := by
    intro x hx
    rcases List.mem_or_eq_of_mem_set hx with hx | rfl
    · exact hrow x hx
    · exact ⟨by rw [hwl.flat_length, hsz'], hwl.ones⟩
  have hfl : (xs.set i (flat (vs.set k (s, u)))).flatten = xs.flatten.take (i * sz + off) ++ u.cells.toList ++ xs.flatten.drop (i * sz + off + s) := by
    rw [← flat_set hw hk ho hu]; exact flatten_splice (fun x hx => (hrow x hx).1) hi hos
  refine (iv.pull hp).turn rfl rfl rfl fun k' hk' hA => ?_
  obtain ⟨_, hcase2⟩ := hA
  rcases hcase2 with ⟨hv2, rfl⟩ | ⟨b2, cap2, cur2, hv2, hb2, _⟩
  · simp at hlt
  have hbb : b2 = b := by rw [hv] at hv2; cases hv2; rfl
  subst hbb
  have hkk : k' b2 ≠ none := by rw [hb2]; simp
  refine ⟨fun j => if j = b2 then some (.cells (cur.toList.take (i * sz + off) ++ u.cells.toList ++ cur.toList.drop (i * sz + off + s)).toArray e (0, 0)) else none, ⟨hset, .inr ⟨b2, cap, _, ?_, if_pos rfl, by simpa using hcl, hm, ?_, ?_⟩⟩, ?_, ?_, ?_⟩
  · simpa using hv
  · simp [hul]; omega
  · rw [List.length_set, hfl, ← ht, List.toList_toArray]
    exact take_splice _ _ (by omega) (by simpa using hcs) hul
  · intro j o hj
    by_cases hjb : j = b2
    · subst hjb; dsimp only at hj; rw [if_pos rfl] at hj; cases hj; exact setRow_hp hbW
    · dsimp only at hj; rw [if_neg hjb] at hj; cases hj
  · intro j o hj
    by_cases hjb : j = b2
    · subst hjb; left; exact hkk
    · dsimp only at hj; rw [if_neg hjb] at hj; cases hj
  · intro j o hj hn
    have : j ≠ b2 := by intro e; subst e; exact hkk hn
    show (W.setRow b2 _).heap[j]? = _
    rw [setRow_other W b2 j _ this]; exact hj
theorem RS.none_ {ro : Hp} {sz : Nat} : RS ro (.slice none 0 0) sz [] := ⟨⟨none, 0, rfl, Nat.le_refl _⟩, fun _ h => (by cases h), fun h => absurd rfl h⟩
end
end Go.Sx
namespace Go.Sx
open Go
theorem Sats.app : ∀ {A B : Res} {h : Hp}, Sats (A ++ B) h ↔ ∃ h1 h2, Hp.le h1 h ∧ Hp.le h2 h ∧ Hp.disj h1 h2 ∧ Sats A h1 ∧ Sats B h2
  | [], B, h => ⟨fun s => ⟨fun _ => none, h, (fun _ _ x => by cases x), Hp.le_refl _, (fun _ => .inl rfl), trivial, s⟩, fun ⟨_, h2, _, b, _, _, e⟩ => e.mono b⟩
  | (k, A) :: M, B, h => by
    constructor
    · rintro ⟨h1, h2, a, b, c, d, e⟩
      obtain ⟨h3, h4, f, g, i, j, m⟩ := Sats.app.1 e
      have d13 : Hp.disj h1 h3 := Hp.disj_le c (Hp.le_refl _) f
      refine ⟨Hp.or h1 h3, h4, ?_, Hp.le_trans g b, ?_, ⟨h1, h3, Hp.le_or_left, Hp.le_or_right d13, d13, d, j⟩, m⟩
      · intro n o hn
        cases hx : h1 n with
        | some y => simp [Hp.or, hx] at hn; subst hn; exact a n _ hx
        | none => simp [Hp.or, hx] at hn; exact b n _ (f n _ hn)
      · intro n
        rcases i n with x | x
        · rcases Hp.disj_le c (Hp.le_refl _) g n with y | y
          · left; simp [Hp.or, x, y]
          · exact .inr y
        · exact .inr x
    · rintro ⟨h5, h4, f, g, i, ⟨h1, h3, a, b, c, d, e⟩, m⟩
      have d34 : Hp.disj h3 h4 := Hp.disj_le i b (Hp.le_refl _)
      refine ⟨h1, Hp.or h3 h4, Hp.le_trans a f, ?_, ?_, d, Sats.app.2 ⟨h3, h4, Hp.le_or_left, Hp.le_or_right d34, d34, e, m⟩⟩
      · intro n o hn
        cases hx : h3 n with
        | some y => simp [Hp.or, hx] at hn; subst hn; exact f n _ (b n _ hx)
        | none => simp [Hp.or, hx] at hn; exact g n _ hn
      · intro n
        rcases c n with x | x
        · exact .inl x
        · rcases Hp.disj_le i a (Hp.le_refl _) n with y | y
          · exact .inl y
          · right; simp [Hp.or, x, y]
/-- one resource made of several -/
theorem MSub.fold {N B R : Res} {l : Nat} {A : HP} (hA : ∀ h, Sats B h → A h) (s : MSub N (B ++ R)) : MSub N ((l, A) :: R) := fun h k => by
  obtain ⟨h1, h2, a, b, c, d, e⟩ := Sats.app.1 (s h k)
  exact ⟨h1, h2, a, b, c, hA _ d, e⟩
section
variable {P : Program} {Q : Exit → Act → World → Prop} {n : Nat} {w0 : World} {ro : Hp} {E : Env} {M R : Res}
theorem Kp.opn {ι : Type} {K : Act → World → Prop} {l : Nat} {A : HP} {B : ι → Res} (hp : pull M l = some (A, R)) (hA : ∀ h, A h → ∃ i, Sats (B i) h) (k : ∀ i, Kp n w0 ro K E (B i ++ R)) : Kp n w0 ro K E M := fun a W f i => by
  obtain ⟨hh, h1, h2, h3, s⟩ := (i.pull hp).own
  obtain ⟨g1, g2, a1, b1, c1, d1, e1⟩ := s
  obtain ⟨x, hx⟩ := hA _ d1
  exact k x a W f ⟨i.os, i.tape, i.output, hh, h1, h2, h3, Sats.app.2 ⟨g1, g2, a1, b1, c1, hx, e1⟩⟩
theorem C.opn {ι : Type} {c : Code} {l : Nat} {A : HP} {B : ι → Res} (hp : pull M l = some (A, R)) (hA : ∀ h, A h → ∃ i, Sats (B i) h) (k : ∀ i, C P Q n w0 ro c E (B i ++ R)) : C P Q n w0 ro c E M :=
  Kp.opn (K := fun a w => c.wp P Q a w) hp hA k
variable {f : FuncId} {args : Array Value}
theorem Fn.opn {ι : Type} {Φ : Value → Res → Prop} {l : Nat} {A : HP} {B : ι → Res} (hp : pull M l = some (A, R)) (hA : ∀ h, A h → ∃ i, Sats (B i) h) (k : ∀ i, Fn P f args w0 ro (B i ++ R) Φ) : Fn P f args w0 ro M Φ := fun W i => by
  obtain ⟨hh, h1, h2, h3, s⟩ := (i.pull hp).own
  obtain ⟨g1, g2, a1, b1, c1, d1, e1⟩ := s
  obtain ⟨x, hx⟩ := hA _ d1
  exact k x W ⟨i.os, i.tape, i.output, hh, h1, h2, h3, Sats.app.2 ⟨g1, g2, a1, b1, c1, hx, e1⟩⟩
theorem Fg.opn {ι : Type} {Φ : Value → Hp → Res → Prop} {l : Nat} {A : HP} {B : ι → Res} (hp : pull M l = some (A, R)) (hA : ∀ h, A h → ∃ i, Sats (B i) h) (k : ∀ i, Fg P f args w0 ro (B i ++ R) Φ) : Fg P f args w0 ro M Φ := fun W i => by
  obtain ⟨hh, h1, h2, h3, s⟩ := (i.pull hp).own
  obtain ⟨g1, g2, a1, b1, c1, d1, e1⟩ := s
  obtain ⟨x, hx⟩ := hA _ d1
  exact k x W ⟨i.os, i.tape, i.output, hh, h1, h2, h3, Sats.app.2 ⟨g1, g2, a1, b1, c1, hx, e1⟩⟩
theorem Fg.at {l l' : Nat} {A : HP} {Φ : Value → Hp → Res → Prop} (hp : pull M l = some (A, R)) (h : Fg P f args w0 ro ((l', A) :: R) Φ) : Fg P f args w0 ro M Φ := h.sub (MSub.pullL hp MSub.refl)
/-- two in front -/
theorem Fg.at2 {l l' k k' : Nat} {A B : HP} {R' : Res} {Φ : Value → Hp → Res → Prop} (hp : pull M l = some (A, R)) (hq : pull R k = some (B, R')) (h : Fg P f args w0 ro ((l', A) :: (k', B) :: R') Φ) : Fg P f args w0 ro M Φ :=
  h.sub (MSub.pullL hp (MSub.pullL hq MSub.refl))
theorem Fn.at2 {l l' k k' : Nat} {A B : HP} {R' : Res} {Φ : Value → Res → Prop} (hp : pull M l = some (A, R)) (hq : pull R k = some (B, R')) (h : Fn P f args w0 ro ((l', A) :: (k', B) :: R') Φ) : Fn P f args w0 ro M Φ :=
  h.sub (MSub.pullL hp (MSub.pullL hq MSub.refl))
theorem Pu.fg {v : Value} (h : Pu P f args w0 ro M v) : Fg P f args w0 ro M fun u ro' M' => u = v ∧ ro' = ro ∧ M' = M := fun W hW => (h W hW).mono fun _ _ ⟨a, b⟩ => ⟨v, ro, M, a, Hp.le_refl _, ⟨rfl, rfl, rfl⟩, b⟩
/-- the result's first resource is only read from now on -/
theorem Fg.fz {Φ : Value → Hp → Res → Prop} {Ψ : Value → Hp → Res → Prop} (h : Fg P f args w0 ro M Φ)
    (k : ∀ v ro' M', Hp.le ro ro' → Φ v ro' M' → ∃ (l : Nat) (A : HP) (R : Res), pull M' l = some (A, R) ∧ ∀ kk ro2, A kk → Hp.le kk ro2 → Hp.le ro' ro2 → Ψ v ro2 R) : Fg P f args w0 ro M Ψ := fun W hW =>
  (h W hW).mono fun _ W' ⟨v, ro', M', a, b, c, d⟩ => by
    obtain ⟨l, A, R, hp, hk⟩ := k v ro' M' b c
    obtain ⟨kk, hA, hd, hi⟩ := (d.pull hp).lend
    exact ⟨v, _, R, a, Hp.le_trans b Hp.le_or_left, hk kk _ hA (Hp.le_or_right hd) Hp.le_or_left, hi⟩
/-- lent while it is called -/
theorem Fg.lend {l : Nat} {A : HP} {Φ Ψ : Value → Hp → Res → Prop} (hp : pull M l = some (A, R))
    (h : ∀ k, A k → Hp.le ro (Hp.or ro k) → Hp.le k (Hp.or ro k) → Fn P f args w0 (Hp.or ro k) R fun v M' => Ψ v ro ((l, A) :: M')) (hΦ : ∀ v M', Ψ v ro M' → Φ v ro M') : Fg P f args w0 ro M Φ := fun W hW => by
  obtain ⟨k, hA, hd, hi⟩ := (hW.pull hp).lend
  refine (h k hA Hp.le_or_left (Hp.le_or_right hd) W hi).mono fun e W' ⟨r, R', h1, h2, h3⟩ => ⟨r, ro, (l, A) :: R', h1, Hp.le_refl _, hΦ _ _ h2, Inv.unlend (l := l) hA hd h3⟩
end
section
variable {P : Program} {Q : Exit → Act → World → Prop} {n : Nat} {w0 : World} {ro : Hp} {E : Env} {M R R2 : Res} {K : Act → World → Prop}
variable {ty T : TypeId} {pos : String} {af : Array Edge} {g : Option (Nat × Bool)} {x y : Operand} {sz e bytes d l : Nat} {v u : Value} {xs ys : List (List Value)}
theorem pull_self {l : Nat} {A : HP} {R : Res} : Sx.pull ((l, A) :: R) l = some (A, R) := by simp [Sx.pull, Nat.beq_refl]
/-- append, the result's header in the open -/
theorem JO.appRS (hn : Nat.blt d n = true) (hx : opnd E x = some v) (hy : opnd E y = some u) (hT : El P T e sz bytes) (hp : Sx.pull M l = some (Ow v e sz xs, R))
    (hs : RS ro u sz ys) (hb : (xs.length + ys.length) * bytes ≤ 140737488355328) (hm : xs.length + ys.length ≤ maxLen)
    (h : ∀ a c, Kp n w0 ro K ((d, .slice a (xs ++ ys).length c) :: E) ((l, Ow (.slice a (xs ++ ys).length c) e sz (xs ++ ys)) :: R)) :
    JO P Q n w0 ro K ⟨some d, .call { callee := .builtin .append, args := #[x, y], argTypes := #[T, T] }, ty, pos, af, g⟩ E M :=
  JO.appR hn hx hy hT hp hs hb hm fun v' => Kp.ow pull_self fun a c hv => by subst hv; exact h a c
theorem JO.appOS {l2 e2 : Nat} (hn : Nat.blt d n = true) (hx : opnd E x = some v) (hy : opnd E y = some u) (hT : El P T e sz bytes) (hp : Sx.pull M l = some (Ow v e sz xs, R))
    (hq : Sx.pull M l2 = some (Ow u e2 sz ys, R2)) (hb : (xs.length + ys.length) * bytes ≤ 140737488355328) (hm : xs.length + ys.length ≤ maxLen)
    (h : ∀ a c, Kp n w0 ro K ((d, .slice a (xs ++ ys).length c) :: E) ((l, Ow (.slice a (xs ++ ys).length c) e sz (xs ++ ys)) :: R)) :
    JO P Q n w0 ro K ⟨some d, .call { callee := .builtin .append, args := #[x, y], argTypes := #[T, T] }, ty, pos, af, g⟩ E M :=
  JO.appO hn hx hy hT hp hq hb hm fun v' => Kp.ow pull_self fun a c hv => by subst hv; exact h a c
theorem JO.bslS {e s bytes d len l : Nat} {ps : List (Nat × Operand)} {vs : List Value} (hn : Nat.blt d n = true) (hT : El P T e s bytes)
    (hi : ps.map (·.1) = List.range' 0 len) (hx : opnds E (ps.map (·.2)) = some vs) (hlen : vs.length = len) (hs : ∀ v ∈ vs, v.cells.size = s ∧ Ones v.cells.toList) (hsmall : len * s ≤ 2 ^ 24)
    (h : ∀ a c, Kp n w0 ro K ((d, .slice a (vs.map fun v => v.cells.toList).length c) :: E) ((l, Ow (.slice a (vs.map fun v => v.cells.toList).length c) e s (vs.map fun v => v.cells.toList)) :: M)) :
    JO P Q n w0 ro K ⟨some d, .buildSlice T len ps.toArray, ty, pos, af, g⟩ E M :=
  JO.bsl (l := l) hn hT hi hx hlen hs hsmall fun v' => Kp.ow pull_self fun a c hv => by subst hv; exact h a c
end
end Go.Sx
namespace Go.Sx
open Go
section
variable {P : Program} {Q : Exit → Act → World → Prop} {n : Nat} {w0 : World} {ro : Hp} {E : Env} {M R : Res}
variable {dst : Option Tmp} {ty T T' T0 : TypeId} {pos : String} {af : Array Edge} {g : Option (Nat × Bool)} {x y z : Operand}
theorem V.ldC {b off : Nat} {vs : Lv} {v : Value} (l : Nat) (hx : opnd E x = some (.pointer (some ⟨b, off, none⟩))) (hp : Sx.pull M l = some (St b vs T0, R)) (hT : Sc P T)
    (hv : (flat vs)[off]? = some v) : V P n w0 ro E M ⟨dst, .load T x, ty, pos, af, g⟩ v :=
  .of_run fun a W f iv => by
    obtain ⟨h1, h2⟩ := iv.box hp
    have := run_loadVar_sc (off := off) hT h1 (v := v) (by simpa using hv)
    simp [execOp, f.eval hx, Instr.loadAt, Instr.sureAddr, this]
theorem JO.stC {K : Act → World → Prop} {b off l : Nat} {vs : Lv} {v : Value} (us : Lv) (hx : opnd E x = some (.pointer (some ⟨b, off, none⟩))) (hy : opnd E y = some v)
    (hp : Sx.pull M l = some (St b vs T0, R)) (hT : (P.info? T).map (·.size) = some 1) (hv : v.cells = #[v]) (h1 : v.oneCell' = true) (ho : off < lsz vs) (he : (flat vs).set off v = flat us) (hw : Wl us)
    (h : Kp n w0 ro K E ((l, St b us T0) :: R)) :
    JO P Q n w0 ro K ⟨none, .store T x y, ty, pos, af, g⟩ E M := fun a W f iv => by
    obtain ⟨h2, h3⟩ := iv.box hp
    have hlen : (flat vs).length = lsz vs := h3.flat_length
    have hst := run_storeVar (off := off) (v := v) hT h2 (by rw [hv]; rfl) (by rw [hv]; intro u hu; simp at hu; subst hu; exact h1) (by simp only [List.size_toArray, hlen]; omega)
    have e2 : (flat vs).take off ++ [v] ++ (flat vs).drop (off + 1) = flat us := by
      rw [← he, List.set_eq_take_append_cons_drop, if_pos (by omega)]; simp
    rw [hv] at hst
    simp only [] at hst
    rw [e2] at hst
    unfold Oper.wp
    simp only [execOp, f.eval hx, f.eval hy, Instr.storeAt, Instr.sureAddr, Sem.run_bind, Sem.run_pure, Result.andThen_ok, hst, Oper.upon_skip]
    refine h _ _ (f.put_none _) ?_
    refine (iv.pull hp).turn rfl rfl rfl fun kk hk hA => ⟨fun j => if j = b then some (.cells (flat us).toArray T0 (0, 0)) else none, ⟨if_pos rfl, hw⟩, ?_, ?_, ?_⟩
    · intro j o hj
      by_cases hjb : j = b
      · subst hjb; dsimp only at hj; rw [if_pos rfl] at hj; cases hj; exact setRow_hp h2
      · dsimp only at hj; rw [if_neg hjb] at hj; cases hj
    · intro j o hj
      by_cases hjb : j = b
      · subst hjb; left; rw [hA.1]; simp
      · dsimp only at hj; rw [if_neg hjb] at hj; cases hj
    · intro j o hj hn
      have : j ≠ b := by intro e; subst e; rw [hA.1] at hn; cases hn
      show (W.setRow b _).heap[j]? = _
      rw [setRow_other W b j _ this]; exact hj
end
end Go.Sx
namespace Go.Sx
open Go
inductive Full (ps : List (Nat × Nat)) : Nat → Nat → List (Nat × Value) → List Lv → Prop
  | nil {k off : Nat} : Full ps k off [] []
  | cons {k off size : Nat} {v : Value} {us : Lv} {rest : List (Nat × Value)} {uss : List Lv} : ps[k]? = some (off, size) → v.cells.toList = flat us → Wl us → lsz us = size →
      Full ps (k + 1) (off + size) rest uss → Full ps k off ((k, v) :: rest) (us :: uss)
theorem Full.one {ps : List (Nat × Nat)} {k off s : Nat} {v : Value} {rest : List (Nat × Value)} {uss : List Lv} (h1 : ps[k]? = some (off, s)) [c : Cz v s] (h : Full ps (k + 1) (off + s) rest uss) : Full ps k off ((k, v) :: rest) ([(s, v)] :: uss) :=
  Full.cons h1 (by simp [flat]) (Wl.cons c.sz c.ones Wl.nil) (by simp [lsz]) h
theorem Full.ags {ps : List (Nat × Nat)} {k off s : Nat} {us : Lv} {rest : List (Nat × Value)} {uss : List Lv} (h1 : ps[k]? = some (off, s)) (h4 : lsz us = s) [c : Wc us] (h : Full ps (k + 1) (off + s) rest uss) : Full ps k off ((k, ag us) :: rest) (us :: uss) :=
  Full.cons h1 rfl c.wl h4 h
theorem fill_full {ps : List (Nat × Nat)} {k off : Nat} {parts : List (Nat × Value)} {uss : List Lv} (h : Full ps k off parts uss) : ∀ done tail : List Value, done.length = off → tail.length = lsz uss.flatten →
    Instr.fill (ps.toArray[·]?) (done ++ tail).toArray parts = some (done ++ flat uss.flatten).toArray := by
  induction h with
  | nil =>
    intro done tail _ ht
    have : tail = [] := List.length_eq_zero_iff.1 (by simpa [lsz] using ht)
    subst this; rfl
  | @cons k off size v us rest uss h1 h2 h3 h4 h5 ih =>
    intro done tail hd ht
    rw [List.flatten_cons, lsz_append, h4] at ht
    have hv : v.cells.size = size := by rw [← Array.length_toList, h2, h3.flat_length, h4]
    rw [fill_step (off := off) (size := size) (by simpa using h1) hv (by simp; omega)]
    have e : (done ++ tail).toArray.toList.take off ++ v.cells.toList ++ (done ++ tail).toArray.toList.drop (off + size) = (done ++ flat us) ++ tail.drop size := by
      have e1 : (done ++ tail).toArray.toList.take off = done := List.take_left' hd
      have e2 : (done ++ tail).toArray.toList.drop (off + size) = tail.drop size := by
        show (done ++ tail).drop (off + size) = _
        rw [← List.drop_drop, List.drop_left' hd]
      rw [e1, e2, h2]
    rw [e, ih (done ++ flat us) (tail.drop size) (by rw [List.length_append, hd, h3.flat_length, h4]) (by simp; omega), List.flatten_cons, flat_append, List.append_assoc]
section
variable {P : Program} {n : Nat} {w0 : World} {ro : Hp} {E : Env} {M : Res} {dst : Option Tmp} {ty T : TypeId} {pos : String} {af : Array Edge} {g : Option (Nat × Bool)}
theorem V.bldF {l : List (Nat × Operand)} {vs : List Value} {ps : List (Nat × Nat)} {zs : Lv} {uss : List Lv} (hx : opnds E (l.map (·.2)) = some vs) (hz : Zr P T zs) (hp : Pls P T ps)
    (hf : Full ps 0 0 ((l.map (·.1)).zip vs) uss) (hl : lsz zs = lsz uss.flatten) (hzl : (flat zs).length = lsz zs) : V P n w0 ro E M ⟨dst, .build T l.toArray, ty, pos, af, g⟩ (ag uss.flatten) :=
  .of_run fun a W f i => by
    obtain ⟨zv, hz1, hz2⟩ := hz.ex
    obtain ⟨fs, hu, hfs⟩ := hp
    have hzz : (zeroValue T).run P W = .ok zv W := by
      cases hq : P.info? T with
      | none => simp [hq] at hz1
      | some i => simp [hq] at hz1; simp [zeroValue, typeInfo, hq, hz1]
    have hzc : zv.cells = (flat zs).toArray := by rw [← hz2]
    have hfill := fill_full hf [] (flat zs) rfl (by rw [hzl, hl])
    simp only [List.nil_append] at hfill
    have hpl : (fs.mapM fun (f : Field) => do pure (f.offset, ← sizeOf f.type)).run P W = .ok ps.toArray W := by
      rw [Array.mapM_eq_mapM_toList, Sem.run_map, run_places fs.toList ps W hfs]; rfl
    simp only [execOp, parts_eval f l vs hx, Instr.build, Sem.run_bind, hzz, Result.andThen_ok, run_underlying hu, hpl, hzc, hfill, Sem.run_pure]
    rfl
end
instance {vs : Lv} {k : Nat} [w : Wc vs] : Wc (vs.take k) := ⟨w.wl.sub fun _ h => List.mem_of_mem_take h⟩
instance {vs : Lv} {k : Nat} [w : Wc vs] : Wc (vs.drop k) := ⟨w.wl.sub fun _ h => List.mem_of_mem_drop h⟩
end Go.Sx
namespace Go.Sx
open Go
theorem flat_rep {row : List Value} {sz : Nat} (hl : row.length = sz) (h0 : 0 < sz) : ∀ (n j : Nat), j < n * sz → (List.replicate n row).flatten[j]? = row[j % sz]?
  | 0, j, h => by simp at h
  | n + 1, j, h => by
    rw [List.replicate_succ, List.flatten_cons]
    by_cases hj : j < sz
    · rw [List.getElem?_append_left (by omega), Nat.mod_eq_of_lt hj]
    · rw [List.getElem?_append_right (by omega), hl, flat_rep hl h0 n (j - sz) (by rw [Nat.add_mul] at h; omega), ← Nat.mod_eq_sub_mod (by omega)]
section
variable {P : Program} {Q : Exit → Act → World → Prop} {n : Nat} {w0 : World} {ro : Hp} {E : Env} {M R : Res} {K : Act → World → Prop}
variable {ty T : TypeId} {pos : String} {af : Array Edge} {g : Option (Nat × Bool)} {x y : Operand} {sz e bytes d l : Nat}
theorem JO.mkS {m : Nat} {row : List Value} {k k' : IntKind} (hn : Nat.blt d n = true) (hx : opnd E x = some (.int k (m : Int))) (hy : opnd E y = some (.int k' (m : Int))) (hT : El P T e sz bytes)
    (hz : ((P.info? e).bind (·.zero)).map (·.cells.toList) = some row) (h1 : Ones row) (hb : bytes * m ≤ 140737488355328) (hm : m ≤ maxLen)
    (h : ∀ a c, Kp n w0 ro K ((d, .slice a (List.replicate m row).length c) :: E) ((l, Ow (.slice a (List.replicate m row).length c) e sz (List.replicate m row)) :: M)) :
    JO P Q n w0 ro K ⟨some d, .makeSlice T x y, ty, pos, af, g⟩ E M := fun a W f iv => by
  obtain ⟨i, z, hi, hzz, hsize, hbytes, hzs⟩ := hT.inf
  have hpos := hT.pos
  subst hsize
  subst hbytes
  have hrow : row = z.cells.toList := by
    rw [hi] at hz; simp [hzz] at hz; exact hz.symm
  have hrl : row.length = i.size := by rw [hrow]; simpa using hzs
  have hb' : (i.bytes : Int) * (m : Int) ≤ 281474976710656 := by
    have h : ((i.bytes * m : Nat) : Int) ≤ 281474976710656 := by omega
    rwa [Int.natCast_mul] at h
  have hm' : (m : Int) ≤ 9223372036854775807 := by simp only [maxLen] at hm; omega
  have hr := run_make (P := P) W T e i z hT.ut hi hzz k k' m m (by omega) (Int.le_refl _) hb' hm'
  simp only [Int.toNat_natCast] at hr
  have hrun : (execOp a.eval ⟨some d, .makeSlice T x y, ty, pos, af, g⟩).run P W = .ok (.value (.slice (some ⟨W.heap.size, 0, none⟩) m m)) (W.alloc (.cells (madeCells z.cells (m * i.size)) e)) := by
    simp [execOp, f.eval hx, f.eval hy, hr]
  unfold Oper.wp
  rw [hrun, Oper.upon_value]
  have hlen : (List.replicate m row).length = m := List.length_replicate
  have := h (some ⟨W.heap.size, 0, none⟩) m
  rw [hlen] at this
  refine this _ _ (f.put _ hn) (iv.new l _ ⟨?_, .inr ⟨W.heap.size, m, _, by rw [hlen], if_pos rfl, by rw [hlen]; exact Nat.le_refl _, hm, by rw [size_madeCells], ?_⟩⟩)
  · intro x hx
    obtain ⟨_, rfl⟩ := List.mem_replicate.1 hx
    exact ⟨hrl, h1⟩
  · rw [hlen, List.take_of_length_le (by rw [Array.length_toList, size_madeCells]; exact Nat.le_refl _)]
    apply List.ext_getElem?
    intro j
    by_cases hj : j < m * i.size
    · rw [flat_rep hrl hpos m j hj, hrow, Array.getElem?_toList, Array.getElem?_toList]
      simp only [madeCells, Array.getElem?_map, Array.getElem?_range, hj, if_true, Option.map_some]
      have hlt : j % z.cells.size < z.cells.size := Nat.mod_lt _ (by omega)
      rw [← hzs]
      simp [hlt]
    · rw [List.getElem?_eq_none (by rw [Array.length_toList, size_madeCells]; omega), List.getElem?_eq_none]
      rw [length_flatten_of (sz := i.size)]
      · rw [hlen]; omega
      · intro x hx; obtain ⟨_, rfl⟩ := List.mem_replicate.1 hx; exact hrl
end
end Go.Sx
