import Derived.Test.YtpcnnjnddnaogaaGreatDoorEd
import Derived.Test.YtpcnnjnddnaogaaGreatDoorEe
set_option linter.unusedVariables false
set_option linter.unusedSimpArgs false
set_option linter.unusedSectionVars false
set_option linter.unnecessarySimpa false
set_option exponentiation.threshold 1000
namespace Go.Db
open Go Go.Sx
theorem hc_len (h : Hash) : (hc h).length = 8 := by simp [hc]
theorem hc_get (h : Hash) {i : Nat} (hi : i < 8) : (hc h)[i]? = some (bv (h.toList.getD i 0)) := by
  unfold hc
  rw [List.getElem?_map, List.getD_eq_getElem?_getD, List.getElem?_eq_getElem (by simpa using hi)]; rfl
theorem hc_set (h : Hash) {i : Nat} (hi : i < 8) (x : UInt8) : (hc h).set i (bv x) = hc (h.set i x hi) := by
  unfold hc
  rw [Vector.toList_set, List.map_set]
def pc (p : Vector Hash 16) : List Value := (hvs p).cells.toList
theorem pc_eq (p : Vector Hash 16) : pc p = (p.toList.map hc).flatten := by
  have : pc p = flat (uni hv 8 p.toList) := rfl
  rw [this]
  induction p.toList with
  | nil => rfl
  | cons x l ih =>
    show (hv x).cells.toList ++ flat (uni hv 8 l) = _
    rw [ih, List.map_cons, List.flatten_cons]; rfl
theorem flat_at : ∀ (l : List Hash) (k i : Nat), k < l.length → i < 8 → (l.map hc).flatten[8 * k + i]? = some (bv ((l.getD k h0).toList.getD i 0))
  | [], k, i, h, _ => by simp at h
  | x :: l, 0, i, _, hi => by
    rw [List.map_cons, List.flatten_cons, List.getElem?_append_left (by rw [hc_len]; omega), Nat.mul_zero, Nat.zero_add, hc_get x hi]; rfl
  | x :: l, k + 1, i, h, hi => by
    simp only [List.length_cons] at h
    rw [List.map_cons, List.flatten_cons, List.getElem?_append_right (by rw [hc_len]; omega), hc_len, show 8 * (k + 1) + i - 8 = 8 * k + i by omega, flat_at l k i (by omega) hi]; rfl
theorem flat_set : ∀ (l : List Hash) (k i : Nat) (x : UInt8) (hk : k < l.length) (hi : i < 8), (l.map hc).flatten.set (8 * k + i) (bv x) = ((l.set k ((l.getD k h0).set i x hi)).map hc).flatten
  | [], k, i, x, h, _ => by simp at h
  | y :: l, 0, i, x, _, hi => by
    rw [List.map_cons, List.flatten_cons, List.set_append_left _ _ (by rw [hc_len]; omega), Nat.mul_zero, Nat.zero_add, hc_set y hi]; rfl
  | y :: l, k + 1, i, x, h, hi => by
    simp only [List.length_cons] at h
    rw [List.map_cons, List.flatten_cons, List.set_append_right _ _ (by rw [hc_len]; omega), hc_len, show 8 * (k + 1) + i - 8 = 8 * k + i by omega, flat_set l k i x (by omega) hi]; rfl
def bendP (p : Vector Hash 16) (x : UInt8) : Vector Hash 16 := p.set 3 ((p.toList.getD 3 h0).set 0 x)
theorem pc_at (p : Vector Hash 16) : (pc p)[24]? = some (bv ((p.toList.getD 3 h0).toList.getD 0 0)) := by rw [pc_eq]; exact flat_at p.toList 3 0 (by simp) (by decide)
theorem pc_set (p : Vector Hash 16) (x : UInt8) : (pc p).set 24 (bv x) = pc (bendP p x) := by
  rw [pc_eq, pc_eq]
  have h := flat_set p.toList 3 0 x (by simp) (by decide)
  rw [h]
  unfold bendP
  rw [Vector.toList_set]
theorem claim_flat (c : ClaimD) : flat c.lv = iv c.side :: iv c.account :: (hc c.state.owner ++ iv c.state.amount :: iv c.state.nonce :: (pc c.proof ++ [])) := rfl
theorem claim_own (c : ClaimD) : (flat c.lv)[4]? = some (bv (c.state.owner.toList.getD 2 0)) := by
  rw [claim_flat]
  show (hc c.state.owner ++ _)[2]? = _
  rw [List.getElem?_append_left (by rw [hc_len]; decide), hc_get _ (by decide)]
theorem claim_prf (c : ClaimD) : (flat c.lv)[36]? = some (bv ((c.proof.toList.getD 3 h0).toList.getD 0 0)) := by
  rw [claim_flat]
  show (hc c.state.owner ++ _)[34]? = _
  rw [List.getElem?_append_right (by rw [hc_len]; decide), hc_len]
  show (pc c.proof ++ [])[24]? = _
  rw [List.append_nil, pc_at]
def bendO (c : ClaimD) (x : UInt8) : ClaimD := { c with state := { c.state with owner := c.state.owner.set 2 x } }
def bendQ (c : ClaimD) (x : UInt8) : ClaimD := { c with proof := bendP c.proof x }
theorem claim_setO (c : ClaimD) (x : UInt8) : (flat c.lv).set 4 (bv x) = flat (bendO c x).lv := by
  rw [claim_flat, claim_flat]
  show iv c.side :: iv c.account :: (hc c.state.owner ++ _).set 2 (bv x) = _
  rw [List.set_append_left _ _ (by rw [hc_len]; decide), hc_set _ (by decide)]; rfl
theorem claim_setQ (c : ClaimD) (x : UInt8) : (flat c.lv).set 36 (bv x) = flat (bendQ c x).lv := by
  rw [claim_flat, claim_flat]
  show iv c.side :: iv c.account :: (hc c.state.owner ++ _).set 34 (bv x) = _
  rw [List.set_append_right _ _ (by rw [hc_len]; decide), hc_len]
  show iv c.side :: iv c.account :: (hc c.state.owner ++ iv c.state.amount :: iv c.state.nonce :: (pc c.proof ++ []).set 24 (bv x)) = _
  rw [List.append_nil, pc_set, ← List.append_nil (pc (bendP c.proof x))]; rfl
theorem claim_wl (c : ClaimD) : Wl c.lv := Wc.wl
theorem xor_byte (x : UInt8) : Value.int .u8 ((x.toNat ^^^ 1 : Nat) : Int) = bv (x ^^^ 1) := by
  unfold bv
  rw [UInt8.toNat_xor]; rfl
theorem claim0_acc (at_ am : List UInt16) (i : Nat) : ∃ n : Nat, (claim0 at_ am i).account = (n : Int) ∧ n < 65536 := by
  unfold claim0
  split
  · exact ⟨_, rfl, UInt16.toNat_lt _⟩
  · exact ⟨0, rfl, by decide⟩
def bendAm (c : ClaimD) (n : Int) : ClaimD := { c with state := { c.state with amount := n } }
def bendNo (c : ClaimD) (n : Int) : ClaimD := { c with state := { c.state with nonce := n } }
def bendAc (c : ClaimD) (n : Int) : ClaimD := { c with account := n }
end Go.Db
namespace Go.Sx
open Go
theorem V.xorB {P : Program} {n : Nat} {w0 : World} {ro : Hp} {E : Env} {M : Res} {dst : Option Tmp} {T T' ty : TypeId} {pos : String} {af : Array Edge} {g : Option (Nat × Bool)} {x y : Operand} {a b : Nat} (hx : opnd E x = some (.int .u8 (a : Int))) (hy : opnd E y = some (.int .u8 (b : Int))) (ha : a < 256) (hb : b < 256) :
    V P n w0 ro E M ⟨dst, .binOp .xor T x y T', ty, pos, af, g⟩ (.int .u8 ((a ^^^ b : Nat) : Int)) :=
  V.bin hx hy fun W => by
    have h : (BitVec.ofInt 8 (a : Int) ^^^ BitVec.ofInt 8 (b : Int)).toNat = a ^^^ b := by
      rw [BitVec.ofInt_natCast, BitVec.ofInt_natCast, BitVec.toNat_xor, BitVec.toNat_ofNat, BitVec.toNat_ofNat, Nat.mod_eq_of_lt (by omega), Nat.mod_eq_of_lt (by omega)]
    show (Sem.run P (pure (Value.int .u8 (IntKind.u8.wrap ((BitVec.ofInt 8 (a : Int) ^^^ BitVec.ofInt 8 (b : Int)).toNat : Int)))) W) = _
    rw [h]
    have h2 : a ^^^ b < 2 ^ 8 := Nat.xor_lt_two_pow ha hb
    have h3 : IntKind.u8.wrap ((a ^^^ b : Nat) : Int) = ((a ^^^ b : Nat) : Int) := by simp [IntKind.wrap, IntKind.bits, IntKind.signed]; omega
    rw [h3]; rfl
end Go.Sx
namespace Go.Db
open Go Go.Sx
structure KeepI (x : SideR) (u : UD) (k : Nat) : Prop where
  sum : x.balance + x.claimed = 5000
  cl : x.claimed = u.total
  len : x.used.length = u.coins.length
  b : 0 ≤ x.balance
  uk : x.used.length ≤ k
  sk : u.steps.length ≤ k
  ui : UI u
theorem KeepI.up {x : SideR} {u : UD} {k : Nat} (h : KeepI x u k) : KeepI x u (k + 1) := ⟨h.sum, h.cl, h.len, h.b, by have := h.uk; omega, by have := h.sk; omega, h.ui⟩
theorem keep_step {x : SideR} {u : UD} {k : Nat} (h : KeepI x u k) (c : ClaimD) (hh : Int) :
    ∃ x1 u1, tkS [x] u (clTx c) hh = [x1] ∧ tkU [x] u (clTx c) hh = u1 ∧ KeepI x1 u1 (k + 1) := by
  by_cases hM : mayTx (clTx c)
  · by_cases hE : clE [x] c = 0
    · obtain ⟨e1, e2⟩ := tkE_ok (l := [x]) (u := u) (h := hh) hM rfl hE
      have hmc := (clTx_may c).1 hM
      have hs : c.side = 0 := by
        have h0 : 0 ≤ c.side := hmc.1.1.1
        by_cases hl : ([x] : List SideR).length ≤ c.side
        · rw [clE_none hmc hl] at hE; cases hE
        · simp at hl; omega
      have hx : clX x c = 0 := by rw [← clE_at (l := [x]) hmc (by rw [hs]; rfl)]; exact hE
      obtain ⟨_, _, _, hb⟩ := clX_0 hx
      have ham := hmc.2.2.1
      generalize hid : hOf 120 [encTx (clTx c)] = id at e1 e2
      rw [show ([⟨(clTx c).claim.state.owner, (clTx c).claim.state.amount⟩] : List OutD) = [⟨c.state.owner, c.state.amount⟩] from rfl, outs_one] at e1 e2
      by_cases hg : (getM u.coins ⟨id, 0⟩).isSome
      · rw [if_pos hg] at e1 e2
        exact ⟨x, u, if_neg (by rw [e1]; show ¬ (6 : Int) = 0; decide), e2, h.up⟩
      · rw [if_neg hg] at e1 e2
        by_cases ha : addOk u ⟨id, 0⟩ ⟨⟨c.state.owner, c.state.amount⟩, hh, false⟩
        · rw [if_pos ha] at e1 e2
          refine ⟨clR x c, addU u ⟨id, 0⟩ ⟨⟨c.state.owner, c.state.amount⟩, hh, false⟩, ?_, e2, ?_⟩
          · unfold tkS
            rw [if_pos e1]
            show [x].modify c.side.toNat _ = _
            rw [hs]; rfl
          · obtain ⟨f1, f2, f3, _, _⟩ := clR_f x c
            have hU : addU u ⟨id, 0⟩ ⟨⟨c.state.owner, c.state.amount⟩, hh, false⟩ = ⟨setM u.coins ⟨id, 0⟩ ⟨⟨c.state.owner, c.state.amount⟩, hh, false⟩, u.steps ++ [⟨⟨id, 0⟩, ⟨⟨c.state.owner, c.state.amount⟩, hh, false⟩, true⟩], u.total + c.state.amount⟩ := if_pos ha
            have hn : getM u.coins ⟨id, 0⟩ = none := by simpa using hg
            have h1 := h.sum
            have h2 := h.cl
            have h3 := h.len
            have h4 := h.uk
            have h5 := h.sk
            have hui := h.ui.add ⟨id, 0⟩ ⟨⟨c.state.owner, c.state.amount⟩, hh, false⟩
            rw [hU] at hui ⊢
            refine ⟨by rw [f1, f2]; omega, ?_, ?_, by rw [f1]; omega, ?_, ?_, hui⟩
            · rw [f2]; show _ = u.total + c.state.amount; omega
            · rw [f3, insL_length (posI_le _ _)]
              show _ = (setM u.coins ⟨id, 0⟩ ⟨⟨c.state.owner, c.state.amount⟩, hh, false⟩).length
              rw [setM_none hn, List.length_append]; simp; omega
            · rw [f3, insL_length (posI_le _ _)]; omega
            · show (u.steps ++ [_]).length ≤ k + 1; simp; omega
        · rw [if_neg ha] at e1 e2
          exact ⟨x, u, if_neg (by rw [e1]; show ¬ (5 : Int) = 0; decide), e2, h.up⟩
    · obtain ⟨_, e2, e3⟩ := tkE_bad (l := [x]) (u := u) (h := hh) hM rfl hE
      exact ⟨x, u, e3, e2, h.up⟩
  · obtain ⟨_, e2, e3⟩ := tkE_no (l := [x]) (u := u) (h := hh) (t := clTx c) (.inl hM)
    exact ⟨x, u, e3, e2, h.up⟩
theorem u16_shr (x : UInt16) : Value.int .u16 ((x.toNat : Int) / 2 ^ ((8 : Int)).toNat) = .int .u16 ((x.toNat / 256 : Nat) : Int) := by
  congr 1
theorem u16_byte (x : UInt16) : Value.int .u8 (IntKind.u8.wrap ((x.toNat / 256 : Nat) : Int)) = .int .u8 ((x.toNat / 256 : Nat) : Int) := by
  have := UInt16.toNat_lt x
  have h3 : IntKind.u8.wrap ((x.toNat / 256 : Nat) : Int) = ((x.toNat / 256 : Nat) : Int) := by simp [IntKind.wrap, IntKind.bits, IntKind.signed]; omega
  rw [h3]
end Go.Db
namespace Go.Sx
open Go Go.RowKit
variable {P : Program} {f : FuncId} {args : Array Value} {w0 : World} {ro : Hp} {Mc : Res} {v : Value}
theorem Inv.grown {N : Res} {W W' : World} (h : Inv w0 ro N W) (hb : Below W.heap.size W W') : Inv w0 ro N W' :=
  h.same hb.os hb.tape hb.output fun i o ho => by
    have hi : i < W.heap.size := (Array.getElem?_eq_some_iff.1 ho).1
    exact (hb.block i hi).trans ho
theorem Pu.anyN (h : ∀ W, Inv w0 ro Mc W → Pu P f args W (hp W) [] v) (N : Res) (hN : MSub N Mc) : Pu P f args w0 ro N v := fun W hW =>
  (h W (hW.sub hN) W (Inv.start W)).mono fun _ _ ⟨he, hI⟩ => ⟨he, hW.grown hI.below⟩
end Go.Sx
namespace Go.Db
open Go Go.Sx
theorem Ut.ro {T e b : Nat} {u : UD} {k H : Hp} (h : Ut T e b u k) (hl : Hp.le k H) : ∃ (r : Nat) (v : Value), Bx H b [(1, .map (some r)), (1, v), (1, iv u.total)] T ∧ ∃ es cl, H r = some (.map es cl) ∧ es.size = u.coins.length := by
  obtain ⟨r, v, h1, h2, a, b', _, d, h3, h4, e', f', _, i, _⟩ := h
  refine ⟨r, v, Bx.of d (Hp.le_trans a hl), ?_⟩
  obtain ⟨es, cl, hr, hk⟩ := i
  refine ⟨es, cl, hl _ _ (b' _ _ (e' _ _ hr)), ?_⟩
  have := congrArg List.length hk
  simpa [kvs] using this
end Go.Db
namespace Go.Sx
open Go
theorem V.lenMr {P : Program} {n : Nat} {w0 : World} {ro : Hp} {E : Env} {M : Res} {dst : Option Tmp} {Tm T te ty : TypeId} {pos : String} {af : Array Edge} {g : Option (Nat × Bool)} {x : Operand} {r cl : Nat} {es : Array MapEntry}
    (hx : opnd E x = some (.map (some r))) (hr : ro r = some (.map es cl)) (ht : P.underlying Tm = some (.map T te)) :
    V P n w0 ro E M ⟨dst, .call { callee := .builtin .len, args := #[x], argTypes := #[Tm] }, ty, pos, af, g⟩ (.int .i64 (es.size : Int)) :=
  .of_run fun a W f iv => by
    have hb : W.heap[r]? = some (.map es cl) := iv.roLe _ _ hr
    simp [execOp, resolve, invoke, builtin, f.eval hx, Builtin.len_, goInt, run_underlying ht, MapKept.run_getObj_map hb]
end Go.Sx
