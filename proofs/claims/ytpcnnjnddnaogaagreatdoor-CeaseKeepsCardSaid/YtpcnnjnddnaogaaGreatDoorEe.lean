import Derived.Test.YtpcnnjnddnaogaaGreatDoorEd
import Derived.ProofKit
import Derived.LaidMore
import Derived.OpenShut
import Derived.Deep.Slices
import Derived.Below
import Derived.Carry
set_option linter.unusedVariables false
set_option linter.unusedSimpArgs false
set_option linter.unusedSectionVars false
set_option linter.unnecessarySimpa false
set_option exponentiation.threshold 1000
namespace Go.Sx
open Go Go.Db Go.RowKit
theorem Inv.start (W : World) : Inv W (hp W) [] W := ⟨rfl, rfl, rfl, fun _ => none, fun _ => .inr rfl, Hp.le_refl _, (fun _ _ h => by cases h), trivial⟩
theorem Inv.below {W W' : World} {M : Res} (h : Inv W (hp W) M W') : Below W.heap.size W W' := by
  have hl := h.roLe
  have hb : ∀ k, k < W.heap.size → W'.heap[k]? = W.heap[k]? := fun k hk => (hl k W.heap[k] (show W.heap[k]? = _ from Array.getElem?_eq_getElem hk)).trans (Array.getElem?_eq_getElem hk).symm
  refine ⟨h.os, h.tape, h.output, ?_, hb⟩
  cases hs : W.heap.size with
  | zero => exact Nat.zero_le _
  | succ n =>
    have := hb n (by omega)
    rw [Array.getElem?_eq_getElem (by omega : n < W.heap.size)] at this
    have := (Array.getElem?_eq_some_iff.1 this).1
    omega
theorem cell_row0 {W : World} {a : Addr} {v : Value} (h : W.cell? (a.add 0) = some v) : a.spot = none := by
  obtain ⟨b, o, s⟩ := a
  cases s with
  | none => rfl
  | some q =>
    exfalso
    unfold World.cell? Addr.add at h
    split at h <;> simp at h
theorem cell_row {W : World} {a : Addr} {j : Nat} {v : Value} (hs : a.spot = none) (h : W.cell? (a.add j) = some v) : ∃ cs T fr, W.heap[a.block]? = some (.cells cs T fr) ∧ cs[a.off + j]? = some v := by
  obtain ⟨b, o, s⟩ := a
  simp only at hs; subst hs
  have e : (Addr.add ⟨b, o, none⟩ j) = ⟨b, o + j, none⟩ := by unfold Addr.add; split <;> simp_all
  rw [e] at h
  unfold World.cell? at h
  split at h
  · rename_i c T fr hc
    exact ⟨c, T, fr, hc, by simpa using h⟩
  · cases h
/-- a slice whose cells are told, in memory that is only read -/
theorem RS.cells {W : World} {a : Addr} {len cap : Nat} {vs : List Value} (hv : vs.length = len) (hl : len ≤ cap) (h1 : ∀ v ∈ vs, v.oneCell' = true) (hc : ∀ i v, vs[i]? = some v → W.cell? (a.add i) = some v) :
    RS (hp W) (.slice (some a) len cap) 1 (vs.map fun v => [v]) := by
  refine ⟨⟨some a, cap, by rw [List.length_map, hv], by rw [List.length_map, hv]; exact hl⟩, fun x hx => ?_, fun hne => ?_⟩
  · obtain ⟨v, hv', rfl⟩ := List.mem_map.1 hx
    exact ⟨rfl, by intro u hu; simp at hu; subst hu; exact h1 u hv'⟩
  · have h0 : 0 < vs.length := by
      cases vs with
      | nil => simp at hne
      | cons _ _ => simp
    have hs := cell_row0 (hc 0 _ (List.getElem?_eq_getElem h0))
    obtain ⟨cs, T, fr, hb, _⟩ := cell_row hs (hc 0 _ (List.getElem?_eq_getElem h0))
    obtain ⟨b, o, s⟩ := a
    simp only at hs hb
    subst hs
    refine ⟨cap, cs, T, fr, by rw [List.length_map, hv]; rfl, hb, fun i x hi j u hj => ?_⟩
    rw [List.getElem?_map, Option.map_eq_some_iff] at hi
    obtain ⟨v, hv2, rfl⟩ := hi
    obtain rfl : j = 0 := by have := (List.getElem?_eq_some_iff.1 hj).1; simpa using this
    simp at hj; subst hj
    obtain ⟨cs', T', fr', hb', hg⟩ := cell_row rfl (hc i _ hv2)
    rw [hb] at hb'; cases hb'
    simpa [slO] using hg
theorem u16_of {n : Int} (h : (Lit.int .u16 n).wf = true) : Value.int .u16 n = uv (UInt16.ofNat n.toNat) := by
  have h1 : IntKind.u16.min = 0 := by decide
  have h2 : IntKind.u16.max = 65535 := by decide
  simp only [Lit.wf, h1, h2, Bool.and_eq_true, decide_eq_true_eq] at h
  unfold uv
  congr 1
  simp [UInt16.toNat_ofNat']
  omega
section
variable {H : Type} {enc : TypeId × Value → H} {P : Program}
/-- a slice of numbers that was read -/
theorem rs_u16 {W : World} {t e : TypeId} {fuel : Nat} {v : Value} {x : DataW H × List MemPlace} (ht : P.underlying t = some (.slice e)) (he : P.underlying e = some (.int .u16)) (hc : P.cellsOf e = 1)
    (h : DataW.trod enc P W 0 (fun _ => true) true fuel t [v] = some x) : ∃ l : List UInt16, RS (hp W) v 1 (u16R l) := by
  rcases ChangeShapes.open_ints ht he hc h with ⟨h1, _⟩ | ⟨a, len, cap, zs, h1, _, hl, _, hz, _, hcell, hwf⟩
  · simp at h1; subst h1
    exact ⟨[], RS.none_⟩
  · simp at h1; subst h1
    simp at hz
    refine ⟨(zs.take len).map fun n => UInt16.ofNat n.toNat, ?_⟩
    have hm : u16R ((zs.take len).map fun n => UInt16.ofNat n.toNat) = ((zs.take len).map fun n => Value.int .u16 n).map fun v => [v] := by
      unfold u16R
      rw [List.map_map, List.map_map]
      apply List.map_congr_left
      intro n hn
      simp only [Function.comp]
      rw [u16_of (hwf n (List.mem_of_mem_take hn))]
    rw [hm]
    refine RS.cells (by simp; omega) hl (fun v hv => by obtain ⟨n, _, rfl⟩ := List.mem_map.1 hv; rfl) fun i v hv => ?_
    rw [List.getElem?_map, Option.map_eq_some_iff] at hv
    obtain ⟨n, hn, rfl⟩ := hv
    have hi := (List.getElem?_eq_some_iff.1 hn).1
    rw [List.length_take] at hi
    rw [hcell i (by omega)]
    rw [List.getElem?_take] at hn
    split at hn
    · rw [List.getD_eq_getElem?_getD, hn]; rfl
    · cases hn
end
end Go.Sx
