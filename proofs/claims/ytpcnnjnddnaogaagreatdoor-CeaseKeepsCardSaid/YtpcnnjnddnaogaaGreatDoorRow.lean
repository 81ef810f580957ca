import Derived.Test.YtpcnnjnddnaogaaGreatDoorEe
import Derived.Test.YtpcnnjnddnaogaaGreatDoorRows
import Derived.Test.YtpcnnjnddnaogaaGreatDoorTie
import Derived.Test.YtpcnnjnddnaogaaGreatDoorCards
import Derived.SevenTiedAt
import Derived.Stop.Joined
import Derived.JoinedOf
set_option linter.unusedVariables false
set_option linter.unusedSimpArgs false
set_option linter.unusedSectionVars false
set_option linter.unnecessarySimpa false
set_option exponentiation.threshold 1000
namespace Go.Proofs.YtpcnnjnddnaogaaGreatDoor
open Go Go.Sx Go.Db Go.ChangeShapes Go.WideShapes Go.RowKit
set_option maxRecDepth 100000
theorem own : ownKnob Tryz.prog.godebug = none := by kernel_rfl
theorem laidOut : laidOutB Tryz.prog = true := by kernel_rfl
theorem gSteps : Tryz.prog.globalNamed "drawbridge/hash.steps" = some 0 := by kernel_rfl
theorem tSteps : (Tryz.prog.globals[0]?).map (·.type) = some 227 := by kernel_rfl
theorem cSteps : Tryz.prog.cellsOf 227 = 64 := by kernel_rfl
theorem cStep : Tryz.prog.cellsOf 225 = 1 := by kernel_rfl
theorem datum_eq : (Rows.laid_drawbridge_hash_steps : DataW Unit) = .agg (kk.map fun x => .lit (.int .u32 (x.toNat : Int))) := by kernel_rfl
theorem rok {W : World} (h : laidMetH Tryz.prog [("drawbridge/hash.steps", Rows.laid_drawbridge_hash_steps)] W) : RoK (hp W) := by
  rw [MakeChecks.laidMetH_plain _ _ _ (by kernel_rfl)] at h
  obtain ⟨ps, ⟨g0, t0, cs0, f0, p0, q0, hg0, ht0, hv0, hd0, _, _⟩, _, _⟩ := h
  obtain rfl := Option.some.inj (gSteps.symm.trans hg0)
  obtain rfl := Option.some.inj (tSteps.symm.trans ht0)
  rw [datum_eq] at hd0
  obtain ⟨xs, m, _, hx, hlen, hn, hel⟩ := DataW.trod_array Tryz.underlying227 hd0
  rw [cStep] at hel
  have hcs : cs0.toList = kk.map wv := by
    have hxs : xs.map (·.1) = kk.map fun x => DataW.lit (.int .u32 (x.toNat : Int)) := by
      simp only [Prod.mk.injEq, DataW.agg.injEq] at hx
      exact hx.1.symm
    rw [cSteps] at hlen
    apply List.ext_getElem?
    intro i
    by_cases hi : i < 64
    · have h1 := hel i hi
      have hi2 : i < xs.length := by omega
      rw [List.getElem?_eq_getElem hi2] at h1
      obtain ⟨k, e1, e2, _⟩ := DataW.trod_int Tryz.underlying225 h1
      have h3 : (xs.map (·.1))[i]? = some (xs[i].1) := by rw [List.getElem?_map, List.getElem?_eq_getElem hi2]; rfl
      rw [hxs, List.getElem?_map] at h3
      rw [List.getElem?_map]
      have h4 : cs0.toList[i]? = some (.int .u32 k) := by
        have h5 := congrArg (·[0]?) e1
        simp only [List.getElem?_take, List.getElem?_drop] at h5
        simpa using h5
      rw [h4]
      cases hk : kk[i]? with
      | none => rw [hk] at h3; cases h3
      | some x =>
        rw [hk, e2] at h3
        simp only [Option.map_some, Option.some.injEq, DataW.lit.injEq, Lit.int.injEq, true_and] at h3
        rw [← h3]; rfl
    · rw [List.getElem?_eq_none (by omega), List.getElem?_eq_none (by rw [List.length_map, show kk.length = 64 from rfl]; omega)]
  unfold World.var? at hv0
  rw [gSteps] at hv0
  simp only [Option.bind_some] at hv0
  split at hv0
  · rename_i c T fr hh
    cases hv0
    exact ⟨T, fr, by show W.heap[0]? = _; rw [hh, ← hcs]⟩
  · cases hv0

theorem cU : Tryz.prog.cellsOf 22 = 1 := by kernel_rfl
theorem cu : Tryz.prog.cellsOf 25 = 1 := by kernel_rfl
theorem cAC : Tryz.prog.cellsOf 24 = 2 := by kernel_rfl
theorem cA2 : Tryz.prog.cellsOf 82 = 2 := by kernel_rfl
section
variable {H : Type} {enc : TypeId × Value → H} {W : World} {base : Nat} {v : Value} {d : DataW H} {p : List MemPlace}
theorem two_of {cs : Array Value} (h : cs.size = 2) : ∃ a b, cs = #[a, b] := by
  obtain ⟨l⟩ := cs
  match l, h with
  | [a, b], _ => exact ⟨a, b, rfl⟩
/-- accounts that were read -/
theorem acc_open (hv : Value.okWide Tryz.prog W .any base 24 v) (h : DataW.Trod enc Tryz.prog W 0 (fun _ => true) true 24 v d p) :
    ∃ va vm at_ am, v = ag [(1, va), (1, vm)] ∧ RS (hp W) va 1 (u16R at_) ∧ RS (hp W) vm 1 (u16R am) := by
  obtain ⟨cs, rfl, hs⟩ := okWide_struct Tryz.underlying24 hv
  rw [cAC] at hs
  obtain ⟨a, b, rfl⟩ := two_of hs
  obtain ⟨fuel, hf⟩ := h
  obtain ⟨y0, y1, n, _, _, h0, h1⟩ := trod_struct2 Tryz.underlying24 hf
  have e0 : DataW.trod enc Tryz.prog W 0 (fun _ => true) true n 22 [a] = some y0 := by
    have h0' := h0
    simp only [cU] at h0'
    exact h0'
  have e1 : DataW.trod enc Tryz.prog W 0 (fun _ => true) true n 22 [b] = some y1 := by
    have h1' := h1
    simp only [cU] at h1'
    exact h1'
  obtain ⟨at_, hA⟩ := rs_u16 Tryz.underlying22 Tryz.underlying25 cu e0
  obtain ⟨am, hM⟩ := rs_u16 Tryz.underlying22 Tryz.underlying25 cu e1
  obtain ⟨aA, cA, rfl, _⟩ := hA.shape
  obtain ⟨aM, cM, rfl, _⟩ := hM.shape
  exact ⟨_, _, at_, am, rfl, hA, hM⟩
theorem u16x2_open (hv : Value.okWide Tryz.prog W .any base 82 v) (h : DataW.Trod enc Tryz.prog W 0 (fun _ => true) true 82 v d p) : ∃ n0 n1 : UInt16, v = ag (uni uv 1 [n0, n1]) := by
  have hv2 := hv
  simp only [Value.okWide, Tryz.underlying82] at hv2
  obtain ⟨cs, rfl, hs, _⟩ := hv2
  rw [cA2] at hs
  obtain ⟨a, b, rfl⟩ := two_of hs
  obtain ⟨fuel, hf⟩ := h
  obtain ⟨xs, m, _, _, _, hn, hel⟩ := DataW.trod_array Tryz.underlying82 hf
  rw [cu] at hel
  have g0 := hel 0 (by decide)
  have g1 := hel 1 (by decide)
  rw [List.getElem?_eq_getElem (by omega)] at g0 g1
  obtain ⟨k0, e0, _, w0⟩ := DataW.trod_int Tryz.underlying25 (show DataW.trod enc Tryz.prog W 0 (fun _ => true) true m 25 [a] = _ from g0)
  obtain ⟨k1, e1, _, w1⟩ := DataW.trod_int Tryz.underlying25 (show DataW.trod enc Tryz.prog W 0 (fun _ => true) true m 25 [b] = _ from g1)
  simp only [List.cons.injEq, and_true] at e0 e1
  subst e0 e1
  rw [u16_of w0, u16_of w1]
  exact ⟨_, _, rfl⟩
end
abbrev LAID : List (String × DataW Unit) := [("drawbridge/hash.steps", Rows.laid_drawbridge_hash_steps)]
theorem door_met (os : Os) (args : Array Value) : laidMetH Tryz.prog LAID ((World.doorLaid Tryz.prog 4000 os).forCall (fun _ _ => 0) ⟨#[], args, []⟩).memory := by
  rw [MakeChecks.laidMetH_plain _ _ _ (by kernel_rfl)]
  exact laidMet_of_run' 8 (by kernel_rfl) (by kernel_rfl)
end Go.Proofs.YtpcnnjnddnaogaaGreatDoor
