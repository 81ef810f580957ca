import Derived.Test.YtpcnnjnddnaogaaGreatDoorWf
import Derived.Test.YtpcnnjnddnaogaaGreatDoorProg
import Derived.Test.YtpcnnjnddnaogaaGreatDoorRow
import Derived.Test.YtpcnnjnddnaogaaGreatDoorEf
import Derived.Test.YtpcnnjnddnaogaaGreatDoorRows
import Derived.Test.YtpcnnjnddnaogaaGreatDoorTie
import Derived.Test.YtpcnnjnddnaogaaGreatDoorCards
import Derived.SevenTiedAt
import Derived.Stop.Joined
import Derived.JoinedOf
set_option linter.unusedVariables false
set_option linter.unusedSimpArgs false
set_option linter.unusedSectionVars false
set_option linter.unnecessarySimpa false
set_option exponentiation.threshold 1000
namespace Go.Proofs
open Go Go.Sx Go.Db
set_option maxRecDepth 100000
theorem tx13 : Tx Tryz.prog 13 := ⟨Tryz.f13, Tryz.func13, rfl, by kernel_rfl⟩
theorem tx14 : Tx Tryz.prog 14 := ⟨Tryz.f14, Tryz.func14, rfl, by kernel_rfl⟩
theorem ar82 : Ar Tryz.prog 82 2 25 1 := ⟨Tryz.underlying82, by kernel_rfl⟩
theorem tx25 : Tx Tryz.prog 25 := ⟨Tryz.f25, Tryz.func25, rfl, by kernel_rfl⟩

theorem ceaseNot_pu (va vm : Value) (at_ am : List UInt16) (n0 n1 : UInt16) (hP : mayP (madeP 3 2)) (w0 : World) (ro : Hp) (M : Res) (hAt : RS ro va 1 (u16R at_)) (hAm : RS ro vm 1 (u16R am)) (hZ : RoK ro) : Pu Tryz.prog 5 #[ag [(1, va), (1, vm)], ag (uni uv 1 [n0, n1])] w0 ro M (.bool true) := by
  obtain ⟨aA, cA, rfl, _⟩ := hAt.shape
  obtain ⟨aM, cM, rfl, _⟩ := hAm.shape
  refine Pu.enter Tryz.func5 rfl rfl ?_
  have hle : Hp.le ro ro := Hp.le_refl _
  refine C.seq ?_
  refine C.reg ?_
  refine J.one rfl (JO.boxS (l := 2) rfl rfl fun b2 => ?_)
  refine J.one rfl (JO.boxS (l := 3) rfl rfl fun b3 => ?_)
  refine J.q rfl rfl rfl (V.as rfl) ?_
  refine J.nil ?_
  refine Po.then ?_
  refine C.seq ?_
  refine C.seq ?_
  refine C.reg ?_
  refine J.callP rfl tx13 rfl (awake_pu hP _ _ _ hZ) ?_ 
  refine J.q rfl rfl rfl (V.no rfl) ?_
  refine J.nil ?_
  refine Po.then ?_
  refine C.no rfl ?_
  refine C.skip ?_
  refine Po.then ?_
  refine C.seq ?_
  refine C.seq ?_
  refine C.reg ?_
  refine J.q rfl rfl rfl (V.ldW 2 rfl rfl ag24 rfl) ?_
  refine J.callP rfl tx14 rfl (fair_pu _ _ at_ am _ _ _ hAt hAm) ?_ 
  refine J.q rfl rfl rfl (V.noD rfl) ?_
  refine J.mvB rfl rfl fun gb18 hgb18 => ?_
  refine J.gv rfl rfl rfl rfl rfl rfl (fun hg => by subst hg; exact V.fa rfl fo24_0) ?_
  refine J.gv rfl rfl rfl rfl rfl rfl (fun hg => by subst hg; exact V.ldS (i := 0) 2 rfl rfl sc22 rfl rfl rfl) ?_
  refine J.gv rfl rfl rfl rfl rfl rfl (fun hg => by subst hg; exact V.to (V.lenR rfl hAt Tryz.underlying22) (by rw [u16R_length])) ?_
  refine J.gv rfl rfl rfl rfl rfl rfl (fun hg => by subst hg; exact V.eql rfl rfl) ?_
  refine J.q rfl rfl rfl (V.or rfl rfl rfl) ?_
  refine J.nil ?_
  refine Po.then ?_
  refine C.ite rfl (fun h23 => ?_) (fun h23 => ?_)
  · subst hgb18
    try simp only [Bool.and_eq_true, Bool.or_eq_true, Bool.and_eq_false_iff, Bool.or_eq_false_iff, Bool.not_eq_true', Bool.not_eq_false', decide_eq_true_eq, decide_eq_false_iff_not] at h23
    refine C.seq ?_
    refine C.reg ?_
    refine J.q rfl rfl rfl (V.as rfl) ?_
    refine J.nil ?_
    refine Po.then ?_
    refine C.ret ?_
    refine Po.thenR ?_
    exact Po.end1 rfl rfl rfl fun W hI => ⟨rfl, (hI.drop.drop).up hle⟩
  · subst hgb18
    try simp only [Bool.and_eq_true, Bool.or_eq_true, Bool.and_eq_false_iff, Bool.or_eq_false_iff, Bool.not_eq_true', Bool.not_eq_false', decide_eq_true_eq, decide_eq_false_iff_not] at h23
    have hF : fairP at_ am := by simp at h23; exact h23.1
    have hln : at_.length ≠ 0 := by simp at h23; intro e; exact h23.2 (List.length_eq_zero_iff.1 e)
    have hln12 := hF.1.1
    have hK : (n0.toNat % at_.length) < at_.length := Nat.mod_lt _ (by omega)
    obtain ⟨_, _, hxu, hxc, _⟩ := fillA_f (at_ := at_) (am := am) (m := 5000) (c := false) (by decide)
    refine C.skip ?_
    refine Po.then ?_
    refine C.seq ?_
    refine C.reg ?_
    refine J.q rfl rfl rfl (V.ldW 2 rfl rfl ag24 rfl) ?_
    refine J.callG rfl tx18 rfl (Fill_fg _ _ at_ am 5000 false _ _ _ hAt hAm hF hP) ?_ 
    rintro _ ro _ hl ⟨b0, r0, b2, r2, rfl, hr0, hr2, hG, hH, rfl⟩
    replace hZ := hZ.mono hl
    replace hAt := hAt.mono hl
    replace hAm := hAm.mono hl
    replace hle := Hp.le_trans hle hl
    have hm0 : [r0].map (·.s) = [fillA at_ am 5000 false] := by rw [List.map_cons, List.map_nil, hr0]
    have hmr0 := hm0
    refine J.q rfl rfl rfl (V.mv rfl) ?_
    refine J.q rfl rfl rfl (V.ex rfl rfl) ?_
    refine J.q rfl rfl rfl (V.ex rfl rfl) ?_
    refine J.q rfl rfl rfl (V.as rfl) ?_
    refine J.q rfl rfl rfl (V.as rfl) ?_
    refine J.nil ?_
    refine Po.then ?_
    refine C.seq ?_
    refine C.reg ?_
    refine J.call rfl tx19 rfl (utNew_fn _ _ _) ?_ 
    rintro _ _ ⟨b29, rfl, rfl⟩
    refine J.q rfl rfl rfl (V.as rfl) ?_
    refine J.nil ?_
    refine Po.then ?_
    refine C.seq ?_
    refine C.seq ?_
    refine C.reg ?_
    refine J.q rfl rfl rfl (V.mv rfl) ?_
    refine J.q rfl rfl rfl (V.ptrEq rfl Tryz.underlying50) ?_
    refine J.q rfl rfl rfl (V.to (V.mv rfl) (show _ = Value.bool false from rfl)) ?_
    refine J.dn rfl rfl rfl rfl rfl rfl (V.mv rfl) ?_
    refine J.dn rfl rfl rfl rfl rfl rfl (V.ptrEq rfl Tryz.underlying54) ?_
    refine J.q rfl rfl rfl (V.pk rfl rfl rfl) ?_
    refine J.nil ?_
    refine Po.then ?_
    refine C.no rfl ?_
    refine C.skip ?_
    refine Po.then ?_
    refine C.seq ?_
    refine C.reg ?_
    refine J.q rfl rfl rfl (V.iaA rfl rfl ar82 (by omega)) ?_
    refine J.q rfl rfl rfl (V.ldU (lab := 3) rfl rfl sc25 (show [n0, n1][0]? = some n0 from rfl) (by omega) rfl) ?_
    refine J.q rfl rfl rfl (V.to (V.cv rfl Tryz.underlying25 Tryz.underlying3) (u16_int _)) ?_
    refine J.q rfl rfl rfl (V.fa rfl fo24_0) ?_
    refine J.q rfl rfl rfl (V.ldS (i := 0) 2 rfl rfl sc22 rfl rfl rfl) ?_
    refine J.q rfl rfl rfl (V.to (V.lenR rfl hAt Tryz.underlying22) (by rw [u16R_length])) ?_
    refine J.q rfl rfl rfl (V.to (V.rem rfl rfl (by omega)) (show _ = Value.int .i64 ((n0.toNat % at_.length) : Int) by rw [← Int.natCast_emod])) ?_
    refine J.q rfl rfl rfl (V.as rfl) ?_
    refine J.nil ?_
    refine Po.then ?_
    refine C.seq ?_
    refine C.reg ?_
    refine J.q rfl rfl rfl (V.ldW 2 rfl rfl ag24 rfl) ?_
    refine J.q rfl rfl rfl (V.mv rfl) ?_
    refine J.callP rfl tx17 rfl (claim0_pu _ _ at_ am (n0.toNat % at_.length) (by omega) _ _ _ hAt hAm hF) ?_ 
    refine J.one rfl (JO.alloc (l := 9) rfl zr48 fun b9 => ?_)
    refine J.one rfl (JO.stS (l := 9) rfl rfl rfl sz48 (by kernel_rfl) (by kernel_rfl) ?_)
    refine J.nil ?_
    refine Po.then ?_
    refine C.seq ?_
    refine C.reg ?_
    refine J.q rfl rfl rfl (V.mv rfl) ?_
    refine J.q rfl rfl rfl (V.mv rfl) ?_
    refine J.q rfl rfl rfl (V.ldW 9 rfl rfl ag48 (by kernel_rfl)) ?_
    refine J.callG rfl tx20 rfl (Fg.at2 (l := 110) (k := 140) rfl rfl (tk_fg _ _ [r0] (UD.nil) (clTx (claim0 at_ am (n0.toNat % at_.length))) txvN 30 _ _ _ (show (5 : Int) ≠ 2 by decide) (clTx_rs _) (clTx_sm _) hZ hG (fun q hq => by obtain rfl := List.mem_singleton.1 hq; rw [hr0, hxu]; decide) UI.nil (by decide))) ?_ 
    rintro _ ro _ hl ⟨l49, rfl, hl49, hG, rfl⟩
    replace hZ := hZ.mono hl
    replace hAt := hAt.mono hl
    replace hAm := hAm.mono hl
    replace hH := hH.mono hl
    replace hle := Hp.le_trans hle hl
    rw [hmr0, (not_1 (am := am) hK hxc UD.nil 30).2.2] at hl49
    rw [hmr0, (not_1 (am := am) hK hxc UD.nil 30).1, (not_1 (am := am) hK hxc UD.nil 30).2.1]
    obtain ⟨r1, rfl, hr1⟩ := map_one hl49
    have hmr1 : [r1].map (·.s) = [fillA at_ am 5000 false] := by rw [List.map_cons, List.map_nil, hr1]
    refine J.q rfl rfl rfl (V.as rfl) ?_
    refine J.nil ?_
    refine Po.then ?_
    refine C.seq ?_
    refine C.reg ?_
    refine J.q rfl rfl rfl (V.iaA rfl rfl ar82 (by omega)) ?_
    refine J.q rfl rfl rfl (V.ldU (lab := 3) rfl rfl sc25 (show [n0, n1][1]? = some n1 from rfl) (by omega) rfl) ?_
    refine J.q rfl rfl rfl (V.to (V.cv rfl Tryz.underlying25 Tryz.underlying3) (u16_int _)) ?_
    refine J.q rfl rfl rfl (V.to (V.rem rfl rfl (by omega)) (show _ = Value.int .i64 ((n1.toNat % 7 : Nat) : Int) by rw [Int.natCast_emod]; rfl)) ?_
    refine J.q rfl rfl rfl (V.add (a := 1) rfl rfl (by omega)) ?_
    refine J.q rfl rfl rfl (V.fa rfl fo48_7) ?_
    refine J.q rfl rfl rfl (V.fa rfl fo46_0) ?_
    refine J.one rfl (JO.st (i := 16) (l := 9) rfl rfl rfl sz3 rfl (by kernel_rfl) ?_)
    refine J.nil ?_
    refine Po.then ?_
    refine C.seq ?_
    refine C.reg ?_
    refine J.q rfl rfl rfl (V.mv rfl) ?_
    refine J.q rfl rfl rfl (V.mv rfl) ?_
    refine J.q rfl rfl rfl (V.to (V.ldW 9 rfl rfl ag48 (by kernel_rfl)) (show _ = ag ((clTx (clS (claim0 at_ am (n0.toNat % at_.length)) (1 + ((n1.toNat % 7 : Nat) : Int)))).lv txvN) from rfl)) ?_
    refine J.callG rfl tx20 rfl (Fg.at2 (l := 110) (k := 140) rfl rfl (tk_fg _ _ [r1] (UD.nil) (clTx (clS (claim0 at_ am (n0.toNat % at_.length)) (1 + ((n1.toNat % 7 : Nat) : Int)))) txvN 30 _ _ _ (show (5 : Int) ≠ 2 by decide) (clTx_rs _) (clTx_sm _) hZ hG (fun q hq => by obtain rfl := List.mem_singleton.1 hq; rw [hr1, hxu]; decide) UI.nil (by decide))) ?_ 
    rintro _ ro _ hl ⟨l60, rfl, hl60, hG, rfl⟩
    replace hZ := hZ.mono hl
    replace hAt := hAt.mono hl
    replace hAm := hAm.mono hl
    replace hH := hH.mono hl
    replace hle := Hp.le_trans hle hl
    rw [hmr1, (not_2 (am := am) hK (fillA at_ am 5000 false) UD.nil 30 (1 + ((n1.toNat % 7 : Nat) : Int)) (by omega)).2.2] at hl60
    rw [hmr1, (not_2 (am := am) hK (fillA at_ am 5000 false) UD.nil 30 (1 + ((n1.toNat % 7 : Nat) : Int)) (by omega)).1, (not_2 (am := am) hK (fillA at_ am 5000 false) UD.nil 30 (1 + ((n1.toNat % 7 : Nat) : Int)) (by omega)).2.1]
    obtain ⟨r3, rfl, hr3⟩ := map_one hl60
    have hmr3 : [r3].map (·.s) = [fillA at_ am 5000 false] := by rw [List.map_cons, List.map_nil, hr3]
    refine J.q rfl rfl rfl (V.as rfl) ?_
    refine J.nil ?_
    refine Po.then ?_
    refine C.seq ?_
    refine C.reg ?_
    refine J.q rfl rfl rfl (V.mv rfl) ?_
    refine J.q rfl rfl rfl (V.mv rfl) ?_
    refine J.q rfl rfl rfl (V.to (V.bld rfl zr48 pl48 (Put.one (i := 0) rfl rfl rfl <| Put.one (i := 1) rfl rfl rfl <| Put.nil)) (show _ = ag (cbTx.lv txvN) from rfl)) ?_
    refine J.callG rfl tx20 rfl (Fg.at2 (l := 110) (k := 140) rfl rfl (tk_fg _ _ [r3] (UD.nil) cbTx txvN 30 _ _ _ (show (1 : Int) ≠ 2 by decide) cb_rs cb_sm hZ hG (fun q hq => by obtain rfl := List.mem_singleton.1 hq; rw [hr3, hxu]; decide) UI.nil (by decide))) ?_ 
    rintro _ ro _ hl ⟨l64, rfl, hl64, hG, rfl⟩
    replace hZ := hZ.mono hl
    replace hAt := hAt.mono hl
    replace hAm := hAm.mono hl
    replace hH := hH.mono hl
    replace hle := Hp.le_trans hle hl
    rw [hmr3, (not_3 [fillA at_ am 5000 false] UD.nil 30).2.2] at hl64
    rw [hmr3, (not_3 [fillA at_ am 5000 false] UD.nil 30).1, (not_3 [fillA at_ am 5000 false] UD.nil 30).2.1]
    obtain ⟨r4, rfl, hr4⟩ := map_one hl64
    have hmr4 : [r4].map (·.s) = [fillA at_ am 5000 false] := by rw [List.map_cons, List.map_nil, hr4]
    refine J.q rfl rfl rfl (V.as rfl) ?_
    refine J.nil ?_
    refine Po.then ?_
    refine C.seq ?_
    refine C.reg ?_
    refine J.q rfl rfl rfl (V.mv rfl) ?_
    refine J.q rfl rfl rfl (V.eql rfl rfl) ?_
    refine J.q rfl rfl rfl (V.to (V.mv rfl) (show _ = Value.bool true from rfl)) ?_
    refine J.dn rfl rfl rfl rfl rfl rfl (V.mv rfl) ?_
    refine J.dn rfl rfl rfl rfl rfl rfl (V.eql rfl rfl) ?_
    refine J.q rfl rfl rfl (V.pk rfl rfl rfl) ?_
    refine J.q rfl rfl rfl (V.to (V.mv rfl) (show _ = Value.bool true from rfl)) ?_
    refine J.dn rfl rfl rfl rfl rfl rfl (V.mv rfl) ?_
    refine J.dn rfl rfl rfl rfl rfl rfl (V.eql rfl rfl) ?_
    refine J.q rfl rfl rfl (V.pk rfl rfl rfl) ?_
    refine J.q rfl rfl rfl (V.to (V.mv rfl) (show _ = Value.bool true from rfl)) ?_
    refine J.dn rfl rfl rfl rfl rfl rfl (V.mv rfl) ?_
    refine J.gcv rfl rfl rfl rfl tx25 (fun _ => rfl) (fun _ => Pu.at (l := 140) rfl (utLen_pu _ UD.nil _ _ _)) ?_
    refine J.dn rfl rfl rfl rfl rfl rfl (V.eql rfl rfl) ?_
    refine J.q rfl rfl rfl (V.pk rfl rfl rfl) ?_
    refine J.q rfl rfl rfl (V.as rfl) ?_
    refine J.nil ?_
    refine Po.then ?_
    refine C.ret ?_
    exact Po.end1 rfl rfl rfl fun W hI => ⟨rfl, (hI.drop.drop.drop.drop.drop.drop).up hle⟩
end Go.Proofs
namespace Go.Proofs.YtpcnnjnddnaogaaGreatDoor
open Go Go.Sx Go.Db Go.ChangeShapes Go.WideShapes Go.RowKit
set_option maxRecDepth 100000
set_option maxRecDepth 100000 in
theorem ceaseNot_lifted (os : Os) (started : os.Started) (H : Type) (enc : TypeId × Value → H) (hP : mayP (madeP 3 2)) :
    ReturnsInHanded {} Tryz.checked os 5 .any (fun w args => (Rows.ceaseNotSpec.pre enc Tryz.prog Tryz.f5 [] false w args ∧ laidMetH Tryz.prog LAID w) ∧ sizedMet enc Tryz.prog Tryz.f5 (OpenSpec.ofChange Rows.ceaseNotSpec) false w args)
      (Rows.ceaseNotSpec.post enc Tryz.prog Tryz.f5 false true false false) := by
  refine returnsInHanded_of_change_and (C := Tryz.checked) (X := fun w _ => laidMetH Tryz.prog LAID w) (fun _ _ _ hh h => h.of_heap hh) own started (by kernel_rfl) Tryz.func5
    (ChangeSpec.witness_shaped (enc := enc) (C := Tryz.checked) (os := os) (X := fun w _ => laidMetH Tryz.prog LAID w) false (World.doorLaid Tryz.prog 4000 os) #[.agg #[.slice none 0 0, .slice none 0 0], .agg #[.int .u16 0, .int .u16 0]] 8 rfl (World.shaped_of_RefB (by kernel_rfl) (by kernel_rfl)) (by kernel_rfl) (by kernel_rfl) (by kernel_rfl) (door_met os _)) ?_
  intro W base args ds gs before hval0 hW _ _ hL _
  have hval : ∀ (j : Nat) t v, Tryz.f5.params[j]? = some t → args[j]? = some v → Value.okWide Tryz.prog W .any base t v := hval0
  have hW' := hW
  have hlt0 := hW.lt
  obtain ⟨p, q, hA0, hV, rfl, hfz, hnd⟩ := hW
  have hA : DataW.TrodAll enc Tryz.prog W 0 (fun _ => true) true Tryz.f5.params.toList args.toList ds p := hA0
  rw [Tryz.params5] at hA hval
  obtain ⟨v0, v1, d0, d1, p0, p1, rfl, rfl, rfl, t0, t1⟩ := trodAll_two hA
  obtain ⟨rfl, rfl⟩ := trodVars_none hV
  have hZ := rok hL
  obtain ⟨va, vm, at_, am, rfl, hAt, hAm⟩ := acc_open (hval 0 _ _ rfl rfl) t0
  obtain ⟨n0, n1, rfl⟩ := u16x2_open (hval 1 _ _ rfl rfl) t1
  refine (ceaseNot_pu va vm at_ am n0 n1 hP W (hp W) [] hAt hAm hZ W (Inv.start W)).mono fun e W' ⟨he, hI⟩ => ?_
  have hB := hI.below
  have hlt : ∀ x ∈ (p0 ++ p1), x.block < W.heap.size := fun x hx => hlt0 x (by simpa using hx)
  subst he
  refine ⟨_, rfl, _, _, _, [], _, [], hW', trodAll_mk1 (shut_bool Tryz.underlying4 true), trodAll_mk2 (Below.trod laidOut (by kernel_rfl) (of_decide_eq_true (by kernel_rfl)) t0 hB (fun x hx => hlt x (by simp [hx]))) (Below.trod laidOut (by kernel_rfl) (of_decide_eq_true (by kernel_rfl)) t1 hB (fun x hx => hlt x (by simp [hx]))), rfl, ?_, fun h => by cases h⟩
  exact hB.frame _

theorem ceaseNot_holds (hP : mayP (madeP 3 2)) : Rows.CeaseNotSaid :=
  OpenClaim.holds_of_wide 5 Tryz.f5 rfl rfl rfl rfl rfl rfl rfl ⟨rfl, rfl, rfl, rfl, rfl⟩ rfl rfl rfl rfl rfl (by kernel_rfl) Tryz.func5 (by kernel_rfl)
    (of_decide_eq_true (by kernel_rfl)) (by unfold Func.isWrapper; first | (rw [if_pos (by decide +kernel)]; kernel_rfl) | (rw [if_neg (by decide +kernel)]; exact ⟨rfl, rfl⟩))
    (fun os started H enc _ => ceaseNot_lifted os started H enc hP)
theorem ceaseNot_card (hP : mayP (madeP 3 2)) : Rows.CeaseNotCardSaid :=
  Claim7.holds_tied_plain_at .later [] [.data] true (true, "6b02c825a31eb1d64ce8c0d48304d645abff5b6c9cb370d5267b4e4c1e322499") false
    (ceaseNot_holds hP) (fun _ h => by cases h) (by kernel_rfl) (fun _ h => by cases h) ceaseNot_row_tie rfl ⟨rfl, rfl⟩ (by kernel_rfl) rfl
    (fun f fn hf hfn => by
      obtain rfl : f = 5 := Option.some.inj ((show Tryz.prog.funcNamed "drawbridge/drawbridgelaw16.CeaseNot" = some 5 by kernel_rfl).symm.trans hf) |>.symm
      obtain rfl : fn = Tryz.f5 := (Option.some.inj (Tryz.func5.symm.trans hfn)).symm
      exact ⟨by kernel_rfl, fun j t ht => by
        have hall : (Tryz.f5.params.toList.all fun u => !Tryz.prog.wantsStandIn u) = true := by kernel_rfl
        have hm : t ∈ Tryz.f5.params.toList := Array.mem_toList_iff.2 (Array.mem_of_getElem? ht)
        exact (show Tryz.prog.wantsStandIn t = false by simpa using List.all_eq_true.1 hall t hm)⟩)
    (by kernel_rfl)

theorem ceaseNot_proved : Rows.CeaseNotCardSaid := ceaseNot_card made3_may
end Go.Proofs.YtpcnnjnddnaogaaGreatDoor
