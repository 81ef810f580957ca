import Derived.Test.YtpcnnjnddnaogaaGreatDoorWb
import Derived.Test.YtpcnnjnddnaogaaGreatDoorEc
import Derived.Test.YtpcnnjnddnaogaaGreatDoorProg
import Derived.Test.YtpcnnjnddnaogaaGreatDoorEd
set_option linter.unusedVariables false
set_option linter.unusedSimpArgs false
set_option linter.unusedSectionVars false
set_option linter.unnecessarySimpa false
set_option exponentiation.threshold 1000
namespace Go.Proofs
open Go Go.Sx Go.Db
set_option maxRecDepth 100000
theorem sl22 : Sl Tryz.prog 22 25 1 := ⟨Tryz.underlying22, by kernel_rfl⟩
theorem sc25 : Sc Tryz.prog 25 := ⟨⟨_, Tryz.underlying25, rfl⟩, by kernel_rfl⟩
theorem zr31 : Zr Tryz.prog 31 [(8, hv h0), (1, .int .i64 0), (1, .int .i64 0)] := by unfold Zr; kernel_rfl
theorem fo24_1 : Fo Tryz.prog 24 1 1 := ⟨_, _, 0, Tryz.underlying24, rfl, rfl, by kernel_rfl⟩
theorem sc22 : Sc Tryz.prog 22 := ⟨⟨_, Tryz.underlying22, rfl⟩, by kernel_rfl⟩
theorem pl31 : Pls Tryz.prog 31 [(0, 8), (8, 1), (9, 1)] := ⟨_, Tryz.underlying31, by kernel_rfl⟩
theorem sz31 : (Tryz.prog.info? 31).map (·.size) = some 10 := by kernel_rfl
theorem ag31 : Ag Tryz.prog 31 10 := ⟨⟨_, Tryz.underlying31, rfl⟩, by kernel_rfl⟩
theorem zr177 : Zr Tryz.prog 177 [(1, .slice none 0 0), (1, .slice none 0 0)] := by unfold Zr; kernel_rfl
theorem pl177 : Pls Tryz.prog 177 [(0, 1), (1, 1)] := ⟨_, Tryz.underlying177, by kernel_rfl⟩
theorem fo24_0 : Fo Tryz.prog 24 0 0 := ⟨_, _, 0, Tryz.underlying24, rfl, rfl, by kernel_rfl⟩
theorem ag24 : Ag Tryz.prog 24 2 := ⟨⟨_, Tryz.underlying24, rfl⟩, by kernel_rfl⟩
theorem tx15 : Tx Tryz.prog 15 := ⟨Tryz.f15, Tryz.func15, rfl, by kernel_rfl⟩
theorem tx88 : Tx Tryz.prog 88 := ⟨Tryz.f88, Tryz.func88, rfl, by kernel_rfl⟩
theorem tx96 : Tx Tryz.prog 96 := ⟨Tryz.f96, Tryz.func96, rfl, by kernel_rfl⟩

theorem State_pu (va vm : Value) (at_ am : List UInt16) (i : Nat) (hi : i < am.length) (hl : am.length ≤ 50) (w0 : World) (ro : Hp) (M : Res) (hAt : RS ro va 1 (u16R at_)) (hAm : RS ro vm 1 (u16R am)) : Pu Tryz.prog 15 #[ag [(1, va), (1, vm)], .int .i64 (i : Int)] w0 ro M (ag (acState am i).lv) := by
  obtain ⟨aA, cA, rfl, _⟩ := hAt.shape
  obtain ⟨aM, cM, rfl, _⟩ := hAm.shape
  have hx : am[i]? = some (am.getD i 0) := getD_some hi
  refine Pu.enter Tryz.func15 rfl rfl ?_
  refine C.seq ?_
  refine C.reg ?_
  refine J.one rfl (JO.boxS (l := 2) rfl rfl fun b2 => ?_)
  refine J.one rfl (JO.alloc (l := 4) rfl zr31 fun b4 => ?_)
  refine J.nil ?_
  refine Po.then ?_
  refine C.seq ?_
  refine C.reg ?_
  refine J.q rfl rfl rfl (V.mv rfl) ?_
  refine J.q rfl rfl rfl (V.add rfl rfl (by omega)) ?_
  refine J.q rfl rfl rfl (V.to (V.cv rfl Tryz.underlying3 Tryz.underlying5) (wh_byte i)) ?_
  refine J.q rfl rfl rfl (V.bldA (cs := flat [(8, hv h0)]) (cs' := hc (wh i)) ar29 rfl zr29 rfl (wh_parts i) (wh_fill i)) ?_
  refine J.q rfl rfl rfl (V.fa rfl fo24_1) ?_
  refine J.q rfl rfl rfl (V.ldS (i := 1) 2 rfl rfl sc22 rfl rfl rfl) ?_
  refine J.q rfl rfl rfl (V.mv rfl) ?_
  refine J.q rfl rfl rfl (V.iaR rfl hAm rfl sl22 (by rw [u16R_length]; omega)) ?_
  refine J.q rfl rfl rfl (V.ldRs rfl hAm (u16R_get hx) sc25) ?_
  refine J.q rfl rfl rfl (V.to (V.cv rfl Tryz.underlying25 Tryz.underlying3) (u16_int _)) ?_
  refine J.q rfl rfl rfl (V.add rfl rfl (by have := UInt16.toNat_lt (am.getD i 0); omega)) ?_
  refine J.q rfl rfl rfl (V.mv rfl) ?_
  refine J.q rfl rfl rfl (V.to (V.andI (b := 7) rfl rfl (by omega) (by decide)) (and7 i)) ?_
  refine J.q rfl rfl rfl (V.bld rfl zr31 pl31 (Put.one (i := 0) rfl rfl rfl <| Put.one (i := 1) rfl rfl rfl <| Put.one (i := 2) rfl rfl rfl <| Put.nil)) ?_
  refine J.one rfl (JO.stS (l := 4) rfl rfl rfl sz31 rfl rfl ?_)
  refine J.nil ?_
  refine Po.then ?_
  refine C.ret ?_
  exact Po.end1 rfl rfl (RV.cS (l := 4) rfl rfl ag31 rfl) fun W hI => ⟨rfl, hI.drop.drop⟩

theorem Tree_fn (va vm : Value) (at_ am : List UInt16) (hn : at_.length ≤ 12) (hl : at_.length ≤ am.length) (hm : am.length ≤ 50) (w0 : World) (ro : Hp) (M : Res) (hAt : RS ro va 1 (u16R at_)) (hAm : RS ro vm 1 (u16R am)) : Sx.Fn Tryz.prog 46 #[ag [(1, va), (1, vm)]] w0 ro M (fun u M1 => ∃ b vx vy, u = .pointer (some ⟨b, 0, none⟩) ∧ M1 = (105, St b [(1, vx), (1, vy)] 177) :: (115, Ow vx 3 1 (atR (treeTo at_ am at_.length))) :: (125, Ow vy 29 8 (hashR (treeTo at_ am at_.length))) :: M) := by
  obtain ⟨aA, cA, rfl, _⟩ := hAt.shape
  obtain ⟨aM, cM, rfl, _⟩ := hAm.shape
  refine Sx.Fn.enter Tryz.func46 rfl rfl ?_
  refine C.seq ?_
  refine C.reg ?_
  refine J.one rfl (JO.boxS (l := 1) rfl rfl fun b1 => ?_)
  refine J.q rfl rfl rfl (V.as rfl) ?_
  refine J.nil ?_
  refine Po.then ?_
  refine C.seq ?_
  refine C.nilO 115 3 1 ?_
  refine C.reg ?_
  refine J.q rfl rfl rfl (V.bld rfl zr177 pl177 (Put.nil)) ?_
  refine J.one rfl (JO.boxS (l := 6) rfl rfl fun b6 => ?_)
  refine J.q rfl rfl rfl (V.as rfl) ?_
  refine J.nil ?_
  refine Po.then ?_
  refine C.seq ?_
  refine C.seq ?_
  refine C.nilO 125 29 8 ?_
  refine C.reg ?_
  refine J.q rfl rfl rfl (V.as rfl) ?_
  refine J.nil ?_
  refine Po.then ?_
  refine C.block ?_
  refine C.loopP (fun (x : Nat × Value × Value) => x.1 ≤ at_.length) (fun (x : Nat × Value × Value) => [(4, .int .i64 (x.1 : Int)), (3, .pointer (some ⟨b6, 0, none⟩)), (1, .pointer (some ⟨b1, 0, none⟩))]) (fun (x : Nat × Value × Value) => (105, St b6 [(1, x.2.1), (1, x.2.2)] 177) :: (115, Ow x.2.1 3 1 (atR (treeTo at_ am x.1))) :: (125, Ow x.2.2 29 8 (hashR (treeTo at_ am x.1))) :: (1, St b1 [(1, .slice aA (u16R at_).length cA), (1, .slice aM (u16R am).length cM)] 24) :: M) (fun (x : Nat × Value × Value) => at_.length - x.1) (0, .slice none 0 0, .slice none 0 0) (by first | omega | (dsimp only; omega)) (Sub.cons rfl <| Sub.cons rfl <| Sub.cons rfl <| Sub.nil) (MSub.pullL (l := 6) rfl <| MSub.pullE rfl (by rfl) <| MSub.pullE rfl (by rfl) <| MSub.pull rfl <| MSub.refl) fun x hok => ?_
  obtain ⟨k, wx, wy⟩ := x
  dsimp only at hok ⊢
  refine C.seq ?_
  refine C.seq ?_
  refine C.reg ?_
  refine J.q rfl rfl rfl (V.mv rfl) ?_
  refine J.q rfl rfl rfl (V.fa rfl fo24_0) ?_
  refine J.q rfl rfl rfl (V.ldS (i := 0) 1 rfl rfl sc22 rfl rfl rfl) ?_
  refine J.q rfl rfl rfl (V.to (V.lenR rfl hAt Tryz.underlying22) (by rw [u16R_length])) ?_
  refine J.q rfl rfl rfl (V.lss rfl rfl) ?_
  refine J.nil ?_
  refine Po.then ?_
  refine C.ifd rfl (fun h11 => ?_) (fun h11 => ?_)
  · have hk : k < at_.length := by omega
    have hx : at_[k]? = some (at_.getD k 0) := getD_some hk
    refine C.skip ?_
    refine Po.then ?_
    refine C.seq ?_
    refine C.block ?_
    refine C.drawM [17] [0, 1, 2, 3, 4, 5, 6, 7, 8, 9, 10, 11, 12, 13, 14, 15, 16] mixed (by kernel_rfl) (by kernel_rfl) ?_
    refine DE.q rfl rfl rfl rfl (V.mv rfl) ?_
    refine DE.q rfl rfl rfl rfl (V.fa rfl fo24_0) ?_
    refine DE.q rfl rfl rfl rfl (V.ldS (i := 0) 1 rfl rfl sc22 rfl rfl rfl) ?_
    refine DE.q rfl rfl rfl rfl (V.mv rfl) ?_
    refine DE.q rfl rfl rfl rfl (V.iaR rfl hAt rfl sl22 (by rw [u16R_length]; omega)) ?_
    refine DE.q rfl rfl rfl rfl (V.ldRs rfl hAt (u16R_get hx) sc25) ?_
    refine DE.q rfl rfl rfl rfl (V.to (V.cv rfl Tryz.underlying25 Tryz.underlying3) (u16_int _)) ?_
    refine DE.q rfl rfl rfl rfl (V.fa rfl fo24_0) ?_
    refine DE.q rfl rfl rfl rfl (V.ldS (i := 0) 1 rfl rfl sc22 rfl rfl rfl) ?_
    refine DE.q rfl rfl rfl rfl (V.mv rfl) ?_
    refine DE.q rfl rfl rfl rfl (V.iaR rfl hAt rfl sl22 (by rw [u16R_length]; omega)) ?_
    refine DE.q rfl rfl rfl rfl (V.ldRs rfl hAt (u16R_get hx) sc25) ?_
    refine DE.q rfl rfl rfl rfl (V.to (V.cv rfl Tryz.underlying25 Tryz.underlying3) (u16_int _)) ?_
    refine DE.q rfl rfl rfl rfl (V.ldP (i := 0) (k := 2) 1 rfl rfl ag24 rfl rfl rfl) ?_
    refine DE.q rfl rfl rfl rfl (V.mv rfl) ?_
    refine DE.call rfl rfl rfl rfl tx15 rfl (fun N hN => State_pu _ _ at_ am _ (by omega) (by omega) _ _ _ hAt hAm) ?_
    refine DE.call rfl rfl rfl rfl tx88 rfl (fun N hN => rLeaf_pu _ _ _ _ _) ?_
    refine DE.nil ?_
    refine DT.o (by kernel_rfl) (MSub.refl) rfl rfl fun Kc hKc => ?_
    refine JO.call rfl tx96 rfl (Put_fn _ _ _ _ _ _ (UInt16.toNat_lt _) (by have := treeTo_sm at_ am (k := k) (by omega); omega) _ _ _) ?_
    rintro _ _ ⟨wx1, wy1, rfl, rfl⟩
    refine hKc _ _ _ (Hp.le_refl _) ?_
    clear hKc Kc
    refine DT.nil' (by kernel_rfl) ?_
    refine Po.blkN ?_
    refine Po.then ?_
    refine C.reg ?_
    refine J.q rfl rfl rfl (V.mv rfl) ?_
    refine J.q rfl rfl rfl (V.add rfl rfl (by omega)) ?_
    refine J.q rfl rfl rfl (V.as rfl) ?_
    refine J.nil ?_
    exact Po.roundP (k + 1, wx1, wy1) (by first | omega | (dsimp only; omega)) (Sub.cons rfl <| Sub.cons rfl <| Sub.cons rfl <| Sub.nil) (MSub.pull rfl <| MSub.pullE rfl (by rfl) <| MSub.pullE rfl (by rfl) <| MSub.pull rfl <| MSub.refl) (by first | omega | (dsimp only; omega))
  · obtain rfl : k = at_.length := by omega
    refine C.exit ?_
    refine Po.thenX ?_
    refine Po.thenX ?_
    refine Po.blkX ?_
    refine Po.then ?_
    refine C.seq ?_
    refine C.reg ?_
    refine J.q rfl rfl rfl (V.mv rfl) ?_
    refine J.q rfl rfl rfl (V.as rfl) ?_
    refine J.nil ?_
    refine Po.then ?_
    refine C.ret ?_
    exact Po.end1 rfl rfl rfl fun W hI => ⟨_, _, rfl, ⟨_, _, _, rfl, rfl⟩, (hI.sub (MSub.pull rfl <| MSub.pull rfl <| MSub.pull rfl <| MSub.drop <| MSub.refl))⟩
end Go.Proofs
namespace Go.Proofs
open Go Go.Sx Go.Db
set_option maxRecDepth 100000
theorem el36 : El Tryz.prog 36 59 9 16 := El.of Tryz.underlying36 (by kernel_rfl) (by decide)
theorem el41 : El Tryz.prog 41 192 282 296 := El.of Tryz.underlying41 (by kernel_rfl) (by decide)
theorem tx194 : Tx Tryz.prog 194 := ⟨Tryz.f194, Tryz.func194, rfl, by kernel_rfl⟩
theorem fo40_3 : Fo Tryz.prog 40 3 3 := ⟨_, _, 0, Tryz.underlying40, rfl, rfl, by kernel_rfl⟩
theorem fo40_2 : Fo Tryz.prog 40 2 2 := ⟨_, _, 0, Tryz.underlying40, rfl, rfl, by kernel_rfl⟩
theorem tx160 : Tx Tryz.prog 160 := ⟨Tryz.f160, Tryz.func160, rfl, by kernel_rfl⟩
theorem fo40_0 : Fo Tryz.prog 40 0 0 := ⟨_, _, 0, Tryz.underlying40, rfl, rfl, by kernel_rfl⟩
theorem fo40_1 : Fo Tryz.prog 40 1 1 := ⟨_, _, 0, Tryz.underlying40, rfl, rfl, by kernel_rfl⟩

theorem cloneH_fn (l : Nat) (v : Value) (xs : List (List Value)) (w0 : World) (ro : Hp) (M : Res) (hR : RS ro v 8 xs) (hb : xs.length * 8 ≤ 140737488355328) (hm : xs.length ≤ maxLen) : Sx.Fn Tryz.prog 104 #[v] w0 ro M (fun u M1 => M1 = (l, Ow u 29 8 xs) :: M) := by
  refine Sx.Fn.enter Tryz.func104 rfl rfl ?_
  refine C.seq ?_
  refine C.reg ?_
  refine J.q rfl rfl rfl (V.as rfl) ?_
  refine J.nil ?_
  refine Po.then ?_
  refine C.seq ?_
  refine C.seq ?_
  refine C.reg ?_
  refine J.q rfl rfl rfl (V.mv rfl) ?_
  refine J.q rfl rfl rfl (V.nilR rfl (by assumption) Tryz.underlying38) ?_
  refine J.nil ?_
  refine Po.then ?_
  refine C.ite rfl (fun h4 => ?_) (fun h4 => ?_)
  · obtain rfl := hR.nil h4
    refine C.seq ?_
    refine C.nilO 5 29 8 ?_
    refine C.reg ?_
    refine J.q rfl rfl rfl (V.as rfl) ?_
    refine J.nil ?_
    refine Po.then ?_
    refine C.ret ?_
    refine Po.thenR ?_
    exact Po.end1 rfl rfl rfl fun W hI => ⟨_, _, rfl, rfl, (hI.sub (MSub.pullL (l := 5) rfl <| MSub.refl))⟩
  · refine C.skip ?_
    refine Po.then ?_
    refine C.seq ?_
    refine C.reg ?_
    refine J.one rfl (JO.bsl (l := 5) rfl el38 rfl rfl rfl Cs.nil (by decide) fun v5 => ?_)
    refine J.q rfl rfl rfl (V.mv rfl) ?_
    refine J.one rfl (JO.appR (l := 5) rfl rfl rfl el38 rfl (by assumption) (by simpa using hb) (by simpa using hm) fun v7 => ?_)
    refine J.q rfl rfl rfl (V.as rfl) ?_
    refine J.nil ?_
    refine Po.then ?_
    refine C.ret ?_
    exact Po.end1 rfl rfl rfl fun W hI => ⟨_, _, rfl, rfl, (hI.sub (MSub.pullL (l := 5) rfl <| MSub.refl))⟩

theorem cloneO_fn (l : Nat) (v : Value) (xs : List (List Value)) (w0 : World) (ro : Hp) (M : Res) (hR : RS ro v 9 xs) (hb : xs.length * 16 ≤ 140737488355328) (hm : xs.length ≤ maxLen) : Sx.Fn Tryz.prog 105 #[v] w0 ro M (fun u M1 => M1 = (l, Ow u 59 9 xs) :: M) := by
  refine Sx.Fn.enter Tryz.func105 rfl rfl ?_
  refine C.seq ?_
  refine C.reg ?_
  refine J.q rfl rfl rfl (V.as rfl) ?_
  refine J.nil ?_
  refine Po.then ?_
  refine C.seq ?_
  refine C.seq ?_
  refine C.reg ?_
  refine J.q rfl rfl rfl (V.mv rfl) ?_
  refine J.q rfl rfl rfl (V.nilR rfl (by assumption) Tryz.underlying36) ?_
  refine J.nil ?_
  refine Po.then ?_
  refine C.ite rfl (fun h4 => ?_) (fun h4 => ?_)
  · obtain rfl := hR.nil h4
    refine C.seq ?_
    refine C.nilO 5 59 9 ?_
    refine C.reg ?_
    refine J.q rfl rfl rfl (V.as rfl) ?_
    refine J.nil ?_
    refine Po.then ?_
    refine C.ret ?_
    refine Po.thenR ?_
    exact Po.end1 rfl rfl rfl fun W hI => ⟨_, _, rfl, rfl, (hI.sub (MSub.pullL (l := 5) rfl <| MSub.refl))⟩
  · refine C.skip ?_
    refine Po.then ?_
    refine C.seq ?_
    refine C.reg ?_
    refine J.one rfl (JO.bsl (l := 5) rfl el36 rfl rfl rfl Cs.nil (by decide) fun v5 => ?_)
    refine J.q rfl rfl rfl (V.mv rfl) ?_
    refine J.one rfl (JO.appR (l := 5) rfl rfl rfl el36 rfl (by assumption) (by simpa using hb) (by simpa using hm) fun v7 => ?_)
    refine J.q rfl rfl rfl (V.as rfl) ?_
    refine J.nil ?_
    refine Po.then ?_
    refine C.ret ?_
    exact Po.end1 rfl rfl rfl fun W hI => ⟨_, _, rfl, rfl, (hI.sub (MSub.pullL (l := 5) rfl <| MSub.refl))⟩

theorem cloneS_fn (l : Nat) (v : Value) (xs : List (List Value)) (w0 : World) (ro : Hp) (M : Res) (hR : RS ro v 282 xs) (hb : xs.length * 296 ≤ 140737488355328) (hm : xs.length ≤ maxLen) : Sx.Fn Tryz.prog 106 #[v] w0 ro M (fun u M1 => M1 = (l, Ow u 192 282 xs) :: M) := by
  refine Sx.Fn.enter Tryz.func106 rfl rfl ?_
  refine C.seq ?_
  refine C.reg ?_
  refine J.q rfl rfl rfl (V.as rfl) ?_
  refine J.nil ?_
  refine Po.then ?_
  refine C.seq ?_
  refine C.seq ?_
  refine C.reg ?_
  refine J.q rfl rfl rfl (V.mv rfl) ?_
  refine J.q rfl rfl rfl (V.nilR rfl (by assumption) Tryz.underlying41) ?_
  refine J.nil ?_
  refine Po.then ?_
  refine C.ite rfl (fun h4 => ?_) (fun h4 => ?_)
  · obtain rfl := hR.nil h4
    refine C.seq ?_
    refine C.nilO 5 192 282 ?_
    refine C.reg ?_
    refine J.q rfl rfl rfl (V.as rfl) ?_
    refine J.nil ?_
    refine Po.then ?_
    refine C.ret ?_
    refine Po.thenR ?_
    exact Po.end1 rfl rfl rfl fun W hI => ⟨_, _, rfl, rfl, (hI.sub (MSub.pullL (l := 5) rfl <| MSub.refl))⟩
  · refine C.skip ?_
    refine Po.then ?_
    refine C.seq ?_
    refine C.reg ?_
    refine J.one rfl (JO.bsl (l := 5) rfl el41 rfl rfl rfl Cs.nil (by decide) fun v5 => ?_)
    refine J.q rfl rfl rfl (V.mv rfl) ?_
    refine J.one rfl (JO.appR (l := 5) rfl rfl rfl el41 rfl (by assumption) (by simpa using hb) (by simpa using hm) fun v7 => ?_)
    refine J.q rfl rfl rfl (V.as rfl) ?_
    refine J.nil ?_
    refine Po.then ?_
    refine C.ret ?_
    exact Po.end1 rfl rfl rfl fun W hI => ⟨_, _, rfl, rfl, (hI.sub (MSub.pullL (l := 5) rfl <| MSub.refl))⟩

theorem cloneI_fn (l : Nat) (v : Value) (xs : List (List Value)) (w0 : World) (ro : Hp) (M : Res) (hR : RS ro v 1 xs) (hb : xs.length * 8 ≤ 140737488355328) (hm : xs.length ≤ maxLen) : Sx.Fn Tryz.prog 107 #[v] w0 ro M (fun u M1 => M1 = (l, Ow u 3 1 xs) :: M) := by
  refine Sx.Fn.enter Tryz.func107 rfl rfl ?_
  refine C.seq ?_
  refine C.reg ?_
  refine J.q rfl rfl rfl (V.as rfl) ?_
  refine J.nil ?_
  refine Po.then ?_
  refine C.seq ?_
  refine C.seq ?_
  refine C.reg ?_
  refine J.q rfl rfl rfl (V.mv rfl) ?_
  refine J.q rfl rfl rfl (V.nilR rfl (by assumption) Tryz.underlying66) ?_
  refine J.nil ?_
  refine Po.then ?_
  refine C.ite rfl (fun h4 => ?_) (fun h4 => ?_)
  · obtain rfl := hR.nil h4
    refine C.seq ?_
    refine C.nilO 5 3 1 ?_
    refine C.reg ?_
    refine J.q rfl rfl rfl (V.as rfl) ?_
    refine J.nil ?_
    refine Po.then ?_
    refine C.ret ?_
    refine Po.thenR ?_
    exact Po.end1 rfl rfl rfl fun W hI => ⟨_, _, rfl, rfl, (hI.sub (MSub.pullL (l := 5) rfl <| MSub.refl))⟩
  · refine C.skip ?_
    refine Po.then ?_
    refine C.seq ?_
    refine C.reg ?_
    refine J.one rfl (JO.bsl (l := 5) rfl el66 rfl rfl rfl Cs.nil (by decide) fun v5 => ?_)
    refine J.q rfl rfl rfl (V.mv rfl) ?_
    refine J.one rfl (JO.appR (l := 5) rfl rfl rfl el66 rfl (by assumption) (by simpa using hb) (by simpa using hm) fun v7 => ?_)
    refine J.q rfl rfl rfl (V.as rfl) ?_
    refine J.nil ?_
    refine Po.then ?_
    refine C.ret ?_
    exact Po.end1 rfl rfl rfl fun W hI => ⟨_, _, rfl, rfl, (hI.sub (MSub.pullL (l := 5) rfl <| MSub.refl))⟩

theorem indexH_pu (v : Value) (l : List Hash) (h : Hash) (w0 : World) (ro : Hp) (M : Res) (hR : RS ro v 8 (hkR l)) (hl : l.length ≤ 1000000) : Pu Tryz.prog 194 #[v, hv h] w0 ro M (.int .i64 (ixH l h)) := by
  refine Pu.enter Tryz.func194 rfl rfl ?_
  refine C.seq ?_
  refine C.reg ?_
  refine J.one rfl (JO.box1 (l := 3) rfl rfl fun b3 => ?_)
  refine J.q rfl rfl rfl (V.as rfl) ?_
  refine J.nil ?_
  refine Po.then ?_
  refine C.seq ?_
  refine C.seq ?_
  refine C.reg ?_
  refine J.q rfl rfl rfl (V.mv rfl) ?_
  refine J.q rfl rfl rfl (V.to (V.lenR rfl hR Tryz.underlying38) (by rw [hkR_length])) ?_
  refine J.q rfl rfl rfl (V.mv rfl) ?_
  refine J.nil ?_
  refine Po.then ?_
  refine C.block ?_
  refine C.loopP (fun (k : Nat) => k ≤ l.length ∧ ∀ j, j < k → ∀ q, l[j]? = some q → q ≠ h) (fun (k : Nat) => [(8, .int .i64 (k : Int)), (7, .int .i64 (l.length : Int)), (3, .pointer (some ⟨b3, 0, none⟩)), (0, v)]) (fun (k : Nat) => (3, St b3 [(8, hv h)] 29) :: M) (fun (k : Nat) => l.length - k) 0 ⟨by omega, fun j hj => by omega⟩ (Sub.cons rfl <| Sub.cons rfl <| Sub.cons rfl <| Sub.cons rfl <| Sub.nil) (MSub.pull rfl <| MSub.refl) fun k hok => ?_
  refine C.seq ?_
  refine C.reg ?_
  refine J.q rfl rfl rfl (V.lss rfl rfl) ?_
  refine J.nil ?_
  refine Po.then ?_
  refine C.seq ?_
  refine C.ifd rfl (fun h9 => ?_) (fun h9 => ?_)
  · have hk : k < l.length := by omega
    obtain ⟨p, hp⟩ : ∃ p, l[k]? = some p := ⟨_, List.getElem?_eq_getElem hk⟩
    refine C.skip ?_
    refine Po.then ?_
    refine C.seq ?_
    refine C.block ?_
    refine C.seq ?_
    refine C.reg ?_
    refine J.q rfl rfl rfl (V.mv rfl) ?_
    refine J.q rfl rfl rfl (V.as rfl) ?_
    refine J.nil ?_
    refine Po.then ?_
    refine C.seq ?_
    refine C.drawM [] [0, 1, 2, 3, 4, 5] mixed (by kernel_rfl) (by kernel_rfl) ?_
    refine DE.q rfl rfl rfl rfl (V.ldA (i := 0) 3 rfl rfl ag29 rfl rfl) ?_
    refine DE.q rfl rfl rfl rfl (V.mv rfl) ?_
    refine DE.q rfl rfl rfl rfl (V.mv rfl) ?_
    refine DE.q rfl rfl rfl rfl (V.iaR rfl hR rfl sl38 (by rw [hkR_length]; omega)) ?_
    refine DE.q rfl rfl rfl rfl (V.ldR rfl hR (hkR_get hp) ag29) ?_
    refine DE.q rfl rfl rfl rfl (V.eqlH rfl rfl ht29) ?_
    refine DE.nil ?_
    refine DT.nil (MSub.refl) ?_
    refine Po.then ?_
    refine C.ifd rfl (fun h16 => ?_) (fun h16 => ?_)
    · subst h16
      rw [ixH_some hok.2 hp]
      refine C.seq ?_
      refine C.reg ?_
      refine J.q rfl rfl rfl (V.mv rfl) ?_
      refine J.q rfl rfl rfl (V.as rfl) ?_
      refine J.nil ?_
      refine Po.then ?_
      refine C.ret ?_
      refine Po.blkR ?_
      refine Po.thenR ?_
      refine Po.thenR ?_
      refine Po.blkR ?_
      refine Po.thenR ?_
      exact Po.end1 rfl rfl rfl fun W hI => ⟨rfl, hI.drop⟩
    · refine C.skip ?_
      refine Po.blkN ?_
      refine Po.then ?_
      refine C.reg ?_
      refine J.q rfl rfl rfl (V.add rfl rfl (by omega)) ?_
      refine J.q rfl rfl rfl (V.mv rfl) ?_
      refine J.nil ?_
      exact Po.roundP (k + 1) ⟨by omega, fun j hj q hq => by
            rcases Nat.lt_or_ge j k with hjk | hjk
            · exact hok.2 j hjk q hq
            · obtain rfl : j = k := by omega
              rw [hp] at hq; cases hq; exact fun e => h16 e.symm⟩ (Sub.cons rfl <| Sub.cons rfl <| Sub.cons rfl <| Sub.cons rfl <| Sub.nil) (MSub.pull rfl <| MSub.refl) (by first | omega | (dsimp only; omega))
  · obtain ⟨hk1, hk2⟩ := hok
    obtain rfl : k = l.length := by omega
    rw [ixH_none hk2]
    refine C.exit ?_
    refine Po.thenX ?_
    refine Po.thenX ?_
    refine Po.blkX ?_
    refine Po.then ?_
    refine C.seq ?_
    refine C.reg ?_
    refine J.q rfl rfl rfl (V.as rfl) ?_
    refine J.nil ?_
    refine Po.then ?_
    refine C.ret ?_
    exact Po.end1 rfl rfl rfl fun W hI => ⟨rfl, hI.drop⟩

theorem containsH_pu (v : Value) (l : List Hash) (h : Hash) (w0 : World) (ro : Hp) (M : Res) (hR : RS ro v 8 (hkR l)) (hl : l.length ≤ 1000000) : Pu Tryz.prog 160 #[v, hv h] w0 ro M (.bool (decide (h ∈ l))) := by
  refine Pu.enter Tryz.func160 rfl rfl ?_
  refine C.seq ?_
  refine C.reg ?_
  refine J.one rfl (JO.box1 (l := 3) rfl rfl fun b3 => ?_)
  refine J.q rfl rfl rfl (V.as rfl) ?_
  refine J.nil ?_
  refine Po.then ?_
  refine C.seq ?_
  refine C.reg ?_
  refine J.q rfl rfl rfl (V.mv rfl) ?_
  refine J.q rfl rfl rfl (V.ldA (i := 0) 3 rfl rfl ag29 rfl rfl) ?_
  refine J.callP rfl tx194 rfl (indexH_pu _ l h _ _ _ hR hl) ?_ 
  refine J.q rfl rfl rfl (V.to (V.geq rfl rfl) (ixH_has l h)) ?_
  refine J.q rfl rfl rfl (V.as rfl) ?_
  refine J.nil ?_
  refine Po.then ?_
  refine C.ret ?_
  exact Po.end1 rfl rfl rfl fun W hI => ⟨rfl, hI.drop⟩

theorem quorumMay_pu (v : Value) (p : Par) (w0 : World) (ro : Hp) (M : Res) (hR : RS ro v 8 (hkR p.keys)) (hl : p.keys.length ≤ 1000000) : Pu Tryz.prog 116 #[ag (p.lv v)] w0 ro M (.bool (decide (mayP p))) := by
  obtain ⟨aK, cK, rfl, _⟩ := hR.shape
  refine Pu.enter Tryz.func116 rfl rfl ?_
  refine C.seq ?_
  refine C.reg ?_
  refine J.one rfl (JO.boxS (l := 1) rfl rfl fun b1 => ?_)
  refine J.q rfl rfl rfl (V.as rfl) ?_
  refine J.nil ?_
  refine Po.then ?_
  refine C.seq ?_
  refine C.reg ?_
  refine J.q rfl rfl rfl (V.fa rfl fo40_3) ?_
  refine J.q rfl rfl rfl (V.ldS (i := 3) 1 rfl rfl sc38 rfl rfl rfl) ?_
  refine J.q rfl rfl rfl (V.to (V.lenR rfl hR Tryz.underlying38) (by rw [hkR_length])) ?_
  refine J.q rfl rfl rfl (V.as rfl) ?_
  refine J.nil ?_
  refine Po.then ?_
  refine C.seq ?_
  refine C.seq ?_
  refine C.reg ?_
  refine J.q rfl rfl rfl (V.mv rfl) ?_
  refine J.q rfl rfl rfl (V.lss rfl rfl) ?_
  refine J.mvB rfl rfl fun gb11 hgb11 => ?_
  refine J.gv rfl rfl rfl rfl rfl rfl (fun hg => by subst hg; exact V.mv rfl) ?_
  refine J.gv rfl rfl rfl rfl rfl rfl (fun hg => by subst hg; exact V.gtr rfl rfl) ?_
  refine J.q rfl rfl rfl (V.or rfl rfl rfl) ?_
  refine J.mvB rfl rfl fun gb15 hgb15 => ?_
  refine J.gv rfl rfl rfl rfl rfl rfl (fun hg => by subst hg; exact V.fa rfl fo40_2) ?_
  refine J.gv rfl rfl rfl rfl rfl rfl (fun hg => by subst hg; exact V.ldS (i := 2) 1 rfl rfl sc3 rfl rfl rfl) ?_
  refine J.gv rfl rfl rfl rfl rfl rfl (fun hg => by subst hg; exact V.lss rfl rfl) ?_
  refine J.q rfl rfl rfl (V.or rfl rfl rfl) ?_
  refine J.mvB rfl rfl fun gb20 hgb20 => ?_
  refine J.gv rfl rfl rfl rfl rfl rfl (fun hg => by subst hg; exact V.fa rfl fo40_2) ?_
  refine J.gv rfl rfl rfl rfl rfl rfl (fun hg => by subst hg; exact V.ldS (i := 2) 1 rfl rfl sc3 rfl rfl rfl) ?_
  refine J.gv rfl rfl rfl rfl rfl rfl (fun hg => by subst hg; exact V.mv rfl) ?_
  refine J.gv rfl rfl rfl rfl rfl rfl (fun hg => by subst hg; exact V.gtr rfl rfl) ?_
  refine J.q rfl rfl rfl (V.or rfl rfl rfl) ?_
  refine J.nil ?_
  refine Po.then ?_
  refine C.ite rfl (fun h25 => ?_) (fun h25 => ?_)
  · subst hgb11 hgb15 hgb20
    try simp only [Bool.and_eq_true, Bool.or_eq_true, Bool.and_eq_false_iff, Bool.or_eq_false_iff, Bool.not_eq_true', Bool.not_eq_false', decide_eq_true_eq, decide_eq_false_iff_not] at h25
    have hno : ¬ mayP p := by
      rintro ⟨m1, m2, m3, m4, _⟩; omega
    rw [decide_eq_false hno]
    refine C.seq ?_
    refine C.reg ?_
    refine J.q rfl rfl rfl (V.as rfl) ?_
    refine J.nil ?_
    refine Po.then ?_
    refine C.ret ?_
    refine Po.thenR ?_
    exact Po.end1 rfl rfl rfl fun W hI => ⟨rfl, hI.drop⟩
  · subst hgb11 hgb15 hgb20
    try simp only [Bool.and_eq_true, Bool.or_eq_true, Bool.and_eq_false_iff, Bool.or_eq_false_iff, Bool.not_eq_true', Bool.not_eq_false', decide_eq_true_eq, decide_eq_false_iff_not] at h25
    have hpar : 1 ≤ p.keys.length ∧ p.keys.length ≤ 5 ∧ 1 ≤ p.need ∧ p.need ≤ p.keys.length := by omega
    refine C.skip ?_
    refine Po.then ?_
    refine C.seq ?_
    refine C.seq ?_
    refine C.reg ?_
    refine J.q rfl rfl rfl (V.fa rfl fo40_3) ?_
    refine J.q rfl rfl rfl (V.ldS (i := 3) 1 rfl rfl sc38 rfl rfl rfl) ?_
    refine J.q rfl rfl rfl (V.to (V.lenR rfl hR Tryz.underlying38) (by rw [hkR_length])) ?_
    refine J.q rfl rfl rfl (V.mv rfl) ?_
    refine J.nil ?_
    refine Po.then ?_
    refine C.block ?_
    refine C.loopP (fun (k : Nat) => k ≤ p.keys.length ∧ keysTo p.keys k) (fun (k : Nat) => [(29, .int .i64 (k : Int)), (28, .int .i64 (p.keys.length : Int)), (27, .slice aK (hkR p.keys).length cK), (1, .pointer (some ⟨b1, 0, none⟩))]) (fun (k : Nat) => (1, St b1 (p.lv (.slice aK (hkR p.keys).length cK)) 40) :: M) (fun (k : Nat) => p.keys.length - k) 0 ⟨by omega, keysTo_0 _⟩ (Sub.cons rfl <| Sub.cons rfl <| Sub.cons rfl <| Sub.cons rfl <| Sub.nil) (MSub.pull rfl <| MSub.refl) fun k hok => ?_
    refine C.seq ?_
    refine C.reg ?_
    refine J.q rfl rfl rfl (V.lss rfl rfl) ?_
    refine J.nil ?_
    refine Po.then ?_
    refine C.seq ?_
    refine C.ifd rfl (fun h30 => ?_) (fun h30 => ?_)
    · have hk : k < p.keys.length := by omega
      obtain ⟨q, hq⟩ : ∃ q, p.keys[k]? = some q := ⟨_, List.getElem?_eq_getElem hk⟩
      have hRs := rs_take hR hok.1
      refine C.skip ?_
      refine Po.then ?_
      refine C.seq ?_
      refine C.block ?_
      refine C.seq ?_
      refine C.reg ?_
      refine J.q rfl rfl rfl (V.mv rfl) ?_
      refine J.q rfl rfl rfl (V.iaR rfl hR rfl sl38 (by rw [hkR_length]; omega)) ?_
      refine J.q rfl rfl rfl (V.ldR rfl hR (hkR_get hq) ag29) ?_
      refine J.one rfl (JO.alloc (l := 5) rfl zr29 fun b5 => ?_)
      refine J.q rfl rfl rfl (V.as rfl) ?_
      refine J.one rfl (JO.st (i := 0) (l := 5) rfl rfl rfl sz29 rfl rfl ?_)
      refine J.nil ?_
      refine Po.then ?_
      refine C.seq ?_
      refine C.drawM [] [0, 1, 2, 3, 4, 5, 6, 7, 8, 9] mixed (by kernel_rfl) (by kernel_rfl) ?_
      refine DE.q rfl rfl rfl rfl (V.ldA (i := 0) 5 rfl rfl ag29 rfl rfl) ?_
      refine DE.call rfl rfl rfl rfl tx145 rfl (fun N hN => Zero_pu _ _ _ _) ?_
      refine DE.mvB rfl rfl rfl rfl rfl fun gb36 hgb36 => ?_
      refine DE.gv rfl rfl rfl rfl rfl rfl rfl (fun hg => by subst hg; exact V.fa rfl fo40_3) ?_
      refine DE.gv rfl rfl rfl rfl rfl rfl rfl (fun hg => by subst hg; exact V.ldS (i := 3) 1 rfl rfl sc38 rfl rfl rfl) ?_
      refine DE.gv rfl rfl rfl rfl rfl rfl rfl (fun hg => by subst hg; exact V.mv rfl) ?_
      refine DE.gv rfl rfl rfl rfl rfl rfl rfl (fun hg => by subst hg; exact V.slR (lo := 0) (hi := k) rfl hR sl38 rfl ⟨_, rfl⟩ (by omega) (by rw [hkR_length]; omega)) ?_
      refine DE.gv rfl rfl rfl rfl rfl rfl rfl (fun hg => by subst hg; exact V.ldA (i := 0) 5 rfl rfl ag29 rfl rfl) ?_
      refine DE.gcv rfl rfl rfl rfl rfl rfl tx160 (fun hg => by subst hg; rfl) (fun hg N hN => by subst hg; exact containsH_pu _ (p.keys.take k) _ _ _ _ hRs (by simp; omega)) ?_
      refine DE.q rfl rfl rfl rfl (V.or rfl rfl rfl) ?_
      refine DE.nil ?_
      refine DT.nil (MSub.refl) ?_
      refine Po.then ?_
      refine C.ite rfl (fun h43 => ?_) (fun h43 => ?_)
      · subst hgb36
        try simp only [Bool.and_eq_true, Bool.or_eq_true, Bool.and_eq_false_iff, Bool.or_eq_false_iff, Bool.not_eq_true', Bool.not_eq_false', decide_eq_true_eq, decide_eq_false_iff_not] at h43
        have hno : ¬ mayP p := by
          rintro ⟨_, _, _, _, m5, _⟩
          have := m5 k hk _ hq
          rcases h43 with h | h
          · exact this.1 h
          · exact this.2 h
        rw [decide_eq_false hno]
        refine C.seq ?_
        refine C.reg ?_
        refine J.q rfl rfl rfl (V.as rfl) ?_
        refine J.nil ?_
        refine Po.then ?_
        refine C.ret ?_
        refine Po.blkR ?_
        refine Po.thenR ?_
        refine Po.thenR ?_
        refine Po.blkR ?_
        refine Po.thenR ?_
        exact Po.end1 rfl rfl rfl fun W hI => ⟨rfl, hI.drop.drop⟩
      · subst hgb36
        try simp only [Bool.and_eq_true, Bool.or_eq_true, Bool.and_eq_false_iff, Bool.or_eq_false_iff, Bool.not_eq_true', Bool.not_eq_false', decide_eq_true_eq, decide_eq_false_iff_not] at h43
        refine C.skip ?_
        refine Po.blkN ?_
        refine Po.then ?_
        refine C.reg ?_
        refine J.q rfl rfl rfl (V.add rfl rfl (by omega)) ?_
        refine J.q rfl rfl rfl (V.mv rfl) ?_
        refine J.nil ?_
        exact Po.roundP (k + 1) ⟨by omega, keysTo_succ hok.2 hq h43.1 h43.2⟩ (Sub.cons rfl <| Sub.cons rfl <| Sub.cons rfl <| Sub.cons rfl <| Sub.nil) (MSub.pull rfl <| MSub.drop <| MSub.refl) (by first | omega | (dsimp only; omega))
    · obtain ⟨hk1, hk2⟩ := hok
      obtain rfl : k = p.keys.length := by omega
      refine C.exit ?_
      refine Po.thenX ?_
      refine Po.thenX ?_
      refine Po.blkX ?_
      refine Po.then ?_
      refine C.seq ?_
      refine C.reg ?_
      refine J.q rfl rfl rfl (V.fa rfl fo40_0) ?_
      refine J.q rfl rfl rfl (V.ldS (i := 0) 1 rfl rfl sc3 rfl rfl rfl) ?_
      refine J.q rfl rfl rfl (V.geq rfl rfl) ?_
      refine J.mvB rfl rfl fun gb48 hgb48 => ?_
      refine J.gv rfl rfl rfl rfl rfl rfl (fun hg => by subst hg; exact V.fa rfl fo40_0) ?_
      refine J.gv rfl rfl rfl rfl rfl rfl (fun hg => by subst hg; exact V.ldS (i := 0) 1 rfl rfl sc3 rfl rfl rfl) ?_
      refine J.gv rfl rfl rfl rfl rfl rfl (fun hg => by subst hg; exact V.leq rfl rfl) ?_
      refine J.q rfl rfl rfl (V.and rfl rfl rfl) ?_
      refine J.mvB rfl rfl fun gb53 hgb53 => ?_
      refine J.gv rfl rfl rfl rfl rfl rfl (fun hg => by subst hg; exact V.fa rfl fo40_1) ?_
      refine J.gv rfl rfl rfl rfl rfl rfl (fun hg => by subst hg; exact V.ldS (i := 1) 1 rfl rfl sc3 rfl rfl rfl) ?_
      refine J.gv rfl rfl rfl rfl rfl rfl (fun hg => by subst hg; exact V.geq rfl rfl) ?_
      refine J.q rfl rfl rfl (V.and rfl rfl rfl) ?_
      refine J.mvB rfl rfl fun gb58 hgb58 => ?_
      refine J.gv rfl rfl rfl rfl rfl rfl (fun hg => by subst hg; exact V.fa rfl fo40_1) ?_
      refine J.gv rfl rfl rfl rfl rfl rfl (fun hg => by subst hg; exact V.ldS (i := 1) 1 rfl rfl sc3 rfl rfl rfl) ?_
      refine J.gv rfl rfl rfl rfl rfl rfl (fun hg => by subst hg; exact V.fa rfl fo40_0) ?_
      refine J.gv rfl rfl rfl rfl rfl rfl (fun hg => by subst hg; exact V.ldS (i := 0) 1 rfl rfl sc3 rfl rfl rfl) ?_
      refine J.gv rfl rfl rfl rfl rfl rfl (fun hg => by subst hg; exact V.leq rfl rfl) ?_
      refine J.q rfl rfl rfl (V.and rfl rfl rfl) ?_
      refine J.q rfl rfl rfl (V.as rfl) ?_
      refine J.nil ?_
      refine Po.then ?_
      refine C.ret ?_
      subst hgb48 hgb53 hgb58
      exact Po.end1 rfl rfl rfl fun W hI => ⟨(by exact congrArg _ (may_fin hpar hk2)), hI.drop⟩

theorem rMayParams_pu (v : Value) (p : Par) (w0 : World) (ro : Hp) (M : Res) (hR : RS ro v 8 (hkR p.keys)) (hl : p.keys.length ≤ 1000000) : Pu Tryz.prog 112 #[ag (p.lv v)] w0 ro M (.bool (decide (mayP p))) := by
  obtain ⟨aK, cK, rfl, _⟩ := hR.shape
  refine Pu.enter Tryz.func112 rfl rfl ?_
  refine C.seq ?_
  refine C.reg ?_
  refine J.one rfl (JO.boxS (l := 1) rfl rfl fun b1 => ?_)
  refine J.q rfl rfl rfl (V.as rfl) ?_
  refine J.nil ?_
  refine Po.then ?_
  refine C.seq ?_
  refine C.seq ?_
  refine C.reg ?_
  refine J.q rfl rfl rfl (V.fa rfl fo40_3) ?_
  refine J.q rfl rfl rfl (V.ldS (i := 3) 1 rfl rfl sc38 rfl rfl rfl) ?_
  refine J.q rfl rfl rfl (V.to (V.lenR rfl hR Tryz.underlying38) (by rw [hkR_length])) ?_
  refine J.q rfl rfl rfl (V.lss rfl rfl) ?_
  refine J.mvB rfl rfl fun gb9 hgb9 => ?_
  refine J.gv rfl rfl rfl rfl rfl rfl (fun hg => by subst hg; exact V.fa rfl fo40_3) ?_
  refine J.gv rfl rfl rfl rfl rfl rfl (fun hg => by subst hg; exact V.ldS (i := 3) 1 rfl rfl sc38 rfl rfl rfl) ?_
  refine J.gv rfl rfl rfl rfl rfl rfl (fun hg => by subst hg; exact V.to (V.lenR rfl hR Tryz.underlying38) (by rw [hkR_length])) ?_
  refine J.gv rfl rfl rfl rfl rfl rfl (fun hg => by subst hg; exact V.gtr rfl rfl) ?_
  refine J.q rfl rfl rfl (V.or rfl rfl rfl) ?_
  refine J.mvB rfl rfl fun gb15 hgb15 => ?_
  refine J.gv rfl rfl rfl rfl rfl rfl (fun hg => by subst hg; exact V.fa rfl fo40_2) ?_
  refine J.gv rfl rfl rfl rfl rfl rfl (fun hg => by subst hg; exact V.ldS (i := 2) 1 rfl rfl sc3 rfl rfl rfl) ?_
  refine J.gv rfl rfl rfl rfl rfl rfl (fun hg => by subst hg; exact V.lss rfl rfl) ?_
  refine J.q rfl rfl rfl (V.or rfl rfl rfl) ?_
  refine J.mvB rfl rfl fun gb20 hgb20 => ?_
  refine J.gv rfl rfl rfl rfl rfl rfl (fun hg => by subst hg; exact V.fa rfl fo40_2) ?_
  refine J.gv rfl rfl rfl rfl rfl rfl (fun hg => by subst hg; exact V.ldS (i := 2) 1 rfl rfl sc3 rfl rfl rfl) ?_
  refine J.gv rfl rfl rfl rfl rfl rfl (fun hg => by subst hg; exact V.fa rfl fo40_3) ?_
  refine J.gv rfl rfl rfl rfl rfl rfl (fun hg => by subst hg; exact V.ldS (i := 3) 1 rfl rfl sc38 rfl rfl rfl) ?_
  refine J.gv rfl rfl rfl rfl rfl rfl (fun hg => by subst hg; exact V.to (V.lenR rfl hR Tryz.underlying38) (by rw [hkR_length])) ?_
  refine J.gv rfl rfl rfl rfl rfl rfl (fun hg => by subst hg; exact V.gtr rfl rfl) ?_
  refine J.q rfl rfl rfl (V.or rfl rfl rfl) ?_
  refine J.mvB rfl rfl fun gb28 hgb28 => ?_
  refine J.gv rfl rfl rfl rfl rfl rfl (fun hg => by subst hg; exact V.fa rfl fo40_0) ?_
  refine J.gv rfl rfl rfl rfl rfl rfl (fun hg => by subst hg; exact V.ldS (i := 0) 1 rfl rfl sc3 rfl rfl rfl) ?_
  refine J.gv rfl rfl rfl rfl rfl rfl (fun hg => by subst hg; exact V.lss rfl rfl) ?_
  refine J.q rfl rfl rfl (V.or rfl rfl rfl) ?_
  refine J.mvB rfl rfl fun gb33 hgb33 => ?_
  refine J.gv rfl rfl rfl rfl rfl rfl (fun hg => by subst hg; exact V.fa rfl fo40_0) ?_
  refine J.gv rfl rfl rfl rfl rfl rfl (fun hg => by subst hg; exact V.ldS (i := 0) 1 rfl rfl sc3 rfl rfl rfl) ?_
  refine J.gv rfl rfl rfl rfl rfl rfl (fun hg => by subst hg; exact V.gtr rfl rfl) ?_
  refine J.q rfl rfl rfl (V.or rfl rfl rfl) ?_
  refine J.mvB rfl rfl fun gb38 hgb38 => ?_
  refine J.gv rfl rfl rfl rfl rfl rfl (fun hg => by subst hg; exact V.fa rfl fo40_1) ?_
  refine J.gv rfl rfl rfl rfl rfl rfl (fun hg => by subst hg; exact V.ldS (i := 1) 1 rfl rfl sc3 rfl rfl rfl) ?_
  refine J.gv rfl rfl rfl rfl rfl rfl (fun hg => by subst hg; exact V.lss rfl rfl) ?_
  refine J.q rfl rfl rfl (V.or rfl rfl rfl) ?_
  refine J.mvB rfl rfl fun gb43 hgb43 => ?_
  refine J.gv rfl rfl rfl rfl rfl rfl (fun hg => by subst hg; exact V.fa rfl fo40_1) ?_
  refine J.gv rfl rfl rfl rfl rfl rfl (fun hg => by subst hg; exact V.ldS (i := 1) 1 rfl rfl sc3 rfl rfl rfl) ?_
  refine J.gv rfl rfl rfl rfl rfl rfl (fun hg => by subst hg; exact V.fa rfl fo40_0) ?_
  refine J.gv rfl rfl rfl rfl rfl rfl (fun hg => by subst hg; exact V.ldS (i := 0) 1 rfl rfl sc3 rfl rfl rfl) ?_
  refine J.gv rfl rfl rfl rfl rfl rfl (fun hg => by subst hg; exact V.gtr rfl rfl) ?_
  refine J.q rfl rfl rfl (V.or rfl rfl rfl) ?_
  refine J.nil ?_
  refine Po.then ?_
  refine C.ite rfl (fun h49 => ?_) (fun h49 => ?_)
  · subst hgb9 hgb15 hgb20 hgb28 hgb33 hgb38 hgb43
    try simp only [Bool.and_eq_true, Bool.or_eq_true, Bool.and_eq_false_iff, Bool.or_eq_false_iff, Bool.not_eq_true', Bool.not_eq_false', decide_eq_true_eq, decide_eq_false_iff_not] at h49
    have hno : ¬ mayP p := by
      rintro ⟨m1, m2, m3, m4, _, m5, m6, m7, m8⟩; omega
    rw [decide_eq_false hno]
    refine C.seq ?_
    refine C.reg ?_
    refine J.q rfl rfl rfl (V.as rfl) ?_
    refine J.nil ?_
    refine Po.then ?_
    refine C.ret ?_
    refine Po.thenR ?_
    exact Po.end1 rfl rfl rfl fun W hI => ⟨rfl, hI.drop⟩
  · subst hgb9 hgb15 hgb20 hgb28 hgb33 hgb38 hgb43
    try simp only [Bool.and_eq_true, Bool.or_eq_true, Bool.and_eq_false_iff, Bool.or_eq_false_iff, Bool.not_eq_true', Bool.not_eq_false', decide_eq_true_eq, decide_eq_false_iff_not] at h49
    have hpar : 1 ≤ p.keys.length ∧ p.keys.length ≤ 5 ∧ 1 ≤ p.need ∧ p.need ≤ p.keys.length ∧ 2 ≤ p.length ∧ p.length ≤ 64 ∧ 1 ≤ p.window ∧ p.window ≤ p.length := by omega
    refine C.skip ?_
    refine Po.then ?_
    refine C.seq ?_
    refine C.seq ?_
    refine C.reg ?_
    refine J.q rfl rfl rfl (V.as rfl) ?_
    refine J.nil ?_
    refine Po.then ?_
    refine C.block ?_
    refine C.loopP (fun (k : Nat) => k ≤ p.keys.length ∧ keysTo p.keys k) (fun (k : Nat) => [(3, .int .i64 (k : Int)), (1, .pointer (some ⟨b1, 0, none⟩))]) (fun (k : Nat) => (1, St b1 (p.lv (.slice aK (hkR p.keys).length cK)) 40) :: M) (fun (k : Nat) => p.keys.length - k) 0 ⟨by omega, keysTo_0 _⟩ (Sub.cons rfl <| Sub.cons rfl <| Sub.nil) (MSub.pull rfl <| MSub.refl) fun k hok => ?_
    refine C.seq ?_
    refine C.seq ?_
    refine C.reg ?_
    refine J.q rfl rfl rfl (V.mv rfl) ?_
    refine J.q rfl rfl rfl (V.fa rfl fo40_3) ?_
    refine J.q rfl rfl rfl (V.ldS (i := 3) 1 rfl rfl sc38 rfl rfl rfl) ?_
    refine J.q rfl rfl rfl (V.to (V.lenR rfl hR Tryz.underlying38) (by rw [hkR_length])) ?_
    refine J.q rfl rfl rfl (V.lss rfl rfl) ?_
    refine J.nil ?_
    refine Po.then ?_
    refine C.ifd rfl (fun h54 => ?_) (fun h54 => ?_)
    · have hok1 := hok
      have hk : k < p.keys.length := by omega
      obtain ⟨q, hq⟩ : ∃ q, p.keys[k]? = some q := ⟨_, List.getElem?_eq_getElem hk⟩
      refine C.skip ?_
      refine Po.then ?_
      refine C.seq ?_
      refine C.block ?_
      refine C.seq ?_
      refine C.seq ?_
      refine C.reg ?_
      refine J.q rfl rfl rfl (V.as rfl) ?_
      refine J.nil ?_
      refine Po.then ?_
      refine C.block ?_
      refine C.loopP (fun (j : Nat) => j ≤ k ∧ ∀ m, m < j → ∀ q', p.keys[m]? = some q' → q' ≠ q) (fun (j : Nat) => [(4, .int .i64 (j : Int)), (3, .int .i64 (k : Int)), (1, .pointer (some ⟨b1, 0, none⟩))]) (fun (j : Nat) => (1, St b1 (p.lv (.slice aK (hkR p.keys).length cK)) 40) :: M) (fun (j : Nat) => k - j) 0 ⟨by omega, fun m hm => by omega⟩ (Sub.cons rfl <| Sub.cons rfl <| Sub.cons rfl <| Sub.nil) (MSub.pull rfl <| MSub.refl) fun j hok => ?_
      have hok2 := hok; clear hok
      refine C.seq ?_
      refine C.seq ?_
      refine C.reg ?_
      refine J.q rfl rfl rfl (V.mv rfl) ?_
      refine J.q rfl rfl rfl (V.mv rfl) ?_
      refine J.q rfl rfl rfl (V.lss rfl rfl) ?_
      refine J.nil ?_
      refine Po.then ?_
      refine C.ifd rfl (fun h59 => ?_) (fun h59 => ?_)
      · have hj : j < k := by omega
        obtain ⟨r, hr⟩ : ∃ r, p.keys[j]? = some r := ⟨_, List.getElem?_eq_getElem (by omega)⟩
        refine C.skip ?_
        refine Po.then ?_
        refine C.seq ?_
        refine C.block ?_
        refine C.seq ?_
        refine C.drawM [] [0, 1, 2, 3, 4, 5, 6, 7, 8, 9, 10] mixed (by kernel_rfl) (by kernel_rfl) ?_
        refine DE.q rfl rfl rfl rfl (V.fa rfl fo40_3) ?_
        refine DE.q rfl rfl rfl rfl (V.ldS (i := 3) 1 rfl rfl sc38 rfl rfl rfl) ?_
        refine DE.q rfl rfl rfl rfl (V.mv rfl) ?_
        refine DE.q rfl rfl rfl rfl (V.iaR rfl hR rfl sl38 (by rw [hkR_length]; omega)) ?_
        refine DE.q rfl rfl rfl rfl (V.ldR rfl hR (hkR_get hr) ag29) ?_
        refine DE.q rfl rfl rfl rfl (V.fa rfl fo40_3) ?_
        refine DE.q rfl rfl rfl rfl (V.ldS (i := 3) 1 rfl rfl sc38 rfl rfl rfl) ?_
        refine DE.q rfl rfl rfl rfl (V.mv rfl) ?_
        refine DE.q rfl rfl rfl rfl (V.iaR rfl hR rfl sl38 (by rw [hkR_length]; omega)) ?_
        refine DE.q rfl rfl rfl rfl (V.ldR rfl hR (hkR_get hq) ag29) ?_
        refine DE.q rfl rfl rfl rfl (V.eqlH rfl rfl ht29) ?_
        refine DE.nil ?_
        refine DT.nil (MSub.refl) ?_
        refine Po.then ?_
        refine C.ifd rfl (fun h72 => ?_) (fun h72 => ?_)
        · have hno : ¬ mayP p := by
            rintro ⟨_, _, _, _, m5, _⟩
            subst h72
            exact (m5 k hk _ hq).2 (in_take hj hr)
          rw [decide_eq_false hno]
          refine C.seq ?_
          refine C.reg ?_
          refine J.q rfl rfl rfl (V.as rfl) ?_
          refine J.nil ?_
          refine Po.then ?_
          refine C.ret ?_
          refine Po.blkR ?_
          refine Po.thenR ?_
          refine Po.thenR ?_
          refine Po.blkR ?_
          refine Po.thenR ?_
          refine Po.blkR ?_
          refine Po.thenR ?_
          refine Po.thenR ?_
          refine Po.blkR ?_
          refine Po.thenR ?_
          exact Po.end1 rfl rfl rfl fun W hI => ⟨rfl, hI.drop⟩
        · refine C.skip ?_
          refine Po.blkN ?_
          refine Po.then ?_
          refine C.reg ?_
          refine J.q rfl rfl rfl (V.mv rfl) ?_
          refine J.q rfl rfl rfl (V.add rfl rfl (by omega)) ?_
          refine J.q rfl rfl rfl (V.as rfl) ?_
          refine J.nil ?_
          exact Po.roundP (j + 1) ⟨by omega, fun m hm q' hq' => by
                rcases Nat.lt_or_ge m j with g | g
                · exact hok2.2 m g q' hq'
                · obtain rfl : m = j := by omega
                  rw [hr] at hq'; cases hq'; exact h72⟩ (Sub.cons rfl <| Sub.cons rfl <| Sub.cons rfl <| Sub.nil) (MSub.pull rfl <| MSub.refl) (by first | omega | (dsimp only; omega))
      · have hok := hok1
        obtain rfl : k = j := by omega
        have hnt := notin_take hok2.2
        refine C.exit ?_
        refine Po.thenX ?_
        refine Po.thenX ?_
        refine Po.blkX ?_
        refine Po.then ?_
        refine C.seq ?_
        refine C.reg ?_
        refine J.q rfl rfl rfl (V.fa rfl fo40_3) ?_
        refine J.q rfl rfl rfl (V.ldS (i := 3) 1 rfl rfl sc38 rfl rfl rfl) ?_
        refine J.q rfl rfl rfl (V.mv rfl) ?_
        refine J.q rfl rfl rfl (V.iaR rfl hR rfl sl38 (by rw [hkR_length]; omega)) ?_
        refine J.q rfl rfl rfl (V.ldR rfl hR (hkR_get hq) ag29) ?_
        refine J.callP rfl tx147 rfl (rZero_pu _ _ _ _) ?_ 
        refine J.nil ?_
        refine Po.then ?_
        refine C.ifd rfl (fun h78 => ?_) (fun h78 => ?_)
        · have hno : ¬ mayP p := by
            rintro ⟨_, _, _, _, m5, _⟩
            exact (m5 _ hk _ hq).1 h78
          rw [decide_eq_false hno]
          refine C.seq ?_
          refine C.reg ?_
          refine J.q rfl rfl rfl (V.as rfl) ?_
          refine J.nil ?_
          refine Po.then ?_
          refine C.ret ?_
          refine Po.blkR ?_
          refine Po.thenR ?_
          refine Po.thenR ?_
          refine Po.blkR ?_
          refine Po.thenR ?_
          exact Po.end1 rfl rfl rfl fun W hI => ⟨rfl, hI.drop⟩
        · refine C.skip ?_
          refine Po.blkN ?_
          refine Po.then ?_
          refine C.reg ?_
          refine J.q rfl rfl rfl (V.mv rfl) ?_
          refine J.q rfl rfl rfl (V.add rfl rfl (by omega)) ?_
          refine J.q rfl rfl rfl (V.as rfl) ?_
          refine J.nil ?_
          exact Po.roundP (k + 1) ⟨by omega, keysTo_succ hok.2 hq h78 hnt⟩ (Sub.cons rfl <| Sub.cons rfl <| Sub.nil) (MSub.pull rfl <| MSub.refl) (by first | omega | (dsimp only; omega))
    · obtain ⟨hk1, hk2⟩ := hok
      obtain rfl : k = p.keys.length := by omega
      have hyes : mayP p := ⟨hpar.1, hpar.2.1, hpar.2.2.1, hpar.2.2.2.1, hk2, hpar.2.2.2.2⟩
      rw [decide_eq_true hyes]
      refine C.exit ?_
      refine Po.thenX ?_
      refine Po.thenX ?_
      refine Po.blkX ?_
      refine Po.then ?_
      refine C.seq ?_
      refine C.reg ?_
      refine J.q rfl rfl rfl (V.as rfl) ?_
      refine J.nil ?_
      refine Po.then ?_
      refine C.ret ?_
      exact Po.end1 rfl rfl rfl fun W hI => ⟨rfl, hI.drop⟩

theorem moneyMay_pu (n : Int) (w0 : World) (ro : Hp) (M : Res) : Pu Tryz.prog 119 #[iv n] w0 ro M (.bool (decide (0 ≤ n) && decide (n ≤ 1125899906842624))) := by
  refine Pu.enter Tryz.func119 rfl rfl ?_
  refine C.seq ?_
  refine C.reg ?_
  refine J.q rfl rfl rfl (V.as rfl) ?_
  refine J.nil ?_
  refine Po.then ?_
  refine C.seq ?_
  refine C.reg ?_
  refine J.q rfl rfl rfl (V.mv rfl) ?_
  refine J.q rfl rfl rfl (V.geq rfl rfl) ?_
  refine J.mvB rfl rfl fun gb5 hgb5 => ?_
  refine J.gv rfl rfl rfl rfl rfl rfl (fun hg => by subst hg; exact V.mv rfl) ?_
  refine J.gv rfl rfl rfl rfl rfl rfl (fun hg => by subst hg; exact V.leq rfl rfl) ?_
  refine J.q rfl rfl rfl (V.and rfl rfl rfl) ?_
  refine J.q rfl rfl rfl (V.as rfl) ?_
  refine J.nil ?_
  refine Po.then ?_
  refine C.ret ?_
  subst hgb5
  exact Po.end1 rfl rfl rfl fun W hI => ⟨rfl, hI⟩
end Go.Proofs
namespace Go.Proofs
open Go Go.Sx Go.Db
set_option maxRecDepth 100000
theorem zr68 : Zr Tryz.prog 68 [(1, .int .i64 0), (1, .int .i64 0), (1, .int .i64 0), (1, .slice none 0 0), (1, .int .i64 0), (1, .int .i64 0), (1, .int .i64 0), (1, .int .i64 0), (1, .int .i64 0), (1, .bool false), (1, .int .i64 0), (8, hv h0), (1, .bool false), (1, .int .i64 0), (1, .int .i64 0), (1, .int .i64 0), (8, hv h0), (8, hv h0), (1, .slice none 0 0), (1, .slice none 0 0), (1, .slice none 0 0)] := by unfold Zr; kernel_rfl
theorem fo68_0 : Fo Tryz.prog 68 0 0 := ⟨_, _, 3, Tryz.underlying68, rfl, rfl, by kernel_rfl⟩
theorem tx104 : Tx Tryz.prog 104 := ⟨Tryz.f104, Tryz.func104, rfl, by kernel_rfl⟩
theorem fo68_10 : Fo Tryz.prog 68 10 20 := ⟨_, _, 20, Tryz.underlying68, rfl, rfl, by kernel_rfl⟩
theorem fo43_5 : Fo Tryz.prog 43 5 19 := ⟨_, _, 0, Tryz.underlying43, rfl, rfl, by kernel_rfl⟩
theorem sc36 : Sc Tryz.prog 36 := ⟨⟨_, Tryz.underlying36, rfl⟩, by kernel_rfl⟩
theorem tx105 : Tx Tryz.prog 105 := ⟨Tryz.f105, Tryz.func105, rfl, by kernel_rfl⟩
theorem sz36 : (Tryz.prog.info? 36).map (·.size) = some 1 := by kernel_rfl
theorem fo43_6 : Fo Tryz.prog 43 6 20 := ⟨_, _, 0, Tryz.underlying43, rfl, rfl, by kernel_rfl⟩
theorem sc41 : Sc Tryz.prog 41 := ⟨⟨_, Tryz.underlying41, rfl⟩, by kernel_rfl⟩
theorem tx106 : Tx Tryz.prog 106 := ⟨Tryz.f106, Tryz.func106, rfl, by kernel_rfl⟩
theorem sz41 : (Tryz.prog.info? 41).map (·.size) = some 1 := by kernel_rfl
theorem fo68_11 : Fo Tryz.prog 68 11 41 := ⟨_, _, 0, Tryz.underlying68, rfl, rfl, by kernel_rfl⟩
theorem tx107 : Tx Tryz.prog 107 := ⟨Tryz.f107, Tryz.func107, rfl, by kernel_rfl⟩
theorem ag68 : Ag Tryz.prog 68 42 := ⟨⟨_, Tryz.underlying68, rfl⟩, by kernel_rfl⟩
theorem sz68 : (Tryz.prog.info? 68).map (·.size) = some 42 := by kernel_rfl
theorem zr139 : Zr Tryz.prog 139 [(1, .slice none 0 0)] := by unfold Zr; kernel_rfl
theorem pl139 : Pls Tryz.prog 139 [(0, 1)] := ⟨_, Tryz.underlying139, by kernel_rfl⟩
theorem fo139_0 : Fo Tryz.prog 139 0 0 := ⟨_, _, 0, Tryz.underlying139, rfl, rfl, by kernel_rfl⟩
theorem sc137 : Sc Tryz.prog 137 := ⟨⟨_, Tryz.underlying137, rfl⟩, by kernel_rfl⟩
theorem tx55 : Tx Tryz.prog 55 := ⟨Tryz.f55, Tryz.func55, rfl, by kernel_rfl⟩
theorem sl137 : Sl Tryz.prog 137 68 42 := ⟨Tryz.underlying137, by kernel_rfl⟩
theorem tx56 : Tx Tryz.prog 56 := ⟨Tryz.f56, Tryz.func56, rfl, by kernel_rfl⟩
theorem pl68 : Pls Tryz.prog 68 [(0, 4), (4, 1), (5, 1), (6, 1), (7, 1), (8, 1), (9, 1), (10, 1), (11, 8), (19, 1), (20, 21), (41, 1)] := ⟨_, Tryz.underlying68, by kernel_rfl⟩
theorem ag40 : Ag Tryz.prog 40 4 := ⟨⟨_, Tryz.underlying40, rfl⟩, by kernel_rfl⟩
theorem tx116 : Tx Tryz.prog 116 := ⟨Tryz.f116, Tryz.func116, rfl, by kernel_rfl⟩
theorem el137 : El Tryz.prog 137 68 42 232 := El.of Tryz.underlying137 (by kernel_rfl) (by decide)
theorem sz137 : (Tryz.prog.info? 137).map (·.size) = some 1 := by kernel_rfl
theorem fo150_0 : Fo Tryz.prog 150 0 0 := ⟨_, _, 0, Tryz.underlying150, rfl, rfl, by kernel_rfl⟩
theorem fo150_3 : Fo Tryz.prog 150 3 10 := ⟨_, _, 0, Tryz.underlying150, rfl, rfl, by kernel_rfl⟩
theorem fo68_6 : Fo Tryz.prog 68 6 9 := ⟨_, _, 0, Tryz.underlying68, rfl, rfl, by kernel_rfl⟩
theorem sc4 : Sc Tryz.prog 4 := ⟨⟨_, Tryz.underlying4, rfl⟩, by kernel_rfl⟩
theorem tx119 : Tx Tryz.prog 119 := ⟨Tryz.f119, Tryz.func119, rfl, by kernel_rfl⟩
theorem fo68_2 : Fo Tryz.prog 68 2 5 := ⟨_, _, 0, Tryz.underlying68, rfl, rfl, by kernel_rfl⟩
theorem fo68_3 : Fo Tryz.prog 68 3 6 := ⟨_, _, 0, Tryz.underlying68, rfl, rfl, by kernel_rfl⟩
theorem sz3 : (Tryz.prog.info? 3).map (·.size) = some 1 := by kernel_rfl

theorem copied_fn (s : SideR) (vk vo vs vu : Value) (w0 : World) (ro : Hp) (M : Res) (hS : SideRS ro s vk vo vs vu) (hm : SideSm s) : Sx.Fn Tryz.prog 56 #[ag (s.lv vk vo vs vu)] w0 ro M (fun u M1 => ∃ ak ck ao co as_ cs au cu, u = ag (s.lv (.slice ak (hkR s.par.keys).length ck) (.slice ao (rws OutD.lv s.cert.outs).length co) (.slice as_ (rws SignedD.lv s.cert.sigs).length cs) (.slice au (intR s.used).length cu)) ∧ M1 = (111, Ow (.slice ak (hkR s.par.keys).length ck) 29 8 (hkR s.par.keys)) :: (112, Ow (.slice ao (rws OutD.lv s.cert.outs).length co) 59 9 (rws OutD.lv s.cert.outs)) :: (113, Ow (.slice as_ (rws SignedD.lv s.cert.sigs).length cs) 192 282 (rws SignedD.lv s.cert.sigs)) :: (114, Ow (.slice au (intR s.used).length cu) 3 1 (intR s.used)) :: M) := by
  obtain ⟨aK, cK, rfl, _⟩ := hS.k.shape
  obtain ⟨aO, cO, rfl, _⟩ := hS.o.shape
  obtain ⟨aS, cS, rfl, _⟩ := hS.g.shape
  obtain ⟨aU, cU, rfl, _⟩ := hS.u.shape
  refine Sx.Fn.enter Tryz.func56 rfl rfl ?_
  refine C.seq ?_
  refine C.reg ?_
  refine J.one rfl (JO.boxS (l := 1) rfl rfl fun b1 => ?_)
  refine J.one rfl (JO.alloc (l := 2) rfl zr68 fun b2 => ?_)
  refine J.nil ?_
  refine Po.then ?_
  refine C.seq ?_
  refine C.reg ?_
  refine J.q rfl rfl rfl (V.fa rfl fo68_0) ?_
  refine J.q rfl rfl rfl (V.fa rfl fo40_3) ?_
  refine J.q rfl rfl rfl (V.ldS (i := 3) 1 rfl rfl sc38 rfl rfl rfl) ?_
  refine J.call rfl tx104 rfl (cloneH_fn 6 _ _ _ _ _ hS.k (by have := hm.k; first | omega | (rw [hkR_length]; omega) | (rw [intR_length]; omega) | (rw [rws_length]; omega)) (by have := hm.k; unfold maxLen; first | omega | (rw [hkR_length]; omega) | (rw [intR_length]; omega) | (rw [rws_length]; omega))) ?_ 
  rintro v6 _ rfl
  refine Kp.ow (l := 6) rfl fun a6 c6 hv6 => ?_
  subst hv6
  refine J.q rfl rfl rfl (V.fa rfl fo68_0) ?_
  refine J.q rfl rfl rfl (V.fa rfl fo40_3) ?_
  refine J.one rfl (JO.st (i := 3) (l := 1) rfl rfl rfl sz38 rfl rfl ?_)
  refine J.nil ?_
  refine Po.then ?_
  refine C.seq ?_
  refine C.reg ?_
  refine J.q rfl rfl rfl (V.fa rfl fo68_10) ?_
  refine J.q rfl rfl rfl (V.fa rfl fo43_5) ?_
  refine J.q rfl rfl rfl (V.ldS (i := 18) 1 rfl rfl sc36 rfl (by kernel_rfl) rfl) ?_
  refine J.call rfl tx105 rfl (cloneO_fn 12 _ _ _ _ _ hS.o (by have := hm.o; first | omega | (rw [hkR_length]; omega) | (rw [intR_length]; omega) | (rw [rws_length]; omega)) (by have := hm.o; unfold maxLen; first | omega | (rw [hkR_length]; omega) | (rw [intR_length]; omega) | (rw [rws_length]; omega))) ?_ 
  rintro v12 _ rfl
  refine Kp.ow (l := 12) rfl fun a12 c12 hv12 => ?_
  subst hv12
  refine J.q rfl rfl rfl (V.fa rfl fo68_10) ?_
  refine J.q rfl rfl rfl (V.fa rfl fo43_5) ?_
  refine J.one rfl (JO.st (i := 18) (l := 1) rfl rfl rfl sz36 rfl (by kernel_rfl) ?_)
  refine J.nil ?_
  refine Po.then ?_
  refine C.seq ?_
  refine C.reg ?_
  refine J.q rfl rfl rfl (V.fa rfl fo68_10) ?_
  refine J.q rfl rfl rfl (V.fa rfl fo43_6) ?_
  refine J.q rfl rfl rfl (V.ldS (i := 19) 1 rfl rfl sc41 rfl (by kernel_rfl) rfl) ?_
  refine J.call rfl tx106 rfl (cloneS_fn 18 _ _ _ _ _ hS.g (by have := hm.g; first | omega | (rw [hkR_length]; omega) | (rw [intR_length]; omega) | (rw [rws_length]; omega)) (by have := hm.g; unfold maxLen; first | omega | (rw [hkR_length]; omega) | (rw [intR_length]; omega) | (rw [rws_length]; omega))) ?_ 
  rintro v18 _ rfl
  refine Kp.ow (l := 18) rfl fun a18 c18 hv18 => ?_
  subst hv18
  refine J.q rfl rfl rfl (V.fa rfl fo68_10) ?_
  refine J.q rfl rfl rfl (V.fa rfl fo43_6) ?_
  refine J.one rfl (JO.st (i := 19) (l := 1) rfl rfl rfl sz41 rfl (by kernel_rfl) ?_)
  refine J.nil ?_
  refine Po.then ?_
  refine C.seq ?_
  refine C.reg ?_
  refine J.q rfl rfl rfl (V.fa rfl fo68_11) ?_
  refine J.q rfl rfl rfl (V.ldS (i := 20) 1 rfl rfl sc66 rfl (by kernel_rfl) rfl) ?_
  refine J.call rfl tx107 rfl (cloneI_fn 23 _ _ _ _ _ hS.u (by have := hm.u; first | omega | (rw [hkR_length]; omega) | (rw [intR_length]; omega) | (rw [rws_length]; omega)) (by have := hm.u; unfold maxLen; first | omega | (rw [hkR_length]; omega) | (rw [intR_length]; omega) | (rw [rws_length]; omega))) ?_ 
  rintro v23 _ rfl
  refine Kp.ow (l := 23) rfl fun a23 c23 hv23 => ?_
  subst hv23
  refine J.q rfl rfl rfl (V.fa rfl fo68_11) ?_
  refine J.one rfl (JO.st (i := 20) (l := 1) rfl rfl rfl sz66 rfl (by kernel_rfl) ?_)
  refine J.nil ?_
  refine Po.then ?_
  refine C.seq ?_
  refine C.reg ?_
  refine J.q rfl rfl rfl (V.ldW 1 rfl rfl ag68 (by kernel_rfl)) ?_
  refine J.one rfl (JO.stS (l := 2) rfl rfl rfl sz68 (by kernel_rfl) (by kernel_rfl) ?_)
  refine J.nil ?_
  refine Po.then ?_
  refine C.ret ?_
  exact Po.end1 rfl rfl (RV.cS (l := 2) rfl rfl ag68 (by kernel_rfl)) fun W hI => ⟨_, _, rfl, ⟨_, _, _, _, _, _, _, _, rfl, rfl⟩, (hI.sub (MSub.pullL (l := 6) rfl <| MSub.pullL (l := 12) rfl <| MSub.pullL (l := 18) rfl <| MSub.pullL (l := 23) rfl <| MSub.drop <| MSub.drop <| MSub.refl))⟩

theorem regNew_fn (w0 : World) (ro : Hp) (M : Res) : Sx.Fn Tryz.prog 62 #[] w0 ro M (fun u M1 => ∃ b, u = .pointer (some ⟨b, 0, none⟩) ∧ M1 = (110, Rg 139 68 b []) :: M) := by
  refine Sx.Fn.enter Tryz.func62 rfl rfl ?_
  refine C.seq ?_
  refine C.reg ?_
  refine J.q rfl rfl rfl (V.as rfl) ?_
  refine J.nil ?_
  refine Po.then ?_
  refine C.seq ?_
  refine C.nilO 102 68 42 ?_
  refine C.reg ?_
  refine J.q rfl rfl rfl (V.bld rfl zr139 pl139 (Put.nil)) ?_
  refine J.one rfl (JO.boxS (l := 2) rfl rfl fun b2 => ?_)
  refine J.q rfl rfl rfl (V.as rfl) ?_
  refine J.nil ?_
  refine Po.then ?_
  refine C.ret ?_
  exact Po.end1 rfl rfl rfl fun W hI => ⟨_, _, rfl, ⟨_, rfl, rfl⟩, (hI.sub (MSub.fold Rg.mk <| MSub.pullL (l := 2) rfl <| MSub.pull rfl <| MSub.refl))⟩

theorem regIn_pu (b : Nat) (vl : Value) (l : List RecV) (i : Int) (w0 : World) (ro : Hp) (M : Res) (hB : Bx ro b [(1, vl)] 139) (hL : RS ro vl 42 (recsR l)) : Pu Tryz.prog 55 #[.pointer (some ⟨b, 0, none⟩), iv i] w0 ro M (.bool (decide (0 ≤ i) && decide (i < l.length))) := by
  obtain ⟨aL, cL, rfl, _⟩ := hL.shape
  refine Pu.enter Tryz.func55 rfl rfl ?_
  refine C.seq ?_
  refine C.reg ?_
  refine J.q rfl rfl rfl (V.as rfl) ?_
  refine J.nil ?_
  refine Po.then ?_
  refine C.seq ?_
  refine C.reg ?_
  refine J.q rfl rfl rfl (V.mv rfl) ?_
  refine J.q rfl rfl rfl (V.ptrNe rfl Tryz.underlying50) ?_
  refine J.mvB rfl rfl fun gb7 hgb7 => ?_
  refine J.gv rfl rfl rfl rfl rfl rfl (fun hg => by subst hg; exact V.mv rfl) ?_
  refine J.gv rfl rfl rfl rfl rfl rfl (fun hg => by subst hg; exact V.geq rfl rfl) ?_
  refine J.q rfl rfl rfl (V.and rfl rfl rfl) ?_
  refine J.mvB rfl rfl fun gb11 hgb11 => ?_
  refine J.gv rfl rfl rfl rfl rfl rfl (fun hg => by subst hg; exact V.mv rfl) ?_
  refine J.gv rfl rfl rfl rfl rfl rfl (fun hg => by subst hg; exact V.mv rfl) ?_
  refine J.gv rfl rfl rfl rfl rfl rfl (fun hg => by subst hg; exact V.nc rfl) ?_
  refine J.gv rfl rfl rfl rfl rfl rfl (fun hg => by subst hg; exact V.fa rfl fo139_0) ?_
  refine J.gv rfl rfl rfl rfl rfl rfl (fun hg => by subst hg; exact V.rldS (i := 0) hB rfl sc137 rfl rfl rfl) ?_
  refine J.gv rfl rfl rfl rfl rfl rfl (fun hg => by subst hg; exact V.to (V.lenR rfl hL Tryz.underlying137) (by rw [recsR_length])) ?_
  refine J.gv rfl rfl rfl rfl rfl rfl (fun hg => by subst hg; exact V.lss rfl rfl) ?_
  refine J.q rfl rfl rfl (V.and rfl rfl rfl) ?_
  refine J.q rfl rfl rfl (V.as rfl) ?_
  refine J.nil ?_
  refine Po.then ?_
  refine C.ret ?_
  subst hgb7 hgb11
  exact Po.end1 rfl rfl rfl fun W hI => ⟨rfl, hI⟩

theorem regIn (b : Nat) (l : List RecV) (i : Int) (w0 : World) (ro : Hp) {M R : Res} (hp : Sx.pull M 110 = some (Rg 139 68 b l, R)) : Pu Tryz.prog 55 #[.pointer (some ⟨b, 0, none⟩), iv i] w0 ro M (.bool (decide (0 ≤ i) && decide (i < l.length))) :=
  Pu.lend hp fun k hA _ hr => by
    obtain ⟨vl, hB, hL⟩ := hA.ro hr
    exact regIn_pu b vl l i _ _ _ hB hL

theorem Side_fg (b : Nat) (l : List RecV) (i : Nat) (r : RecV) (w0 : World) (ro : Hp) (M : Res) (hr : l[i]? = some r) (hG : RegI ro l) : Fg Tryz.prog 22 #[.pointer (some ⟨b, 0, none⟩), iv i] w0 ro ((110, Rg 139 68 b l) :: M) (fun u ro1 M1 => ∃ r1 : RecV, u = .tuple #[ag r1.lv, .bool true] ∧ r1.s = r.s ∧ RecI ro1 r1 ∧ M1 = (110, Rg 139 68 b l) :: M) := by
  have hi := (List.getElem?_eq_some_iff.1 hr).1
  refine Fg.enter Tryz.func22 rfl rfl ?_
  have hle : Hp.le ro ro := Hp.le_refl _
  refine C.seq ?_
  refine C.reg ?_
  refine J.one rfl (JO.alloc (l := 4) rfl zr68 fun b4 => ?_)
  refine J.q rfl rfl rfl (V.as rfl) ?_
  refine J.nil ?_
  refine Po.then ?_
  refine C.seq ?_
  refine C.seq ?_
  refine C.reg ?_
  refine J.q rfl rfl rfl (V.mv rfl) ?_
  refine J.q rfl rfl rfl (V.mv rfl) ?_
  refine J.callP rfl tx55 rfl (regIn _ _ _ _ _ rfl) ?_ 
  refine J.q rfl rfl rfl (V.no rfl) ?_
  refine J.nil ?_
  refine Po.then ?_
  refine C.ite rfl (fun h9 => ?_) (fun h9 => ?_)
  · exfalso; simp at h9; omega
  · refine C.skip ?_
    refine Po.then ?_
    refine C.seq ?_
    refine C.opnRg (l := 110) rfl fun aL cL => ?_
    refine C.reg ?_
    refine J.q rfl rfl rfl (V.mv rfl) ?_
    refine J.q rfl rfl rfl (V.nc rfl) ?_
    refine J.q rfl rfl rfl (V.fa rfl fo139_0) ?_
    refine J.q rfl rfl rfl (V.ldS (i := 0) 101 rfl rfl sc137 rfl rfl rfl) ?_
    refine J.q rfl rfl rfl (V.mv rfl) ?_
    refine J.q rfl rfl rfl (V.ofO (l := 102) rfl fun _ hRS => V.iaR rfl hRS rfl sl137 (by rw [recsR_length]; omega)) ?_
    refine J.q rfl rfl rfl (V.ofO (l := 102) rfl fun _ hRS => V.ldR rfl hRS (recsR_get hr) ag68) ?_
    refine J.call rfl tx56 rfl (copied_fn _ _ _ _ _ _ _ _ (hG.at hr).rs (hG.at hr).sm) ?_ 
    rintro _ _ ⟨ak, ck, ao, co, as_, cs, au, cu, rfl, rfl⟩
    refine J.one rfl (JO.stS (l := 4) rfl rfl rfl sz68 (by kernel_rfl) (by kernel_rfl) ?_)
    refine J.q rfl rfl rfl (V.as rfl) ?_
    refine Kp.freezeG (l := 111) rfl (fun _ _ hA hr => hA.rs hr) fun ro hl hk1 => ?_
    replace hG := hG.mono hl
    replace hle := Hp.le_trans hle hl
    refine Kp.freezeG (l := 112) rfl (fun _ _ hA hr => hA.rs hr) fun ro hl ho1 => ?_
    replace hG := hG.mono hl
    replace hle := Hp.le_trans hle hl
    replace hk1 := hk1.mono hl
    refine Kp.freezeG (l := 113) rfl (fun _ _ hA hr => hA.rs hr) fun ro hl hs1 => ?_
    replace hG := hG.mono hl
    replace hle := Hp.le_trans hle hl
    replace hk1 := hk1.mono hl
    replace ho1 := ho1.mono hl
    refine Kp.freezeG (l := 114) rfl (fun _ _ hA hr => hA.rs hr) fun ro hl hu1 => ?_
    replace hG := hG.mono hl
    replace hle := Hp.le_trans hle hl
    replace hk1 := hk1.mono hl
    replace ho1 := ho1.mono hl
    replace hs1 := hs1.mono hl
    refine J.nil ?_
    refine Po.then ?_
    refine C.ret ?_
    exact Po.end2 rfl rfl (RV.cS (l := 4) rfl rfl ag68 (by kernel_rfl)) rfl fun W hI => ⟨_, _, _, rfl, hle, ⟨RecV.mk r.s (.slice ak _ ck) (.slice ao _ co) (.slice as_ _ cs) (.slice au _ cu), rfl, rfl, ⟨⟨hk1, ho1, hs1, hu1⟩, (hG.at hr).sm⟩, rfl⟩, (hI.sub (MSub.fold Rg.mk <| MSub.pull rfl <| MSub.pull rfl <| MSub.drop <| MSub.refl))⟩

theorem SideU_fg (b : Nat) (l : List RecV) (i : Nat) (r : RecV) (w0 : World) (ro : Hp) (M : Res) (hr : l[i]? = some r) (hG : RegI ro l) : Fg Tryz.prog 22 #[.pointer (some ⟨b, 0, none⟩), iv i] w0 ro ((110, Rg 139 68 b l) :: M) (fun u ro1 M1 => ∃ wk wo ws wu, u = .tuple #[ag (r.s.lv wk wo ws wu), .bool true] ∧ RS ro1 wk 8 (hkR r.s.par.keys) ∧ RS ro1 wo 9 (rws OutD.lv r.s.cert.outs) ∧ RS ro1 ws 282 (rws SignedD.lv r.s.cert.sigs) ∧ M1 = (114, Ow wu 3 1 (intR r.s.used)) :: (110, Rg 139 68 b l) :: M) := by
  have hi := (List.getElem?_eq_some_iff.1 hr).1
  refine Fg.enter Tryz.func22 rfl rfl ?_
  have hle : Hp.le ro ro := Hp.le_refl _
  refine C.seq ?_
  refine C.reg ?_
  refine J.one rfl (JO.alloc (l := 4) rfl zr68 fun b4 => ?_)
  refine J.q rfl rfl rfl (V.as rfl) ?_
  refine J.nil ?_
  refine Po.then ?_
  refine C.seq ?_
  refine C.seq ?_
  refine C.reg ?_
  refine J.q rfl rfl rfl (V.mv rfl) ?_
  refine J.q rfl rfl rfl (V.mv rfl) ?_
  refine J.callP rfl tx55 rfl (regIn _ _ _ _ _ rfl) ?_ 
  refine J.q rfl rfl rfl (V.no rfl) ?_
  refine J.nil ?_
  refine Po.then ?_
  refine C.ite rfl (fun h9 => ?_) (fun h9 => ?_)
  · exfalso; simp at h9; omega
  · refine C.skip ?_
    refine Po.then ?_
    refine C.seq ?_
    refine C.opnRg (l := 110) rfl fun aL cL => ?_
    refine C.reg ?_
    refine J.q rfl rfl rfl (V.mv rfl) ?_
    refine J.q rfl rfl rfl (V.nc rfl) ?_
    refine J.q rfl rfl rfl (V.fa rfl fo139_0) ?_
    refine J.q rfl rfl rfl (V.ldS (i := 0) 101 rfl rfl sc137 rfl rfl rfl) ?_
    refine J.q rfl rfl rfl (V.mv rfl) ?_
    refine J.q rfl rfl rfl (V.ofO (l := 102) rfl fun _ hRS => V.iaR rfl hRS rfl sl137 (by rw [recsR_length]; omega)) ?_
    refine J.q rfl rfl rfl (V.ofO (l := 102) rfl fun _ hRS => V.ldR rfl hRS (recsR_get hr) ag68) ?_
    refine J.call rfl tx56 rfl (copied_fn _ _ _ _ _ _ _ _ (hG.at hr).rs (hG.at hr).sm) ?_ 
    rintro _ _ ⟨ak, ck, ao, co, as_, cs, au, cu, rfl, rfl⟩
    refine J.one rfl (JO.stS (l := 4) rfl rfl rfl sz68 (by kernel_rfl) (by kernel_rfl) ?_)
    refine J.q rfl rfl rfl (V.as rfl) ?_
    refine Kp.freezeG (l := 111) rfl (fun _ _ hA hr => hA.rs hr) fun ro hl hk1 => ?_
    replace hG := hG.mono hl
    replace hle := Hp.le_trans hle hl
    refine Kp.freezeG (l := 112) rfl (fun _ _ hA hr => hA.rs hr) fun ro hl ho1 => ?_
    replace hG := hG.mono hl
    replace hle := Hp.le_trans hle hl
    replace hk1 := hk1.mono hl
    refine Kp.freezeG (l := 113) rfl (fun _ _ hA hr => hA.rs hr) fun ro hl hs1 => ?_
    replace hG := hG.mono hl
    replace hle := Hp.le_trans hle hl
    replace hk1 := hk1.mono hl
    replace ho1 := ho1.mono hl
    refine J.nil ?_
    refine Po.then ?_
    refine C.ret ?_
    exact Po.end2 rfl rfl (RV.cS (l := 4) rfl rfl ag68 (by kernel_rfl)) rfl fun W hI => ⟨_, _, _, rfl, hle, ⟨_, _, _, _, rfl, hk1, ho1, hs1, rfl⟩, (hI.sub (MSub.pull rfl <| MSub.fold Rg.mk <| MSub.pull rfl <| MSub.pull rfl <| MSub.drop <| MSub.refl))⟩

theorem Side_none (b : Nat) (l : List RecV) (i : Int) (hi : ¬ (0 ≤ i ∧ i < l.length)) (w0 : World) (ro : Hp) (M : Res) : Sx.Fn Tryz.prog 22 #[.pointer (some ⟨b, 0, none⟩), iv i] w0 ro ((110, Rg 139 68 b l) :: M) (fun u M1 => u = .tuple #[ag [(1, .int .i64 0), (1, .int .i64 0), (1, .int .i64 0), (1, .slice none 0 0), (1, .int .i64 0), (1, .int .i64 0), (1, .int .i64 0), (1, .int .i64 0), (1, .int .i64 0), (1, .bool false), (1, .int .i64 0), (8, hv h0), (1, .bool false), (1, .int .i64 0), (1, .int .i64 0), (1, .int .i64 0), (8, hv h0), (8, hv h0), (1, .slice none 0 0), (1, .slice none 0 0), (1, .slice none 0 0)], .bool false] ∧ M1 = (110, Rg 139 68 b l) :: M) := by
  refine Sx.Fn.enter Tryz.func22 rfl rfl ?_
  refine C.seq ?_
  refine C.reg ?_
  refine J.one rfl (JO.alloc (l := 4) rfl zr68 fun b4 => ?_)
  refine J.q rfl rfl rfl (V.as rfl) ?_
  refine J.nil ?_
  refine Po.then ?_
  refine C.seq ?_
  refine C.seq ?_
  refine C.reg ?_
  refine J.q rfl rfl rfl (V.mv rfl) ?_
  refine J.q rfl rfl rfl (V.mv rfl) ?_
  refine J.callP rfl tx55 rfl (regIn _ _ _ _ _ rfl) ?_ 
  refine J.q rfl rfl rfl (V.no rfl) ?_
  refine J.nil ?_
  refine Po.then ?_
  refine C.ite rfl (fun h9 => ?_) (fun h9 => ?_)
  · refine C.seq ?_
    refine C.reg ?_
    refine J.q rfl rfl rfl (V.bld rfl zr68 pl68 (Put.nil)) ?_
    refine J.one rfl (JO.stS (l := 4) rfl rfl rfl sz68 (by kernel_rfl) (by kernel_rfl) ?_)
    refine J.q rfl rfl rfl (V.as rfl) ?_
    refine J.nil ?_
    refine Po.then ?_
    refine C.ret ?_
    refine Po.thenR ?_
    exact Po.end2 rfl rfl (RV.cS (l := 4) rfl rfl ag68 (by kernel_rfl)) rfl fun W hI => ⟨_, _, rfl, ⟨rfl, rfl⟩, (hI.sub (MSub.pull rfl <| MSub.drop <| MSub.refl))⟩
  · exfalso; simp at h9; omega

theorem Set_fg (b : Nat) (l : List RecV) (i : Nat) (x : RecV) (w0 : World) (ro : Hp) (M : Res) (hi : i < l.length) (hG : RegI ro l) (hX : RecI ro x) : Fg Tryz.prog 49 #[.pointer (some ⟨b, 0, none⟩), iv i, ag x.lv] w0 ro ((110, Rg 139 68 b l) :: M) (fun u ro1 M1 => ∃ r1 : RecV, u = .bool true ∧ r1.s = x.s ∧ RegI ro1 (l.set i r1) ∧ M1 = (110, Rg 139 68 b (l.set i r1)) :: M) := by
  obtain ⟨xs, xk, xo, xg, xu⟩ := x
  obtain ⟨axk, cxk, rfl, _⟩ := (show RS ro xk 8 (hkR xs.par.keys) from hX.rs.k).shape
  obtain ⟨axo, cxo, rfl, _⟩ := (show RS ro xo 9 (rws OutD.lv xs.cert.outs) from hX.rs.o).shape
  obtain ⟨axg, cxg, rfl, _⟩ := (show RS ro xg 282 (rws SignedD.lv xs.cert.sigs) from hX.rs.g).shape
  obtain ⟨axu, cxu, rfl, _⟩ := (show RS ro xu 1 (intR xs.used) from hX.rs.u).shape
  refine Fg.enter Tryz.func49 rfl rfl ?_
  have hle : Hp.le ro ro := Hp.le_refl _
  refine C.seq ?_
  refine C.reg ?_
  refine J.one rfl (JO.boxS (l := 5) rfl rfl fun b5 => ?_)
  refine J.q rfl rfl rfl (V.as rfl) ?_
  refine J.nil ?_
  refine Po.then ?_
  refine C.seq ?_
  refine C.seq ?_
  refine C.reg ?_
  refine J.q rfl rfl rfl (V.mv rfl) ?_
  refine J.q rfl rfl rfl (V.mv rfl) ?_
  refine J.callP rfl tx55 rfl (regIn _ _ _ _ _ rfl) ?_ 
  refine J.q rfl rfl rfl (V.no rfl) ?_
  refine J.nil ?_
  refine Po.then ?_
  refine C.ite rfl (fun h10 => ?_) (fun h10 => ?_)
  · exfalso; simp at h10; omega
  · refine C.skip ?_
    refine Po.then ?_
    refine C.seq ?_
    refine C.opnRg (l := 110) rfl fun aL cL => ?_
    refine C.drawM [6, 8] [0, 1, 2, 3, 4, 5, 7] mixed (by kernel_rfl) (by kernel_rfl) ?_
    refine DE.q rfl rfl rfl rfl (V.mv rfl) ?_
    refine DE.q rfl rfl rfl rfl (V.nc rfl) ?_
    refine DE.q rfl rfl rfl rfl (V.fa rfl fo139_0) ?_
    refine DE.q rfl rfl rfl rfl (V.ldS (i := 0) 101 rfl rfl sc137 rfl rfl rfl) ?_
    refine DE.q rfl rfl rfl rfl (V.mv rfl) ?_
    refine DE.q rfl rfl rfl rfl (V.ldW 5 rfl rfl ag68 (by kernel_rfl)) ?_
    refine DE.q rfl rfl rfl rfl (V.ofO (l := 102) rfl fun _ hRS => V.iaR rfl hRS rfl sl137 (by rw [recsR_length]; omega)) ?_
    refine DE.nil ?_
    refine DT.o (by kernel_rfl) (MSub.refl) rfl rfl fun Kc hKc => ?_
    refine JO.call rfl tx56 rfl (copied_fn _ _ _ _ _ _ _ _ hX.rs hX.sm) ?_
    rintro _ _ ⟨ak, ck, ao, co, as_, cs, au, cu, rfl, rfl⟩
    refine hKc _ _ _ (Hp.le_refl _) ?_
    clear hKc Kc
    refine DT.o (by kernel_rfl) (MSub.drop <| MSub.drop <| MSub.drop <| MSub.drop <| MSub.refl) rfl rfl fun Kc hKc => ?_
    refine JO.stO (l := 102) rfl rfl rfl sz68 (by rw [recsR_length]; omega) (hKc _ _ _ (Hp.le_refl _) ?_)
    clear hKc Kc
    refine DT.nil' (by kernel_rfl) ?_
    refine Po.then ?_
    refine C.seq ?_
    refine C.freezeG (l := 111) rfl (fun _ _ hA hr => hA.rs hr) fun ro hl hk1 => ?_
    replace hG := hG.mono hl
    replace hX := hX.mono hl
    replace hle := Hp.le_trans hle hl
    refine C.freezeG (l := 112) rfl (fun _ _ hA hr => hA.rs hr) fun ro hl ho1 => ?_
    replace hG := hG.mono hl
    replace hX := hX.mono hl
    replace hk1 := hk1.mono hl
    replace hle := Hp.le_trans hle hl
    refine C.freezeG (l := 113) rfl (fun _ _ hA hr => hA.rs hr) fun ro hl hs1 => ?_
    replace hG := hG.mono hl
    replace hX := hX.mono hl
    replace hk1 := hk1.mono hl
    replace ho1 := ho1.mono hl
    replace hle := Hp.le_trans hle hl
    refine C.freezeG (l := 114) rfl (fun _ _ hA hr => hA.rs hr) fun ro hl hu1 => ?_
    replace hG := hG.mono hl
    replace hX := hX.mono hl
    replace hk1 := hk1.mono hl
    replace ho1 := ho1.mono hl
    replace hs1 := hs1.mono hl
    replace hle := Hp.le_trans hle hl
    refine C.reg ?_
    refine J.q rfl rfl rfl (V.as rfl) ?_
    refine J.nil ?_
    refine Po.then ?_
    refine C.ret ?_
    exact Po.end1 rfl rfl rfl fun W hI => ⟨_, _, _, rfl, hle, ⟨RecV.mk xs (.slice ak _ ck) (.slice ao _ co) (.slice as_ _ cs) (.slice au _ cu), rfl, rfl, hG.set ⟨⟨hk1, ho1, hs1, hu1⟩, hX.sm⟩, rfl⟩, (hI.sub (MSub.fold Rg.mk <| MSub.pull rfl <| MSub.pullE rfl (by rw [Int.toNat_natCast]; exact congrArg _ (rws_set (f := RecV.lv) (x := RecV.mk xs (.slice ak _ ck) (.slice ao _ co) (.slice as_ _ cs) (.slice au _ cu)))) <| MSub.drop <| MSub.refl))⟩

theorem Create_fg (b : Nat) (l : List RecV) (p : Par) (vk : Value) (h : Int) (w0 : World) (ro : Hp) (M : Res) (hK : RS ro vk 8 (hkR p.keys)) (hk : p.keys.length ≤ 1000) (hG : RegI ro l) : Fg Tryz.prog 63 #[.pointer (some ⟨b, 0, none⟩), ag (p.lv vk), iv h] w0 ro ((110, Rg 139 68 b l) :: M) (fun u ro1 M1 => ∃ l1, u = .tuple #[iv (if crE (l.map (·.s)) p = 0 then l.length else 0), iv (crE (l.map (·.s)) p)] ∧ l1.map (·.s) = crS (l.map (·.s)) p h ∧ RegI ro1 l1 ∧ M1 = (110, Rg 139 68 b l1) :: M) := by
  obtain ⟨aK, cK, rfl, _⟩ := hK.shape
  refine Fg.enter Tryz.func63 rfl rfl ?_
  have hle : Hp.le ro ro := Hp.le_refl _
  refine C.seq ?_
  refine C.reg ?_
  refine J.one rfl (JO.boxS (l := 4) rfl rfl fun b4 => ?_)
  refine J.q rfl rfl rfl (V.as rfl) ?_
  refine J.q rfl rfl rfl (V.as rfl) ?_
  refine J.nil ?_
  refine Po.then ?_
  refine C.seq ?_
  refine C.block ?_
  refine C.seq ?_
  refine C.reg ?_
  refine J.q rfl rfl rfl (V.mv rfl) ?_
  refine J.q rfl rfl rfl (V.ptrEq rfl Tryz.underlying50) ?_
  refine J.q rfl rfl rfl (V.as rfl) ?_
  refine J.nil ?_
  refine Po.then ?_
  refine C.no rfl ?_
  refine C.seq ?_
  refine C.reg ?_
  refine J.q rfl rfl rfl (V.ldW 4 rfl rfl ag40 rfl) ?_
  refine J.callP rfl tx116 rfl (quorumMay_pu _ _ _ _ _ (by assumption) (by omega)) ?_ 
  refine J.q rfl rfl rfl (V.no rfl) ?_
  refine J.q rfl rfl rfl (V.as rfl) ?_
  refine J.nil ?_
  refine Po.then ?_
  refine C.ite rfl (fun h11 => ?_) (fun h11 => ?_)
  · have h11 : ¬ mayP p := by simpa using h11
    have he : crE (l.map (·.s)) p = 4 := if_pos h11
    refine C.seq ?_
    refine C.reg ?_
    refine J.q rfl rfl rfl (V.as rfl) ?_
    refine J.q rfl rfl rfl (V.as rfl) ?_
    refine J.nil ?_
    refine Po.then ?_
    refine C.ret ?_
    refine Po.blkR ?_
    refine Po.thenR ?_
    exact Po.end2 rfl rfl rfl rfl fun W hI => ⟨_, _, _, rfl, hle, ⟨l, by simp [he, iv], by simp [crS, he, crR], hG, rfl⟩, (hI.sub (MSub.pull rfl <| MSub.drop <| MSub.refl))⟩
  · have h11 : mayP p := by simpa using h11
    refine C.seq ?_
    refine C.opnRg (l := 110) rfl fun aL cL => ?_
    refine C.reg ?_
    refine J.q rfl rfl rfl (V.mv rfl) ?_
    refine J.q rfl rfl rfl (V.nc rfl) ?_
    refine J.q rfl rfl rfl (V.fa rfl fo139_0) ?_
    refine J.q rfl rfl rfl (V.ldS (i := 0) 101 rfl rfl sc137 rfl rfl rfl) ?_
    refine J.q rfl rfl rfl (V.to (V.lenO (l := 102) rfl rfl Tryz.underlying137) (by rw [recsR_length])) ?_
    refine J.q rfl rfl rfl (V.geq rfl rfl) ?_
    refine J.q rfl rfl rfl (V.as rfl) ?_
    refine J.nil ?_
    refine Po.then ?_
    refine C.ifd rfl (fun h15 => ?_) (fun h15 => ?_)
    · have he : crE (l.map (·.s)) p = 18 := by unfold crE; rw [if_neg (by simpa using h11), if_pos (by simp; omega)]
      refine C.seq ?_
      refine C.reg ?_
      refine J.q rfl rfl rfl (V.as rfl) ?_
      refine J.q rfl rfl rfl (V.as rfl) ?_
      refine J.nil ?_
      refine Po.then ?_
      refine C.ret ?_
      refine Po.blkR ?_
      refine Po.thenR ?_
      exact Po.end2 rfl rfl rfl rfl fun W hI => ⟨_, _, _, rfl, hle, ⟨l, by simp [he, iv], by simp [crS, he, crR], hG, rfl⟩, (hI.sub (MSub.fold Rg.mk <| MSub.pull rfl <| MSub.pull rfl <| MSub.drop <| MSub.refl))⟩
    · have he : crE (l.map (·.s)) p = 0 := by unfold crE; rw [if_neg (by simpa using h11), if_neg (by simp; omega)]
      refine C.skip ?_
      refine Po.blkN ?_
      refine Po.then ?_
      refine C.seq ?_
      refine C.draw [8, 9, 10, 13] [0, 1, 2, 3, 4, 5, 6, 7, 11, 12] [(101, St b [(1, .slice aL l.length cL)] 139), (4, St b4 (p.lv (.slice aK (hkR p.keys).length cK)) 40)] mixed (by kernel_rfl) (by kernel_rfl) ?_
      refine DE.q rfl rfl rfl rfl (V.mv rfl) ?_
      refine DE.q rfl rfl rfl rfl (V.mv rfl) ?_
      refine DE.q rfl rfl rfl rfl (V.nc rfl) ?_
      refine DE.q rfl rfl rfl rfl (V.fa rfl fo139_0) ?_
      refine DE.q rfl rfl rfl rfl (V.ldS (i := 0) 101 rfl rfl sc137 rfl rfl rfl) ?_
      refine DE.q rfl rfl rfl rfl (V.ldW 4 rfl rfl ag40 rfl) ?_
      refine DE.q rfl rfl rfl rfl (V.mv rfl) ?_
      refine DE.q rfl rfl rfl rfl (V.bld rfl zr68 pl68 (Put.ags (i := 0) (k := 4) rfl rfl rfl rfl <| Put.one (i := 4) rfl rfl rfl <| Put.nil)) ?_
      refine DE.q rfl rfl rfl rfl (V.nc rfl) ?_
      refine DE.q rfl rfl rfl rfl (V.fa rfl fo139_0) ?_
      refine DE.nil ?_
      refine DT.o (by kernel_rfl) (MSub.pull rfl <| MSub.pull rfl <| MSub.nil) rfl rfl fun Kc hKc => ?_
      refine JO.call rfl tx56 rfl (copied_fn (crR p h) _ _ _ _ _ _ _ ⟨hK, RS.none_, RS.none_, RS.none_⟩ (crR_sm hk)) ?_
      rintro _ _ ⟨ak, ck, ao, co, as_, cs, au, cu, rfl, rfl⟩
      refine hKc _ _ _ (Hp.le_refl _) ?_
      clear hKc Kc
      refine DT.o (by kernel_rfl) (MSub.pull rfl <| MSub.pull rfl <| MSub.nil) rfl rfl fun Kc hKc => ?_
      refine JO.bslS (l := 31) rfl el137 rfl rfl rfl Cs.all (by decide) fun a31 c31 => (hKc _ _ _ (Hp.le_refl _) ?_)
      clear hKc Kc
      refine DT.o (by kernel_rfl) (MSub.pull rfl <| MSub.pull rfl <| MSub.nil) rfl rfl fun Kc hKc => ?_
      refine JO.appOS (l := 102) (l2 := 31) rfl rfl rfl el137 rfl rfl (by rw [recsR_length]; simp; omega) (by rw [recsR_length]; simp [maxLen]; omega) fun a32 c32 => (hKc _ _ _ (Hp.le_refl _) ?_)
      clear hKc Kc
      refine DT.o (by kernel_rfl) (MSub.pull rfl <| MSub.pull rfl <| MSub.nil) rfl rfl fun Kc hKc => ?_
      refine JO.st (i := 0) (l := 101) rfl rfl rfl sz137 rfl rfl (hKc _ _ _ (Hp.le_refl _) ?_)
      clear hKc Kc
      refine DT.nil' (by kernel_rfl) ?_
      refine Po.then ?_
      refine C.seq ?_
      refine C.freezeG (l := 111) rfl (fun _ _ hA hr => hA.rs hr) fun ro hl hk1 => ?_
      replace hG := hG.mono hl
      replace hK := hK.mono hl
      replace hle := Hp.le_trans hle hl
      refine C.freezeG (l := 112) rfl (fun _ _ hA hr => hA.rs hr) fun ro hl ho1 => ?_
      replace hG := hG.mono hl
      replace hK := hK.mono hl
      replace hk1 := hk1.mono hl
      replace hle := Hp.le_trans hle hl
      refine C.freezeG (l := 113) rfl (fun _ _ hA hr => hA.rs hr) fun ro hl hs1 => ?_
      replace hG := hG.mono hl
      replace hK := hK.mono hl
      replace hk1 := hk1.mono hl
      replace ho1 := ho1.mono hl
      replace hle := Hp.le_trans hle hl
      refine C.freezeG (l := 114) rfl (fun _ _ hA hr => hA.rs hr) fun ro hl hu1 => ?_
      replace hG := hG.mono hl
      replace hK := hK.mono hl
      replace hk1 := hk1.mono hl
      replace ho1 := ho1.mono hl
      replace hs1 := hs1.mono hl
      replace hle := Hp.le_trans hle hl
      refine C.reg ?_
      refine J.q rfl rfl rfl (V.mv rfl) ?_
      refine J.q rfl rfl rfl (V.nc rfl) ?_
      refine J.q rfl rfl rfl (V.fa rfl fo139_0) ?_
      refine J.q rfl rfl rfl (V.ldS (i := 0) 101 rfl rfl sc137 rfl rfl rfl) ?_
      refine J.q rfl rfl rfl (V.to (V.lenO (l := 102) rfl rfl Tryz.underlying137) (show _ = Value.int .i64 ((l.length : Int) + 1) by simp [recsR_length])) ?_
      refine J.q rfl rfl rfl (V.sub' rfl rfl (by omega)) ?_
      refine J.q rfl rfl rfl (V.as rfl) ?_
      refine J.q rfl rfl rfl (V.as rfl) ?_
      refine J.nil ?_
      refine Po.then ?_
      refine C.ret ?_
      exact Po.end2 rfl rfl rfl rfl fun W hI => ⟨_, _, _, rfl, hle, ⟨l ++ [RecV.mk (crR p h) (.slice ak _ ck) (.slice ao _ co) (.slice as_ _ cs) (.slice au _ cu)], by simp [he, iv], by simp [crS, he, crR], hG.snoc ⟨⟨hk1, ho1, hs1, hu1⟩, (crR_sm hk)⟩, rfl⟩, (hI.sub (MSub.fold Rg.mk <| MSub.pull rfl <| MSub.pullE rfl (by exact congrArg _ (rws_app RecV.lv l [RecV.mk (crR p h) (.slice ak _ ck) (.slice ao _ co) (.slice as_ _ cs) (.slice au _ cu)])) <| MSub.drop <| MSub.drop <| MSub.refl))⟩

theorem Forward_fn (b : Nat) (l : List RecV) (f : FwdD) (w0 : World) (ro : Hp) (M : Res) (hG : RegI ro l) : Sx.Fn Tryz.prog 66 #[.pointer (some ⟨b, 0, none⟩), ag f.lv] w0 ro ((110, Rg 139 68 b l) :: M) (fun u M1 => ∃ l1, u = iv (fwdE (l.map (·.s)) f) ∧ l1.map (·.s) = fwdS (l.map (·.s)) f ∧ RegI ro l1 ∧ M1 = (110, Rg 139 68 b l1) :: M) := by
  refine Sx.Fn.enter Tryz.func66 rfl rfl ?_
  refine C.seq ?_
  refine C.reg ?_
  refine J.one rfl (JO.boxS (l := 3) rfl rfl fun b3 => ?_)
  refine J.q rfl rfl rfl (V.as rfl) ?_
  refine J.nil ?_
  refine Po.then ?_
  refine C.seq ?_
  refine C.block ?_
  refine C.seq ?_
  refine C.reg ?_
  refine J.q rfl rfl rfl (V.mv rfl) ?_
  refine J.q rfl rfl rfl (V.ptrEq rfl Tryz.underlying50) ?_
  refine J.q rfl rfl rfl (V.as rfl) ?_
  refine J.nil ?_
  refine Po.then ?_
  refine C.no rfl ?_
  refine C.seq ?_
  refine C.reg ?_
  refine J.q rfl rfl rfl (V.mv rfl) ?_
  refine J.q rfl rfl rfl (V.fa rfl fo150_0) ?_
  refine J.q rfl rfl rfl (V.ldS (i := 0) 3 rfl rfl sc3 rfl rfl rfl) ?_
  refine J.callP rfl tx55 rfl (regIn _ _ _ _ _ rfl) ?_ 
  refine J.q rfl rfl rfl (V.no rfl) ?_
  refine J.q rfl rfl rfl (V.as rfl) ?_
  refine J.nil ?_
  refine Po.then ?_
  refine C.ite rfl (fun h10 => ?_) (fun h10 => ?_)
  · have he := fwdE_no (l := (l.map (·.s))) (f := f) (by simpa using h10)
    refine C.seq ?_
    refine C.reg ?_
    refine J.q rfl rfl rfl (V.as rfl) ?_
    refine J.nil ?_
    refine Po.then ?_
    refine C.ret ?_
    refine Po.blkR ?_
    refine Po.thenR ?_
    exact Po.end1 rfl rfl rfl fun W hI => ⟨_, _, rfl, ⟨l, by rw [he]; rfl, (fwdS_no he (by decide)).symm, hG, rfl⟩, (hI.sub (MSub.pull rfl <| MSub.drop <| MSub.refl))⟩
  · have hin : 0 ≤ f.side ∧ f.side < l.length := by simpa using h10
    have hlt : f.side.toNat < l.length := by omega
    obtain ⟨r, hr⟩ : ∃ r, l[f.side.toNat]? = some r := ⟨_, List.getElem?_eq_getElem hlt⟩
    have hE := fwdE_at hin.1 (mapS_get hr)
    have hwl := (hG.at hr).wl
    have hwl1 : Wl (SideR.lv {r.s with balance := r.s.balance + f.amount} r.k r.o r.g r.u) := hwl.set (i := 5) (s := 1) (u := iv (r.s.balance + f.amount)) rfl (by intro v hv; simp [iv, Value.cells] at hv; subst hv; rfl)
    have hsm := (hG.at hr).sm
    have hb := hsm.b
    have hm := hsm.m
    have hc := hsm.c
    have hf := hsm.f
    have hfl := hsm.le
    refine C.skip ?_
    refine Po.blkN ?_
    refine Po.then ?_
    refine C.seq ?_
    refine C.opnRg (l := 110) rfl fun aL cL => ?_
    refine C.drawM [] [0, 1, 2, 3, 4, 5, 6, 7] mixed (by kernel_rfl) (by kernel_rfl) ?_
    refine DE.q rfl rfl rfl rfl (V.mv rfl) ?_
    refine DE.q rfl rfl rfl rfl (V.nc rfl) ?_
    refine DE.q rfl rfl rfl rfl (V.fa rfl fo139_0) ?_
    refine DE.q rfl rfl rfl rfl (V.ldS (i := 0) 101 rfl rfl sc137 rfl rfl rfl) ?_
    refine DE.q rfl rfl rfl rfl (V.fa rfl fo150_0) ?_
    refine DE.q rfl rfl rfl rfl (V.ldS (i := 0) 3 rfl rfl sc3 rfl rfl rfl) ?_
    refine DE.q rfl rfl rfl rfl (V.ofO (l := 102) rfl fun _ hRS => V.iaR rfl hRS rfl sl137 (by rw [recsR_length]; omega)) ?_
    refine DE.q rfl rfl rfl rfl (V.as rfl) ?_
    refine DE.nil ?_
    refine DT.nil (MSub.refl) ?_
    refine Po.then ?_
    refine C.seq ?_
    refine C.reg ?_
    refine J.q rfl rfl rfl (V.fa rfl fo150_3) ?_
    refine J.q rfl rfl rfl (V.ldS (i := 3) 3 rfl rfl sc3 rfl rfl rfl) ?_
    refine J.q rfl rfl rfl (V.subW rfl rfl) ?_
    refine J.q rfl rfl rfl (V.as rfl) ?_
    refine J.nil ?_
    refine Po.then ?_
    refine C.seq ?_
    refine C.block ?_
    refine C.seq ?_
    refine C.reg ?_
    refine J.q rfl rfl rfl (V.mv rfl) ?_
    refine J.q rfl rfl rfl (V.nc rfl) ?_
    refine J.q rfl rfl rfl (V.fa rfl fo68_6) ?_
    refine J.q rfl rfl rfl (V.ofO (l := 102) rfl fun _ hRS => V.ldRS (k := 9) rfl hRS (rws_getN hr) hwl sc4 rfl (by kernel_rfl) rfl) ?_
    refine J.q rfl rfl rfl (V.as rfl) ?_
    refine J.nil ?_
    refine Po.then ?_
    refine C.ite rfl (fun h26 => ?_) (fun h26 => ?_)
    · have he := hE.trans (if_pos h26)
      refine C.seq ?_
      refine C.reg ?_
      refine J.q rfl rfl rfl (V.as rfl) ?_
      refine J.nil ?_
      refine Po.then ?_
      refine C.ret ?_
      refine Po.blkR ?_
      refine Po.thenR ?_
      exact Po.end1 rfl rfl rfl fun W hI => ⟨_, _, rfl, ⟨l, by rw [he]; rfl, (fwdS_no he (by decide)).symm, hG, rfl⟩, (hI.sub (MSub.fold Rg.mk <| MSub.pull rfl <| MSub.pull rfl <| MSub.drop <| MSub.refl))⟩
    · rw [if_neg (by simp [h26])] at hE
      refine C.seq ?_
      refine C.reg ?_
      refine J.q rfl rfl rfl (V.fa rfl fo150_3) ?_
      refine J.q rfl rfl rfl (V.ldS (i := 3) 3 rfl rfl sc3 rfl rfl rfl) ?_
      refine J.q rfl rfl rfl (V.lss rfl rfl) ?_
      refine J.mvB rfl rfl fun gb35 hgb35 => ?_
      refine J.gv rfl rfl rfl rfl rfl rfl (fun hg => by subst hg; exact V.fa rfl fo150_3) ?_
      refine J.gv rfl rfl rfl rfl rfl rfl (fun hg => by subst hg; exact V.ldS (i := 3) 3 rfl rfl sc3 rfl rfl rfl) ?_
      refine J.gcv rfl rfl rfl rfl tx119 (fun hg => by subst hg; rfl) (fun hg => by subst hg; exact moneyMay_pu _ _ _ _) ?_
      refine J.gv rfl rfl rfl rfl rfl rfl (fun hg => by subst hg; exact V.no rfl) ?_
      refine J.q rfl rfl rfl (V.or rfl rfl rfl) ?_
      refine J.mvB rfl rfl fun gb41 hgb41 => ?_
      refine J.gv rfl rfl rfl rfl rfl rfl (fun hg => by subst hg; exact V.mv rfl) ?_
      refine J.gv rfl rfl rfl rfl rfl rfl (fun hg => by subst hg; exact V.nc rfl) ?_
      refine J.gv rfl rfl rfl rfl rfl rfl (fun hg => by subst hg; exact V.fa rfl fo68_2) ?_
      refine J.gv rfl rfl rfl rfl rfl rfl (fun hg => by subst hg; exact V.ofO (l := 102) rfl fun _ hRS => V.ldRS (k := 5) rfl hRS (rws_getN hr) hwl sc3 rfl (by kernel_rfl) rfl) ?_
      refine J.gv rfl rfl rfl rfl rfl rfl (fun hg => by subst hg; exact V.mv rfl) ?_
      refine J.gv rfl rfl rfl rfl rfl rfl (fun hg => by subst hg; exact V.gtr rfl rfl) ?_
      refine J.q rfl rfl rfl (V.or rfl rfl rfl) ?_
      refine J.mvB rfl rfl fun gb49 hgb49 => ?_
      refine J.gv rfl rfl rfl rfl rfl rfl (fun hg => by subst hg; exact V.mv rfl) ?_
      refine J.gv rfl rfl rfl rfl rfl rfl (fun hg => by subst hg; exact V.nc rfl) ?_
      refine J.gv rfl rfl rfl rfl rfl rfl (fun hg => by subst hg; exact V.fa rfl fo68_3) ?_
      refine J.gv rfl rfl rfl rfl rfl rfl (fun hg => by subst hg; exact V.ofO (l := 102) rfl fun _ hRS => V.ldRS (k := 6) rfl hRS (rws_getN hr) hwl sc3 rfl (by kernel_rfl) rfl) ?_
      refine J.gv rfl rfl rfl rfl rfl rfl (fun hg => by subst hg; exact V.mv rfl) ?_
      refine J.gv rfl rfl rfl rfl rfl rfl (fun hg => by subst hg; exact V.gtr rfl rfl) ?_
      refine J.q rfl rfl rfl (V.or rfl rfl rfl) ?_
      refine J.q rfl rfl rfl (V.as rfl) ?_
      refine J.nil ?_
      refine Po.then ?_
      refine C.ite rfl (fun h31 => ?_) (fun h31 => ?_)
      · subst hgb35 hgb41 hgb49
        try simp only [Bool.and_eq_true, Bool.or_eq_true, Bool.and_eq_false_iff, Bool.or_eq_false_iff, Bool.not_eq_true', Bool.not_eq_false', decide_eq_true_eq, decide_eq_false_iff_not] at h31
        have he := hE.trans (if_pos (fwd_bad (by simpa using h31) (fun h1 h2 => wrap_in _ (by omega) (by omega))))
        refine C.seq ?_
        refine C.reg ?_
        refine J.q rfl rfl rfl (V.as rfl) ?_
        refine J.nil ?_
        refine Po.then ?_
        refine C.ret ?_
        refine Po.blkR ?_
        refine Po.thenR ?_
        exact Po.end1 rfl rfl rfl fun W hI => ⟨_, _, rfl, ⟨l, by rw [he]; rfl, (fwdS_no he (by decide)).symm, hG, rfl⟩, (hI.sub (MSub.fold Rg.mk <| MSub.pull rfl <| MSub.pull rfl <| MSub.drop <| MSub.refl))⟩
      · subst hgb35 hgb41 hgb49
        try simp only [Bool.and_eq_true, Bool.or_eq_true, Bool.and_eq_false_iff, Bool.or_eq_false_iff, Bool.not_eq_true', Bool.not_eq_false', decide_eq_true_eq, decide_eq_false_iff_not] at h31
        simp at h31
        have hwr : IntKind.i64.wrap (1125899906842624 - f.amount) = 1125899906842624 - f.amount := wrap_in _ (by omega) (by omega)
        rw [hwr] at h31
        have he : fwdE (l.map (·.s)) f = 0 := hE.trans (if_neg (by unfold maxM; omega))
        refine C.skip ?_
        refine Po.blkN ?_
        refine Po.then ?_
        refine C.seq ?_
        refine C.drawM [9] [0, 1, 2, 3, 4, 5, 6, 7, 8] mixed (by kernel_rfl) (by kernel_rfl) ?_
        refine DE.q rfl rfl rfl rfl (V.mv rfl) ?_
        refine DE.q rfl rfl rfl rfl (V.nc rfl) ?_
        refine DE.q rfl rfl rfl rfl (V.fa rfl fo68_2) ?_
        refine DE.q rfl rfl rfl rfl (V.ofO (l := 102) rfl fun _ hRS => V.ldRS (k := 5) rfl hRS (rws_getN hr) hwl sc3 rfl (by kernel_rfl) rfl) ?_
        refine DE.q rfl rfl rfl rfl (V.fa rfl fo150_3) ?_
        refine DE.q rfl rfl rfl rfl (V.ldS (i := 3) 3 rfl rfl sc3 rfl rfl rfl) ?_
        refine DE.q rfl rfl rfl rfl (V.add rfl rfl (by omega)) ?_
        refine DE.q rfl rfl rfl rfl (V.nc rfl) ?_
        refine DE.q rfl rfl rfl rfl (V.fa rfl fo68_2) ?_
        refine DE.nil ?_
        refine DT.o (by kernel_rfl) (MSub.refl) rfl rfl fun Kc hKc => ?_
        refine JO.stOl (k := 5) (l := 102) rfl rfl rfl sz3 (rws_getN hr) hwl rfl (by kernel_rfl) (hKc _ _ _ (Hp.le_refl _) ?_)
        clear hKc Kc
        refine DT.nil' (by kernel_rfl) ?_
        refine Po.then ?_
        refine C.seq ?_
        refine C.drawM [9] [0, 1, 2, 3, 4, 5, 6, 7, 8] mixed (by kernel_rfl) (by kernel_rfl) ?_
        refine DE.q rfl rfl rfl rfl (V.mv rfl) ?_
        refine DE.q rfl rfl rfl rfl (V.nc rfl) ?_
        refine DE.q rfl rfl rfl rfl (V.fa rfl fo68_3) ?_
        refine DE.q rfl rfl rfl rfl (V.ofO (l := 102) rfl fun _ hRS => V.ldRS (k := 6) rfl hRS (show _ = some (flat (SideR.lv {r.s with balance := r.s.balance + f.amount} r.k r.o r.g r.u)) from List.getElem?_set_self (by rw [recsR_length]; exact hlt)) hwl1 sc3 rfl (by kernel_rfl) rfl) ?_
        refine DE.q rfl rfl rfl rfl (V.fa rfl fo150_3) ?_
        refine DE.q rfl rfl rfl rfl (V.ldS (i := 3) 3 rfl rfl sc3 rfl rfl rfl) ?_
        refine DE.q rfl rfl rfl rfl (V.add (a := r.s.forwarded) (b := f.amount) rfl rfl (by omega)) ?_
        refine DE.q rfl rfl rfl rfl (V.nc rfl) ?_
        refine DE.q rfl rfl rfl rfl (V.fa rfl fo68_3) ?_
        refine DE.nil ?_
        refine DT.o (by kernel_rfl) (MSub.refl) rfl rfl fun Kc hKc => ?_
        refine JO.stOl (k := 6) (l := 102) rfl rfl rfl sz3 (show _ = some (flat (SideR.lv {r.s with balance := r.s.balance + f.amount} r.k r.o r.g r.u)) from List.getElem?_set_self (by rw [recsR_length]; exact hlt)) hwl1 rfl (by kernel_rfl) (hKc _ _ _ (Hp.le_refl _) ?_)
        clear hKc Kc
        refine DT.nil' (by kernel_rfl) ?_
        refine Po.then ?_
        refine C.seq ?_
        refine C.reg ?_
        refine J.q rfl rfl rfl (V.as rfl) ?_
        refine J.nil ?_
        refine Po.then ?_
        refine C.ret ?_
        exact Po.end1 rfl rfl rfl fun W hI => ⟨_, _, rfl, ⟨l.set f.side.toNat (fwdV r f.amount), by rw [he]; rfl, by rw [mapS_set, fwdS_at he (mapS_get hr)]; rfl, hG.set (fwdI (hG.at hr) (by omega) (by unfold maxM; omega)), rfl⟩, (hI.sub (MSub.fold Rg.mk <| MSub.pull rfl <| MSub.pullE rfl (by rw [List.set_set]; exact congrArg _ (rws_set (f := RecV.lv) (x := fwdV r f.amount))) <| MSub.drop <| MSub.refl))⟩
end Go.Proofs
namespace Go.Proofs
open Go Go.Sx Go.Db
set_option maxRecDepth 100000
theorem tx112 : Tx Tryz.prog 112 := ⟨Tryz.f112, Tryz.func112, rfl, by kernel_rfl⟩
theorem fo108_0 : Fo Tryz.prog 108 0 0 := ⟨_, _, 0, Tryz.underlying108, rfl, rfl, by kernel_rfl⟩
theorem sc106 : Sc Tryz.prog 106 := ⟨⟨_, Tryz.underlying106, rfl⟩, by kernel_rfl⟩
theorem zr109 : Zr Tryz.prog 109 [(1, .int .i64 0), (1, .int .i64 0), (1, .int .i64 0), (1, .slice none 0 0), (1, .int .i64 0), (1, .int .i64 0), (1, .int .i64 0), (1, .int .i64 0), (1, .int .i64 0), (1, .bool false), (1, .int .i64 0), (8, hv h0), (1, .bool false), (1, .int .i64 0), (1, .int .i64 0), (1, .int .i64 0), (8, hv h0), (8, hv h0), (1, .slice none 0 0), (1, .slice none 0 0), (1, .slice none 0 0)] := by unfold Zr; kernel_rfl
theorem pl109 : Pls Tryz.prog 109 [(0, 4), (4, 1), (5, 1), (6, 1), (7, 1), (8, 1), (9, 1), (10, 1), (11, 8), (19, 1), (20, 21), (41, 1)] := ⟨_, Tryz.underlying109, by kernel_rfl⟩
theorem el106 : El Tryz.prog 106 109 42 232 := El.of Tryz.underlying106 (by kernel_rfl) (by decide)
theorem sz106 : (Tryz.prog.info? 106).map (·.size) = some 1 := by kernel_rfl
theorem sl106 : Sl Tryz.prog 106 109 42 := ⟨Tryz.underlying106, by kernel_rfl⟩
theorem ag109 : Ag Tryz.prog 109 42 := ⟨⟨_, Tryz.underlying109, rfl⟩, by kernel_rfl⟩
theorem sz109 : (Tryz.prog.info? 109).map (·.size) = some 42 := by kernel_rfl
theorem fo109_6 : Fo Tryz.prog 109 6 9 := ⟨_, _, 0, Tryz.underlying109, rfl, rfl, by kernel_rfl⟩
theorem fo109_2 : Fo Tryz.prog 109 2 5 := ⟨_, _, 0, Tryz.underlying109, rfl, rfl, by kernel_rfl⟩
theorem fo109_3 : Fo Tryz.prog 109 3 6 := ⟨_, _, 0, Tryz.underlying109, rfl, rfl, by kernel_rfl⟩

theorem rCreate_fg (b : Nat) (l : List RecV) (p : Par) (vk : Value) (h : Int) (w0 : World) (ro : Hp) (M : Res) (hK : RS ro vk 8 (hkR p.keys)) (hk : p.keys.length ≤ 1000) (hG : RegI ro l) : Fg Tryz.prog 65 #[.pointer (some ⟨b, 0, none⟩), ag (p.lv vk), iv h] w0 ro ((130, Rg 108 109 b l) :: M) (fun u ro1 M1 => ∃ l1, u = .tuple #[iv (if crE (l.map (·.s)) p = 0 then l.length else 0), iv (crE (l.map (·.s)) p)] ∧ l1.map (·.s) = crS (l.map (·.s)) p h ∧ RegI ro1 l1 ∧ M1 = (130, Rg 108 109 b l1) :: M) := by
  obtain ⟨aK, cK, rfl, _⟩ := hK.shape
  refine Fg.enter Tryz.func65 rfl rfl ?_
  have hle : Hp.le ro ro := Hp.le_refl _
  refine C.seq ?_
  refine C.reg ?_
  refine J.one rfl (JO.boxS (l := 4) rfl rfl fun b4 => ?_)
  refine J.q rfl rfl rfl (V.as rfl) ?_
  refine J.q rfl rfl rfl (V.as rfl) ?_
  refine J.nil ?_
  refine Po.then ?_
  refine C.seq ?_
  refine C.seq ?_
  refine C.reg ?_
  refine J.q rfl rfl rfl (V.ldW 4 rfl rfl ag40 rfl) ?_
  refine J.callP rfl tx112 rfl (rMayParams_pu _ _ _ _ _ (by assumption) (by omega)) ?_ 
  refine J.q rfl rfl rfl (V.no rfl) ?_
  refine J.nil ?_
  refine Po.then ?_
  refine C.ite rfl (fun h10 => ?_) (fun h10 => ?_)
  · have h10 : ¬ mayP p := by simpa using h10
    have he : crE (l.map (·.s)) p = 4 := if_pos h10
    refine C.seq ?_
    refine C.reg ?_
    refine J.q rfl rfl rfl (V.as rfl) ?_
    refine J.q rfl rfl rfl (V.as rfl) ?_
    refine J.nil ?_
    refine Po.then ?_
    refine C.ret ?_
    refine Po.thenR ?_
    exact Po.end2 rfl rfl rfl rfl fun W hI => ⟨_, _, _, rfl, hle, ⟨l, by simp [he, iv], by simp [crS, he, crR], hG, rfl⟩, (hI.sub (MSub.pull rfl <| MSub.drop <| MSub.refl))⟩
  · have h10 : mayP p := by simpa using h10
    refine C.skip ?_
    refine Po.then ?_
    refine C.seq ?_
    refine C.seq ?_
    refine C.opnRg (l := 130) rfl fun aL cL => ?_
    refine C.reg ?_
    refine J.q rfl rfl rfl (V.mv rfl) ?_
    refine J.q rfl rfl rfl (V.nc rfl) ?_
    refine J.q rfl rfl rfl (V.fa rfl fo108_0) ?_
    refine J.q rfl rfl rfl (V.ldS (i := 0) 101 rfl rfl sc106 rfl rfl rfl) ?_
    refine J.q rfl rfl rfl (V.to (V.lenO (l := 102) rfl rfl Tryz.underlying106) (by rw [recsR_length])) ?_
    refine J.q rfl rfl rfl (V.geq rfl rfl) ?_
    refine J.nil ?_
    refine Po.then ?_
    refine C.ifd rfl (fun h16 => ?_) (fun h16 => ?_)
    · have he : crE (l.map (·.s)) p = 18 := by unfold crE; rw [if_neg (by simpa using h10), if_pos (by simp; omega)]
      refine C.seq ?_
      refine C.reg ?_
      refine J.q rfl rfl rfl (V.as rfl) ?_
      refine J.q rfl rfl rfl (V.as rfl) ?_
      refine J.nil ?_
      refine Po.then ?_
      refine C.ret ?_
      refine Po.thenR ?_
      exact Po.end2 rfl rfl rfl rfl fun W hI => ⟨_, _, _, rfl, hle, ⟨l, by simp [he, iv], by simp [crS, he, crR], hG, rfl⟩, (hI.sub (MSub.fold Rg.mk <| MSub.pull rfl <| MSub.pull rfl <| MSub.drop <| MSub.refl))⟩
    · have he : crE (l.map (·.s)) p = 0 := by unfold crE; rw [if_neg (by simpa using h10), if_neg (by simp; omega)]
      refine C.skip ?_
      refine Po.then ?_
      refine C.seq ?_
      refine C.nilO 115 29 8 ?_
      refine C.reg ?_
      refine J.q rfl rfl rfl (V.fa rfl fo40_3) ?_
      refine J.q rfl rfl rfl (V.ldS (i := 3) 4 rfl rfl sc38 rfl rfl rfl) ?_
      refine J.one rfl (JO.appRS (l := 115) rfl rfl rfl el38 rfl (by assumption) (by rw [hkR_length]; simp; omega) (by rw [hkR_length]; simp [maxLen]; omega) fun a19 c19 => ?_)
      refine J.q rfl rfl rfl (V.fa rfl fo40_3) ?_
      refine J.one rfl (JO.st (i := 3) (l := 4) rfl rfl rfl sz38 rfl rfl ?_)
      refine J.nil ?_
      refine Po.then ?_
      refine C.seq ?_
      refine C.freezeG (l := 115) rfl (fun _ _ hA hr => hA.rs hr) fun ro hl hk1 => ?_
      replace hG := hG.mono hl
      replace hK := hK.mono hl
      replace hle := Hp.le_trans hle hl
      refine C.nilO 122 109 42 ?_
      refine C.draw [5, 9, 10, 13] [0, 1, 2, 3, 4, 6, 7, 8, 11, 12] [(101, St b [(1, .slice aL l.length cL)] 108), (4, St b4 (p.lv (.slice a19 ([] ++ hkR p.keys).length c19)) 40)] mixed (by kernel_rfl) (by kernel_rfl) ?_
      refine DE.q rfl rfl rfl rfl (V.mv rfl) ?_
      refine DE.q rfl rfl rfl rfl (V.mv rfl) ?_
      refine DE.q rfl rfl rfl rfl (V.nc rfl) ?_
      refine DE.q rfl rfl rfl rfl (V.fa rfl fo108_0) ?_
      refine DE.q rfl rfl rfl rfl (V.ldS (i := 0) 101 rfl rfl sc106 rfl rfl rfl) ?_
      refine DE.q rfl rfl rfl rfl (V.ldW 4 rfl rfl ag40 rfl) ?_
      refine DE.q rfl rfl rfl rfl (V.mv rfl) ?_
      refine DE.q rfl rfl rfl rfl (V.to (V.bld rfl zr109 pl109 (Put.ags (i := 0) (k := 4) rfl rfl rfl rfl <| Put.one (i := 4) rfl rfl rfl <| Put.nil)) (show _ = ag ((crR p h).lv (.slice a19 ([] ++ hkR p.keys).length c19) (.slice none 0 0) (.slice none 0 0) (.slice none 0 0)) from rfl)) ?_
      refine DE.q rfl rfl rfl rfl (V.nc rfl) ?_
      refine DE.q rfl rfl rfl rfl (V.fa rfl fo108_0) ?_
      refine DE.nil ?_
      refine DT.o2 (i := 5) (j := 9) (by kernel_rfl) (by decide) (MSub.pull rfl <| MSub.pull rfl <| MSub.nil) ?_ ?_
      · refine DO.o (rest := [9, 10, 13]) (by decide) (by decide) rfl rfl fun Kc hKc => ?_
        refine JO.appOS (l := 122) (l2 := 102) rfl rfl rfl el106 rfl rfl (by rw [recsR_length]; simp; omega) (by rw [recsR_length]; simp [maxLen]; omega) fun a26 c26 => (hKc _ _ _ (Hp.le_refl _) ?_)
        clear hKc Kc
        refine DT.o (by kernel_rfl) (MSub.pull rfl <| MSub.pull rfl <| MSub.nil) rfl rfl fun Kc hKc => ?_
        refine JO.bslS (l := 30) rfl el106 rfl rfl rfl Cs.all (by decide) fun a30 c30 => (hKc _ _ _ (Hp.le_refl _) ?_)
        clear hKc Kc
        refine DT.o (by kernel_rfl) (MSub.pull rfl <| MSub.pull rfl <| MSub.nil) rfl rfl fun Kc hKc => ?_
        refine JO.appOS (l := 122) (l2 := 30) rfl rfl rfl el106 rfl rfl (by rw [List.length_append, recsR_length]; simp; omega) (by rw [List.length_append, recsR_length]; simp [maxLen]; omega) fun a31 c31 => (hKc _ _ _ (Hp.le_refl _) ?_)
        clear hKc Kc
        refine DT.o (by kernel_rfl) (MSub.pull rfl <| MSub.pull rfl <| MSub.nil) rfl rfl fun Kc hKc => ?_
        refine JO.st (i := 0) (l := 101) rfl rfl rfl sz106 rfl rfl (hKc _ _ _ (Hp.le_refl _) ?_)
        clear hKc Kc
        refine DT.nil' (by kernel_rfl) ?_
        refine Po.then ?_
        refine C.seq ?_
        refine C.reg ?_
        refine J.q rfl rfl rfl (V.mv rfl) ?_
        refine J.q rfl rfl rfl (V.nc rfl) ?_
        refine J.q rfl rfl rfl (V.fa rfl fo108_0) ?_
        refine J.q rfl rfl rfl (V.ldS (i := 0) 101 rfl rfl sc106 rfl rfl rfl) ?_
        refine J.q rfl rfl rfl (V.to (V.lenO (l := 122) rfl rfl Tryz.underlying106) (show _ = Value.int .i64 ((l.length : Int) + 1) by simp [recsR_length])) ?_
        refine J.q rfl rfl rfl (V.sub' rfl rfl (by omega)) ?_
        refine J.q rfl rfl rfl (V.as rfl) ?_
        refine J.q rfl rfl rfl (V.as rfl) ?_
        refine J.nil ?_
        refine Po.then ?_
        refine C.ret ?_
        exact Po.end2 rfl rfl rfl rfl fun W hI => ⟨_, _, _, rfl, hle, ⟨l ++ [RecV.mk (crR p h) (.slice a19 _ c19) (.slice none 0 0) (.slice none 0 0) (.slice none 0 0)], by simp [he, iv], by simp [crS, he, crR], hG.snoc ⟨⟨hk1, RS.none_, RS.none_, RS.none_⟩, (crR_sm hk)⟩, rfl⟩, (hI.sub (MSub.fold Rg.mk <| MSub.pull rfl <| MSub.pullLE (l := 122) rfl (by exact congrArg _ (rws_app RecV.lv l [RecV.mk (crR p h) (.slice a19 _ c19) (.slice none 0 0) (.slice none 0 0) (.slice none 0 0)])) <| MSub.drop <| MSub.drop <| MSub.drop <| MSub.refl))⟩
      · refine DO.o (rest := [5, 10, 13]) (by decide) (by decide) rfl rfl fun Kc hKc => ?_
        refine JO.bslS (l := 30) rfl el106 rfl rfl rfl Cs.all (by decide) fun a30 c30 => (hKc _ _ _ (Hp.le_refl _) ?_)
        clear hKc Kc
        refine DT.o (by kernel_rfl) (MSub.pull rfl <| MSub.pull rfl <| MSub.nil) rfl rfl fun Kc hKc => ?_
        refine JO.appOS (l := 122) (l2 := 102) rfl rfl rfl el106 rfl rfl (by rw [recsR_length]; simp; omega) (by rw [recsR_length]; simp [maxLen]; omega) fun a26 c26 => (hKc _ _ _ (Hp.le_refl _) ?_)
        clear hKc Kc
        refine DT.o (by kernel_rfl) (MSub.pull rfl <| MSub.pull rfl <| MSub.nil) rfl rfl fun Kc hKc => ?_
        refine JO.appOS (l := 122) (l2 := 30) rfl rfl rfl el106 rfl rfl (by rw [List.length_append, recsR_length]; simp; omega) (by rw [List.length_append, recsR_length]; simp [maxLen]; omega) fun a31 c31 => (hKc _ _ _ (Hp.le_refl _) ?_)
        clear hKc Kc
        refine DT.o (by kernel_rfl) (MSub.pull rfl <| MSub.pull rfl <| MSub.nil) rfl rfl fun Kc hKc => ?_
        refine JO.st (i := 0) (l := 101) rfl rfl rfl sz106 rfl rfl (hKc _ _ _ (Hp.le_refl _) ?_)
        clear hKc Kc
        refine DT.nil' (by kernel_rfl) ?_
        refine Po.then ?_
        refine C.seq ?_
        refine C.reg ?_
        refine J.q rfl rfl rfl (V.mv rfl) ?_
        refine J.q rfl rfl rfl (V.nc rfl) ?_
        refine J.q rfl rfl rfl (V.fa rfl fo108_0) ?_
        refine J.q rfl rfl rfl (V.ldS (i := 0) 101 rfl rfl sc106 rfl rfl rfl) ?_
        refine J.q rfl rfl rfl (V.to (V.lenO (l := 122) rfl rfl Tryz.underlying106) (show _ = Value.int .i64 ((l.length : Int) + 1) by simp [recsR_length])) ?_
        refine J.q rfl rfl rfl (V.sub' rfl rfl (by omega)) ?_
        refine J.q rfl rfl rfl (V.as rfl) ?_
        refine J.q rfl rfl rfl (V.as rfl) ?_
        refine J.nil ?_
        refine Po.then ?_
        refine C.ret ?_
        exact Po.end2 rfl rfl rfl rfl fun W hI => ⟨_, _, _, rfl, hle, ⟨l ++ [RecV.mk (crR p h) (.slice a19 _ c19) (.slice none 0 0) (.slice none 0 0) (.slice none 0 0)], by simp [he, iv], by simp [crS, he, crR], hG.snoc ⟨⟨hk1, RS.none_, RS.none_, RS.none_⟩, (crR_sm hk)⟩, rfl⟩, (hI.sub (MSub.fold Rg.mk <| MSub.pull rfl <| MSub.pullLE (l := 122) rfl (by exact congrArg _ (rws_app RecV.lv l [RecV.mk (crR p h) (.slice a19 _ c19) (.slice none 0 0) (.slice none 0 0) (.slice none 0 0)])) <| MSub.drop <| MSub.drop <| MSub.drop <| MSub.refl))⟩

theorem rForward_fn (b : Nat) (l : List RecV) (f : FwdD) (w0 : World) (ro : Hp) (M : Res) (hG : RegI ro l) (hl : l.length ≤ 1000) : Sx.Fn Tryz.prog 67 #[.pointer (some ⟨b, 0, none⟩), ag f.lv] w0 ro ((130, Rg 108 109 b l) :: M) (fun u M1 => ∃ l1, u = iv (fwdE (l.map (·.s)) f) ∧ l1.map (·.s) = fwdS (l.map (·.s)) f ∧ RegI ro l1 ∧ M1 = (130, Rg 108 109 b l1) :: M) := by
  refine Sx.Fn.enter Tryz.func67 rfl rfl ?_
  refine C.seq ?_
  refine C.reg ?_
  refine J.one rfl (JO.boxS (l := 3) rfl rfl fun b3 => ?_)
  refine J.q rfl rfl rfl (V.as rfl) ?_
  refine J.nil ?_
  refine Po.then ?_
  refine C.seq ?_
  refine C.seq ?_
  refine C.opnRg (l := 130) rfl fun aL cL => ?_
  refine C.drawM [] [0, 1, 2, 3, 4, 5, 6, 7, 8, 9, 10, 11, 12] mixed (by kernel_rfl) (by kernel_rfl) ?_
  refine DE.q rfl rfl rfl rfl (V.fa rfl fo150_0) ?_
  refine DE.q rfl rfl rfl rfl (V.ldS (i := 0) 3 rfl rfl sc3 rfl rfl rfl) ?_
  refine DE.q rfl rfl rfl rfl (V.lss rfl rfl) ?_
  refine DE.mvB rfl rfl rfl rfl rfl fun gb9 hgb9 => ?_
  refine DE.gv rfl rfl rfl rfl rfl rfl rfl (fun hg => by subst hg; exact V.fa rfl fo150_0) ?_
  refine DE.gv rfl rfl rfl rfl rfl rfl rfl (fun hg => by subst hg; exact V.ldS (i := 0) 3 rfl rfl sc3 rfl rfl rfl) ?_
  refine DE.gv rfl rfl rfl rfl rfl rfl rfl (fun hg => by subst hg; exact V.mv rfl) ?_
  refine DE.gv rfl rfl rfl rfl rfl rfl rfl (fun hg => by subst hg; exact V.nc rfl) ?_
  refine DE.gv rfl rfl rfl rfl rfl rfl rfl (fun hg => by subst hg; exact V.fa rfl fo108_0) ?_
  refine DE.gv rfl rfl rfl rfl rfl rfl rfl (fun hg => by subst hg; exact V.ldS (i := 0) 101 rfl rfl sc106 rfl rfl rfl) ?_
  refine DE.gv rfl rfl rfl rfl rfl rfl rfl (fun hg => by subst hg; exact V.to (V.lenO (l := 102) rfl rfl Tryz.underlying106) (by rw [recsR_length])) ?_
  refine DE.gv rfl rfl rfl rfl rfl rfl rfl (fun hg => by subst hg; exact V.geq rfl rfl) ?_
  refine DE.q rfl rfl rfl rfl (V.or rfl rfl rfl) ?_
  refine DE.nil ?_
  refine DT.nil (MSub.refl) ?_
  refine Po.then ?_
  refine C.ite rfl (fun h18 => ?_) (fun h18 => ?_)
  · subst hgb9
    try simp only [Bool.and_eq_true, Bool.or_eq_true, Bool.and_eq_false_iff, Bool.or_eq_false_iff, Bool.not_eq_true', Bool.not_eq_false', decide_eq_true_eq, decide_eq_false_iff_not] at h18
    have he := fwdE_no (l := (l.map (·.s))) (f := f) (by simpa using h18)
    refine C.seq ?_
    refine C.reg ?_
    refine J.q rfl rfl rfl (V.as rfl) ?_
    refine J.nil ?_
    refine Po.then ?_
    refine C.ret ?_
    refine Po.thenR ?_
    exact Po.end1 rfl rfl rfl fun W hI => ⟨_, _, rfl, ⟨l, by rw [he]; rfl, (fwdS_no he (by decide)).symm, hG, rfl⟩, (hI.sub (MSub.fold Rg.mk <| MSub.pull rfl <| MSub.pull rfl <| MSub.drop <| MSub.refl))⟩
  · subst hgb9
    try simp only [Bool.and_eq_true, Bool.or_eq_true, Bool.and_eq_false_iff, Bool.or_eq_false_iff, Bool.not_eq_true', Bool.not_eq_false', decide_eq_true_eq, decide_eq_false_iff_not] at h18
    have hin : 0 ≤ f.side ∧ f.side < l.length := by simpa using h18
    have hlt : f.side.toNat < l.length := by omega
    obtain ⟨r, hr⟩ : ∃ r, l[f.side.toNat]? = some r := ⟨_, List.getElem?_eq_getElem hlt⟩
    have hE := fwdE_at hin.1 (mapS_get hr)
    have hri := hG.at hr
    have hsm := hri.sm
    have hb := hsm.b
    have hm := hsm.m
    have hc := hsm.c
    have hf := hsm.f
    have hfl := hsm.le
    obtain ⟨rs, rk, ro_, rg, ru⟩ := r
    dsimp only at hb hm hc hf hfl hE
    obtain ⟨ark, crk, rfl, _⟩ := (show RS ro rk 8 (hkR rs.par.keys) from hri.rs.k).shape
    obtain ⟨aro, cro, rfl, _⟩ := (show RS ro ro_ 9 (rws OutD.lv rs.cert.outs) from hri.rs.o).shape
    obtain ⟨arg, crg, rfl, _⟩ := (show RS ro rg 282 (rws SignedD.lv rs.cert.sigs) from hri.rs.g).shape
    obtain ⟨aru, cru, rfl, _⟩ := (show RS ro ru 1 (intR rs.used) from hri.rs.u).shape
    refine C.skip ?_
    refine Po.then ?_
    refine C.seq ?_
    refine C.drawM [8, 9] [0, 1, 2, 3, 4, 5, 6, 7] mixed (by kernel_rfl) (by kernel_rfl) ?_
    refine DE.q rfl rfl rfl rfl (V.mv rfl) ?_
    refine DE.q rfl rfl rfl rfl (V.nc rfl) ?_
    refine DE.q rfl rfl rfl rfl (V.fa rfl fo108_0) ?_
    refine DE.q rfl rfl rfl rfl (V.ldS (i := 0) 101 rfl rfl sc106 rfl rfl rfl) ?_
    refine DE.q rfl rfl rfl rfl (V.fa rfl fo150_0) ?_
    refine DE.q rfl rfl rfl rfl (V.ldS (i := 0) 3 rfl rfl sc3 rfl rfl rfl) ?_
    refine DE.q rfl rfl rfl rfl (V.ofO (l := 102) rfl fun _ hRS => V.iaR rfl hRS rfl sl106 (by rw [recsR_length]; omega)) ?_
    refine DE.q rfl rfl rfl rfl (V.to (V.ofO (l := 102) rfl fun _ hRS => V.ldR rfl hRS (rws_getN hr) ag109) (show _ = ag (rs.lv (.slice ark (hkR rs.par.keys).length crk) (.slice aro (rws OutD.lv rs.cert.outs).length cro) (.slice arg (rws SignedD.lv rs.cert.sigs).length crg) (.slice aru (intR rs.used).length cru)) from rfl)) ?_
    refine DE.nil ?_
    refine DT.o (by kernel_rfl) (MSub.refl) rfl rfl fun Kc hKc => ?_
    refine JO.alloc (l := 5) rfl zr109 fun b5 => (hKc _ _ _ (Hp.le_refl _) ?_)
    clear hKc Kc
    refine DT.o (by kernel_rfl) (MSub.drop <| MSub.refl) rfl rfl fun Kc hKc => ?_
    refine JO.stS (l := 5) rfl rfl rfl sz109 (by kernel_rfl) (by kernel_rfl) (hKc _ _ _ (Hp.le_refl _) ?_)
    clear hKc Kc
    refine DT.nil' (by kernel_rfl) ?_
    refine Po.then ?_
    refine C.seq ?_
    refine C.seq ?_
    refine C.reg ?_
    refine J.q rfl rfl rfl (V.fa rfl fo109_6) ?_
    refine J.q rfl rfl rfl (V.ldS (i := 9) 5 rfl rfl sc4 rfl (by kernel_rfl) rfl) ?_
    refine J.nil ?_
    refine Po.then ?_
    refine C.ite rfl (fun h28 => ?_) (fun h28 => ?_)
    · have he := hE.trans (if_pos h28)
      refine C.seq ?_
      refine C.reg ?_
      refine J.q rfl rfl rfl (V.as rfl) ?_
      refine J.nil ?_
      refine Po.then ?_
      refine C.ret ?_
      refine Po.thenR ?_
      exact Po.end1 rfl rfl rfl fun W hI => ⟨_, _, rfl, ⟨l, by rw [he]; rfl, (fwdS_no he (by decide)).symm, hG, rfl⟩, (hI.sub (MSub.fold Rg.mk <| MSub.pull rfl <| MSub.pull rfl <| MSub.drop <| MSub.drop <| MSub.refl))⟩
    · rw [if_neg (by simp [h28])] at hE
      refine C.skip ?_
      refine Po.then ?_
      refine C.seq ?_
      refine C.seq ?_
      refine C.reg ?_
      refine J.q rfl rfl rfl (V.fa rfl fo150_3) ?_
      refine J.q rfl rfl rfl (V.ldS (i := 3) 3 rfl rfl sc3 rfl rfl rfl) ?_
      refine J.q rfl rfl rfl (V.lss rfl rfl) ?_
      refine J.mvB rfl rfl fun gb32 hgb32 => ?_
      refine J.gv rfl rfl rfl rfl rfl rfl (fun hg => by subst hg; exact V.fa rfl fo150_3) ?_
      refine J.gv rfl rfl rfl rfl rfl rfl (fun hg => by subst hg; exact V.ldS (i := 3) 3 rfl rfl sc3 rfl rfl rfl) ?_
      refine J.gv rfl rfl rfl rfl rfl rfl (fun hg => by subst hg; exact V.gtr rfl rfl) ?_
      refine J.q rfl rfl rfl (V.or rfl rfl rfl) ?_
      refine J.mvB rfl rfl fun gb37 hgb37 => ?_
      refine J.gv rfl rfl rfl rfl rfl rfl (fun hg => by subst hg; exact V.fa rfl fo109_2) ?_
      refine J.gv rfl rfl rfl rfl rfl rfl (fun hg => by subst hg; exact V.ldS (i := 5) 5 rfl rfl sc3 rfl (by kernel_rfl) rfl) ?_
      refine J.gv rfl rfl rfl rfl rfl rfl (fun hg => by subst hg; exact V.fa rfl fo150_3) ?_
      refine J.gv rfl rfl rfl rfl rfl rfl (fun hg => by subst hg; exact V.ldS (i := 3) 3 rfl rfl sc3 rfl rfl rfl) ?_
      refine J.gv rfl rfl rfl rfl rfl rfl (fun hg => by subst hg; exact V.subW rfl rfl) ?_
      refine J.gv rfl rfl rfl rfl rfl rfl (fun hg => by subst hg; exact V.gtr rfl rfl) ?_
      refine J.q rfl rfl rfl (V.or rfl rfl rfl) ?_
      refine J.mvB rfl rfl fun gb45 hgb45 => ?_
      refine J.gv rfl rfl rfl rfl rfl rfl (fun hg => by subst hg; exact V.fa rfl fo109_3) ?_
      refine J.gv rfl rfl rfl rfl rfl rfl (fun hg => by subst hg; exact V.ldS (i := 6) 5 rfl rfl sc3 rfl (by kernel_rfl) rfl) ?_
      refine J.gv rfl rfl rfl rfl rfl rfl (fun hg => by subst hg; exact V.fa rfl fo150_3) ?_
      refine J.gv rfl rfl rfl rfl rfl rfl (fun hg => by subst hg; exact V.ldS (i := 3) 3 rfl rfl sc3 rfl rfl rfl) ?_
      refine J.gv rfl rfl rfl rfl rfl rfl (fun hg => by subst hg; exact V.subW rfl rfl) ?_
      refine J.gv rfl rfl rfl rfl rfl rfl (fun hg => by subst hg; exact V.gtr rfl rfl) ?_
      refine J.q rfl rfl rfl (V.or rfl rfl rfl) ?_
      refine J.nil ?_
      refine Po.then ?_
      refine C.ite rfl (fun h52 => ?_) (fun h52 => ?_)
      · subst hgb32 hgb37 hgb45
        try simp only [Bool.and_eq_true, Bool.or_eq_true, Bool.and_eq_false_iff, Bool.or_eq_false_iff, Bool.not_eq_true', Bool.not_eq_false', decide_eq_true_eq, decide_eq_false_iff_not] at h52
        have he := hE.trans (if_pos (rfwd_bad (by simpa using h52) (fun h1 h2 => wrap_in _ (by omega) (by omega))))
        refine C.seq ?_
        refine C.reg ?_
        refine J.q rfl rfl rfl (V.as rfl) ?_
        refine J.nil ?_
        refine Po.then ?_
        refine C.ret ?_
        refine Po.thenR ?_
        exact Po.end1 rfl rfl rfl fun W hI => ⟨_, _, rfl, ⟨l, by rw [he]; rfl, (fwdS_no he (by decide)).symm, hG, rfl⟩, (hI.sub (MSub.fold Rg.mk <| MSub.pull rfl <| MSub.pull rfl <| MSub.drop <| MSub.drop <| MSub.refl))⟩
      · subst hgb32 hgb37 hgb45
        try simp only [Bool.and_eq_true, Bool.or_eq_true, Bool.and_eq_false_iff, Bool.or_eq_false_iff, Bool.not_eq_true', Bool.not_eq_false', decide_eq_true_eq, decide_eq_false_iff_not] at h52
        simp at h52
        have hwr : IntKind.i64.wrap (1125899906842624 - f.amount) = 1125899906842624 - f.amount := wrap_in _ (by omega) (by omega)
        rw [hwr] at h52
        have he : fwdE (l.map (·.s)) f = 0 := hE.trans (if_neg (by unfold maxM; omega))
        refine C.skip ?_
        refine Po.then ?_
        refine C.seq ?_
        refine C.drawM [7, 8, 9, 11, 12, 13] [0, 1, 2, 3, 4, 5, 6, 10] mixed (by kernel_rfl) (by kernel_rfl) ?_
        refine DE.q rfl rfl rfl rfl (V.fa rfl fo109_2) ?_
        refine DE.q rfl rfl rfl rfl (V.ldS (i := 5) 5 rfl rfl sc3 rfl (by kernel_rfl) rfl) ?_
        refine DE.q rfl rfl rfl rfl (V.fa rfl fo150_3) ?_
        refine DE.q rfl rfl rfl rfl (V.ldS (i := 3) 3 rfl rfl sc3 rfl rfl rfl) ?_
        refine DE.q rfl rfl rfl rfl (V.add rfl rfl (by omega)) ?_
        refine DE.q rfl rfl rfl rfl (V.fa rfl fo109_3) ?_
        refine DE.q rfl rfl rfl rfl (V.ldS (i := 6) 5 rfl rfl sc3 rfl (by kernel_rfl) rfl) ?_
        refine DE.q rfl rfl rfl rfl (V.fa rfl fo109_2) ?_
        refine DE.nil ?_
        refine DT.o2 (i := 7) (j := 11) (by kernel_rfl) (by decide) (MSub.refl) ?_ ?_
        · refine DO.o (rest := [8, 9, 11, 12, 13]) (by decide) (by decide) rfl rfl fun Kc hKc => ?_
          refine JO.q rfl rfl (V.fa rfl fo150_3) (hKc _ _ _ (Hp.le_refl _) ?_)
          clear hKc Kc
          refine DT.o2 (i := 8) (j := 11) (by kernel_rfl) (by decide) (MSub.refl) ?_ ?_
          · refine DO.o (rest := [9, 11, 12, 13]) (by decide) (by decide) rfl rfl fun Kc hKc => ?_
            refine JO.q rfl rfl (V.ldS (i := 3) 3 rfl rfl sc3 rfl rfl rfl) (hKc _ _ _ (Hp.le_refl _) ?_)
            clear hKc Kc
            refine DT.o2 (i := 9) (j := 11) (by kernel_rfl) (by decide) (MSub.refl) ?_ ?_
            · refine DO.o (rest := [11, 12, 13]) (by decide) (by decide) rfl rfl fun Kc hKc => ?_
              refine JO.q rfl rfl (V.add rfl rfl (by omega)) (hKc _ _ _ (Hp.le_refl _) ?_)
              clear hKc Kc
              refine DT.o (by kernel_rfl) (MSub.refl) rfl rfl fun Kc hKc => ?_
              refine JO.st (i := 5) (l := 5) rfl rfl rfl sz3 rfl (by kernel_rfl) (hKc _ _ _ (Hp.le_refl _) ?_)
              clear hKc Kc
              refine DT.o' (by kernel_rfl) (by kernel_rfl) rfl rfl fun Kc hKc => ?_
              refine JO.q rfl rfl (V.fa rfl fo109_3) (hKc _ _ _ (Hp.le_refl _) ?_)
              clear hKc Kc
              refine DT.o' (by kernel_rfl) (by kernel_rfl) rfl rfl fun Kc hKc => ?_
              refine JO.st (i := 6) (l := 5) rfl rfl rfl sz3 rfl (by kernel_rfl) (hKc _ _ _ (Hp.le_refl _) ?_)
              clear hKc Kc
              refine DT.nil' (by kernel_rfl) ?_
              refine Po.then ?_
              refine C.seq ?_
              refine C.drawM [8] [0, 1, 2, 3, 4, 5, 6, 7] mixed (by kernel_rfl) (by kernel_rfl) ?_
              refine DE.q rfl rfl rfl rfl (V.mv rfl) ?_
              refine DE.q rfl rfl rfl rfl (V.nc rfl) ?_
              refine DE.q rfl rfl rfl rfl (V.fa rfl fo108_0) ?_
              refine DE.q rfl rfl rfl rfl (V.ldS (i := 0) 101 rfl rfl sc106 rfl rfl rfl) ?_
              refine DE.q rfl rfl rfl rfl (V.fa rfl fo150_0) ?_
              refine DE.q rfl rfl rfl rfl (V.ldS (i := 0) 3 rfl rfl sc3 rfl rfl rfl) ?_
              refine DE.q rfl rfl rfl rfl (V.to (V.ldW 5 rfl rfl ag109 (by kernel_rfl)) (show _ = ag ((fwdR rs f.amount).lv (.slice ark (hkR rs.par.keys).length crk) (.slice aro (rws OutD.lv rs.cert.outs).length cro) (.slice arg (rws SignedD.lv rs.cert.sigs).length crg) (.slice aru (intR rs.used).length cru)) from rfl)) ?_
              refine DE.q rfl rfl rfl rfl (V.ofO (l := 102) rfl fun _ hRS => V.iaR rfl hRS rfl sl106 (by rw [recsR_length]; omega)) ?_
              refine DE.nil ?_
              refine DT.o (by kernel_rfl) (MSub.refl) rfl rfl fun Kc hKc => ?_
              refine JO.stO (l := 102) rfl rfl rfl sz109 (by rw [recsR_length]; omega) (hKc _ _ _ (Hp.le_refl _) ?_)
              clear hKc Kc
              refine DT.nil' (by kernel_rfl) ?_
              refine Po.then ?_
              refine C.seq ?_
              refine C.reg ?_
              refine J.q rfl rfl rfl (V.as rfl) ?_
              refine J.nil ?_
              refine Po.then ?_
              refine C.ret ?_
              exact Po.end1 rfl rfl rfl fun W hI => ⟨_, _, rfl, ⟨l.set f.side.toNat (fwdV (RecV.mk rs (.slice ark _ crk) (.slice aro _ cro) (.slice arg _ crg) (.slice aru _ cru)) f.amount), by rw [he]; rfl, by rw [mapS_set, fwdS_at he (mapS_get hr)]; rfl, hG.set (fwdI hri (by omega) (by show rs.forwarded ≤ maxM - f.amount; unfold maxM; omega)), rfl⟩, (hI.sub (MSub.fold Rg.mk <| MSub.pull rfl <| MSub.pullE rfl (by exact congrArg _ (rws_set (f := RecV.lv) (x := fwdV (RecV.mk rs (.slice ark _ crk) (.slice aro _ cro) (.slice arg _ crg) (.slice aru _ cru)) f.amount))) <| MSub.drop <| MSub.drop <| MSub.refl))⟩
            · refine DO.o (rest := [9, 12, 13]) (by decide) (by decide) rfl rfl fun Kc hKc => ?_
              refine JO.st (i := 5) (l := 5) rfl rfl rfl sz3 rfl (by kernel_rfl) (hKc _ _ _ (Hp.le_refl _) ?_)
              clear hKc Kc
              refine DT.o' (by kernel_rfl) (by kernel_rfl) rfl rfl fun Kc hKc => ?_
              refine JO.q rfl rfl (V.add rfl rfl (by omega)) (hKc _ _ _ (Hp.le_refl _) ?_)
              clear hKc Kc
              refine DT.o' (by kernel_rfl) (by kernel_rfl) rfl rfl fun Kc hKc => ?_
              refine JO.q rfl rfl (V.fa rfl fo109_3) (hKc _ _ _ (Hp.le_refl _) ?_)
              clear hKc Kc
              refine DT.o' (by kernel_rfl) (by kernel_rfl) rfl rfl fun Kc hKc => ?_
              refine JO.st (i := 6) (l := 5) rfl rfl rfl sz3 rfl (by kernel_rfl) (hKc _ _ _ (Hp.le_refl _) ?_)
              clear hKc Kc
              refine DT.nil' (by kernel_rfl) ?_
              refine Po.then ?_
              refine C.seq ?_
              refine C.drawM [8] [0, 1, 2, 3, 4, 5, 6, 7] mixed (by kernel_rfl) (by kernel_rfl) ?_
              refine DE.q rfl rfl rfl rfl (V.mv rfl) ?_
              refine DE.q rfl rfl rfl rfl (V.nc rfl) ?_
              refine DE.q rfl rfl rfl rfl (V.fa rfl fo108_0) ?_
              refine DE.q rfl rfl rfl rfl (V.ldS (i := 0) 101 rfl rfl sc106 rfl rfl rfl) ?_
              refine DE.q rfl rfl rfl rfl (V.fa rfl fo150_0) ?_
              refine DE.q rfl rfl rfl rfl (V.ldS (i := 0) 3 rfl rfl sc3 rfl rfl rfl) ?_
              refine DE.q rfl rfl rfl rfl (V.to (V.ldW 5 rfl rfl ag109 (by kernel_rfl)) (show _ = ag ((fwdR rs f.amount).lv (.slice ark (hkR rs.par.keys).length crk) (.slice aro (rws OutD.lv rs.cert.outs).length cro) (.slice arg (rws SignedD.lv rs.cert.sigs).length crg) (.slice aru (intR rs.used).length cru)) from rfl)) ?_
              refine DE.q rfl rfl rfl rfl (V.ofO (l := 102) rfl fun _ hRS => V.iaR rfl hRS rfl sl106 (by rw [recsR_length]; omega)) ?_
              refine DE.nil ?_
              refine DT.o (by kernel_rfl) (MSub.refl) rfl rfl fun Kc hKc => ?_
              refine JO.stO (l := 102) rfl rfl rfl sz109 (by rw [recsR_length]; omega) (hKc _ _ _ (Hp.le_refl _) ?_)
              clear hKc Kc
              refine DT.nil' (by kernel_rfl) ?_
              refine Po.then ?_
              refine C.seq ?_
              refine C.reg ?_
              refine J.q rfl rfl rfl (V.as rfl) ?_
              refine J.nil ?_
              refine Po.then ?_
              refine C.ret ?_
              exact Po.end1 rfl rfl rfl fun W hI => ⟨_, _, rfl, ⟨l.set f.side.toNat (fwdV (RecV.mk rs (.slice ark _ crk) (.slice aro _ cro) (.slice arg _ crg) (.slice aru _ cru)) f.amount), by rw [he]; rfl, by rw [mapS_set, fwdS_at he (mapS_get hr)]; rfl, hG.set (fwdI hri (by omega) (by show rs.forwarded ≤ maxM - f.amount; unfold maxM; omega)), rfl⟩, (hI.sub (MSub.fold Rg.mk <| MSub.pull rfl <| MSub.pullE rfl (by exact congrArg _ (rws_set (f := RecV.lv) (x := fwdV (RecV.mk rs (.slice ark _ crk) (.slice aro _ cro) (.slice arg _ crg) (.slice aru _ cru)) f.amount))) <| MSub.drop <| MSub.drop <| MSub.refl))⟩
          · refine DO.o (rest := [8, 9, 12, 13]) (by decide) (by decide) rfl rfl fun Kc hKc => ?_
            refine JO.st (i := 5) (l := 5) rfl rfl rfl sz3 rfl (by kernel_rfl) (hKc _ _ _ (Hp.le_refl _) ?_)
            clear hKc Kc
            refine DT.o' (by kernel_rfl) (by kernel_rfl) rfl rfl fun Kc hKc => ?_
            refine JO.q rfl rfl (V.ldS (i := 3) 3 rfl rfl sc3 rfl rfl rfl) (hKc _ _ _ (Hp.le_refl _) ?_)
            clear hKc Kc
            refine DT.o' (by kernel_rfl) (by kernel_rfl) rfl rfl fun Kc hKc => ?_
            refine JO.q rfl rfl (V.add rfl rfl (by omega)) (hKc _ _ _ (Hp.le_refl _) ?_)
            clear hKc Kc
            refine DT.o' (by kernel_rfl) (by kernel_rfl) rfl rfl fun Kc hKc => ?_
            refine JO.q rfl rfl (V.fa rfl fo109_3) (hKc _ _ _ (Hp.le_refl _) ?_)
            clear hKc Kc
            refine DT.o' (by kernel_rfl) (by kernel_rfl) rfl rfl fun Kc hKc => ?_
            refine JO.st (i := 6) (l := 5) rfl rfl rfl sz3 rfl (by kernel_rfl) (hKc _ _ _ (Hp.le_refl _) ?_)
            clear hKc Kc
            refine DT.nil' (by kernel_rfl) ?_
            refine Po.then ?_
            refine C.seq ?_
            refine C.drawM [8] [0, 1, 2, 3, 4, 5, 6, 7] mixed (by kernel_rfl) (by kernel_rfl) ?_
            refine DE.q rfl rfl rfl rfl (V.mv rfl) ?_
            refine DE.q rfl rfl rfl rfl (V.nc rfl) ?_
            refine DE.q rfl rfl rfl rfl (V.fa rfl fo108_0) ?_
            refine DE.q rfl rfl rfl rfl (V.ldS (i := 0) 101 rfl rfl sc106 rfl rfl rfl) ?_
            refine DE.q rfl rfl rfl rfl (V.fa rfl fo150_0) ?_
            refine DE.q rfl rfl rfl rfl (V.ldS (i := 0) 3 rfl rfl sc3 rfl rfl rfl) ?_
            refine DE.q rfl rfl rfl rfl (V.to (V.ldW 5 rfl rfl ag109 (by kernel_rfl)) (show _ = ag ((fwdR rs f.amount).lv (.slice ark (hkR rs.par.keys).length crk) (.slice aro (rws OutD.lv rs.cert.outs).length cro) (.slice arg (rws SignedD.lv rs.cert.sigs).length crg) (.slice aru (intR rs.used).length cru)) from rfl)) ?_
            refine DE.q rfl rfl rfl rfl (V.ofO (l := 102) rfl fun _ hRS => V.iaR rfl hRS rfl sl106 (by rw [recsR_length]; omega)) ?_
            refine DE.nil ?_
            refine DT.o (by kernel_rfl) (MSub.refl) rfl rfl fun Kc hKc => ?_
            refine JO.stO (l := 102) rfl rfl rfl sz109 (by rw [recsR_length]; omega) (hKc _ _ _ (Hp.le_refl _) ?_)
            clear hKc Kc
            refine DT.nil' (by kernel_rfl) ?_
            refine Po.then ?_
            refine C.seq ?_
            refine C.reg ?_
            refine J.q rfl rfl rfl (V.as rfl) ?_
            refine J.nil ?_
            refine Po.then ?_
            refine C.ret ?_
            exact Po.end1 rfl rfl rfl fun W hI => ⟨_, _, rfl, ⟨l.set f.side.toNat (fwdV (RecV.mk rs (.slice ark _ crk) (.slice aro _ cro) (.slice arg _ crg) (.slice aru _ cru)) f.amount), by rw [he]; rfl, by rw [mapS_set, fwdS_at he (mapS_get hr)]; rfl, hG.set (fwdI hri (by omega) (by show rs.forwarded ≤ maxM - f.amount; unfold maxM; omega)), rfl⟩, (hI.sub (MSub.fold Rg.mk <| MSub.pull rfl <| MSub.pullE rfl (by exact congrArg _ (rws_set (f := RecV.lv) (x := fwdV (RecV.mk rs (.slice ark _ crk) (.slice aro _ cro) (.slice arg _ crg) (.slice aru _ cru)) f.amount))) <| MSub.drop <| MSub.drop <| MSub.refl))⟩
        · refine DO.o (rest := [7, 8, 9, 12, 13]) (by decide) (by decide) rfl rfl fun Kc hKc => ?_
          refine JO.st (i := 5) (l := 5) rfl rfl rfl sz3 rfl (by kernel_rfl) (hKc _ _ _ (Hp.le_refl _) ?_)
          clear hKc Kc
          refine DT.o' (by kernel_rfl) (by kernel_rfl) rfl rfl fun Kc hKc => ?_
          refine JO.q rfl rfl (V.fa rfl fo150_3) (hKc _ _ _ (Hp.le_refl _) ?_)
          clear hKc Kc
          refine DT.o' (by kernel_rfl) (by kernel_rfl) rfl rfl fun Kc hKc => ?_
          refine JO.q rfl rfl (V.ldS (i := 3) 3 rfl rfl sc3 rfl rfl rfl) (hKc _ _ _ (Hp.le_refl _) ?_)
          clear hKc Kc
          refine DT.o' (by kernel_rfl) (by kernel_rfl) rfl rfl fun Kc hKc => ?_
          refine JO.q rfl rfl (V.add rfl rfl (by omega)) (hKc _ _ _ (Hp.le_refl _) ?_)
          clear hKc Kc
          refine DT.o' (by kernel_rfl) (by kernel_rfl) rfl rfl fun Kc hKc => ?_
          refine JO.q rfl rfl (V.fa rfl fo109_3) (hKc _ _ _ (Hp.le_refl _) ?_)
          clear hKc Kc
          refine DT.o' (by kernel_rfl) (by kernel_rfl) rfl rfl fun Kc hKc => ?_
          refine JO.st (i := 6) (l := 5) rfl rfl rfl sz3 rfl (by kernel_rfl) (hKc _ _ _ (Hp.le_refl _) ?_)
          clear hKc Kc
          refine DT.nil' (by kernel_rfl) ?_
          refine Po.then ?_
          refine C.seq ?_
          refine C.drawM [8] [0, 1, 2, 3, 4, 5, 6, 7] mixed (by kernel_rfl) (by kernel_rfl) ?_
          refine DE.q rfl rfl rfl rfl (V.mv rfl) ?_
          refine DE.q rfl rfl rfl rfl (V.nc rfl) ?_
          refine DE.q rfl rfl rfl rfl (V.fa rfl fo108_0) ?_
          refine DE.q rfl rfl rfl rfl (V.ldS (i := 0) 101 rfl rfl sc106 rfl rfl rfl) ?_
          refine DE.q rfl rfl rfl rfl (V.fa rfl fo150_0) ?_
          refine DE.q rfl rfl rfl rfl (V.ldS (i := 0) 3 rfl rfl sc3 rfl rfl rfl) ?_
          refine DE.q rfl rfl rfl rfl (V.to (V.ldW 5 rfl rfl ag109 (by kernel_rfl)) (show _ = ag ((fwdR rs f.amount).lv (.slice ark (hkR rs.par.keys).length crk) (.slice aro (rws OutD.lv rs.cert.outs).length cro) (.slice arg (rws SignedD.lv rs.cert.sigs).length crg) (.slice aru (intR rs.used).length cru)) from rfl)) ?_
          refine DE.q rfl rfl rfl rfl (V.ofO (l := 102) rfl fun _ hRS => V.iaR rfl hRS rfl sl106 (by rw [recsR_length]; omega)) ?_
          refine DE.nil ?_
          refine DT.o (by kernel_rfl) (MSub.refl) rfl rfl fun Kc hKc => ?_
          refine JO.stO (l := 102) rfl rfl rfl sz109 (by rw [recsR_length]; omega) (hKc _ _ _ (Hp.le_refl _) ?_)
          clear hKc Kc
          refine DT.nil' (by kernel_rfl) ?_
          refine Po.then ?_
          refine C.seq ?_
          refine C.reg ?_
          refine J.q rfl rfl rfl (V.as rfl) ?_
          refine J.nil ?_
          refine Po.then ?_
          refine C.ret ?_
          exact Po.end1 rfl rfl rfl fun W hI => ⟨_, _, rfl, ⟨l.set f.side.toNat (fwdV (RecV.mk rs (.slice ark _ crk) (.slice aro _ cro) (.slice arg _ crg) (.slice aru _ cru)) f.amount), by rw [he]; rfl, by rw [mapS_set, fwdS_at he (mapS_get hr)]; rfl, hG.set (fwdI hri (by omega) (by show rs.forwarded ≤ maxM - f.amount; unfold maxM; omega)), rfl⟩, (hI.sub (MSub.fold Rg.mk <| MSub.pull rfl <| MSub.pullE rfl (by exact congrArg _ (rws_set (f := RecV.lv) (x := fwdV (RecV.mk rs (.slice ark _ crk) (.slice aro _ cro) (.slice arg _ crg) (.slice aru _ cru)) f.amount))) <| MSub.drop <| MSub.drop <| MSub.refl))⟩
end Go.Proofs
