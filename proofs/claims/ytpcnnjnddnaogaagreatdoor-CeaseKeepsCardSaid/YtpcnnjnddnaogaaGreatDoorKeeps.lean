import Derived.Test.YtpcnnjnddnaogaaGreatDoorNot
import Derived.Test.YtpcnnjnddnaogaaGreatDoorEg
import Derived.Test.YtpcnnjnddnaogaaGreatDoorProg
import Derived.Test.YtpcnnjnddnaogaaGreatDoorRow
import Derived.Test.YtpcnnjnddnaogaaGreatDoorEf
import Derived.Test.YtpcnnjnddnaogaaGreatDoorRows
import Derived.Test.YtpcnnjnddnaogaaGreatDoorTie
import Derived.Test.YtpcnnjnddnaogaaGreatDoorCards
import Derived.SevenTiedAt
import Derived.Stop.Joined
import Derived.JoinedOf
set_option linter.unusedVariables false
set_option linter.unusedSimpArgs false
set_option linter.unusedSectionVars false
set_option linter.unnecessarySimpa false
set_option exponentiation.threshold 1000
namespace Go.Proofs
open Go Go.Sx Go.Db
set_option maxRecDepth 100000


theorem claimAny_fn (va vm : Value) (at_ am : List UInt16) (i b : Nat) (hi : i ≤ 1000000) (w0 : World) (ro : Hp) (M : Res) (hAt : RS ro va 1 (u16R at_)) (hAm : RS ro vm 1 (u16R am)) (hF : fairP at_ am) : Sx.Fn Tryz.prog 17 #[ag [(1, va), (1, vm)], .int .i64 (i : Int), .int .u8 (b : Int)] w0 ro M (fun u M1 => ∃ c : ClaimD, u = ag ((clTx c).lv txvN) ∧ M1 = M) := by
  obtain ⟨aA, cA, rfl, _⟩ := hAt.shape
  obtain ⟨aM, cM, rfl, _⟩ := hAm.shape
  obtain ⟨nA, hnA, hnl⟩ := claim0_acc at_ am i
  refine Sx.Fn.enter Tryz.func17 rfl rfl ?_
  refine C.seq ?_
  refine C.reg ?_
  refine J.one rfl (JO.boxS (l := 3) rfl rfl fun b3 => ?_)
  refine J.one rfl (JO.alloc (l := 6) rfl zr48 fun b6 => ?_)
  refine J.nil ?_
  refine Po.then ?_
  refine C.seq ?_
  refine C.reg ?_
  refine J.q rfl rfl rfl (V.bld rfl zr46 pl46 (Put.nil)) ?_
  refine J.one rfl (JO.alloc (l := 7) rfl zr46 fun b7 => ?_)
  refine J.one rfl (JO.stS (l := 7) rfl rfl rfl sz46 (by kernel_rfl) (by kernel_rfl) ?_)
  refine J.nil ?_
  refine Po.then ?_
  refine C.cut (fun (y : Unit) => [(6, .pointer (some ⟨b6, 0, none⟩)), (7, .pointer (some ⟨b7, 0, none⟩)), (2, .int .u8 (b : Int))]) (fun (y : Unit) => (7, St b7 (claim0 at_ am i).lv 46) :: (6, St b6 (TxD.zero.lv txvN) 48) :: M) ?_ fun y => ?_
  · refine C.seq ?_
    refine C.reg ?_
    refine J.q rfl rfl rfl (V.mv rfl) ?_
    refine J.q rfl rfl rfl (V.fa rfl fo24_0) ?_
    refine J.q rfl rfl rfl (V.ldS (i := 0) 3 rfl rfl sc22 rfl rfl rfl) ?_
    refine J.q rfl rfl rfl (V.to (V.lenR rfl hAt Tryz.underlying22) (by rw [u16R_length])) ?_
    refine J.q rfl rfl rfl (V.lss rfl rfl) ?_
    refine J.nil ?_
    refine Po.then ?_
    refine C.ifd rfl (fun h13 => ?_) (fun h13 => ?_)
    · have hk : i < at_.length := by omega
      have hx : at_[i]? = some (at_.getD i 0) := getD_some hk
      have hc : (claim0 at_ am i) = ⟨0, ((at_.getD i 0).toNat : Int), acState am i, proofV (acTree at_ am) (at_.getD i 0).toNat⟩ := if_pos hk
      refine C.seq ?_
      refine C.draw [10, 12] [0, 1, 2, 3, 4, 5, 6, 7, 8, 9, 11] [(3, St b3 [(1, .slice aA (u16R at_).length cA), (1, .slice aM (u16R am).length cM)] 24)] mixed (by kernel_rfl) (by kernel_rfl) ?_
      refine DE.q rfl rfl rfl rfl (V.fa rfl fo24_0) ?_
      refine DE.q rfl rfl rfl rfl (V.ldS (i := 0) 3 rfl rfl sc22 rfl rfl rfl) ?_
      refine DE.q rfl rfl rfl rfl (V.mv rfl) ?_
      refine DE.q rfl rfl rfl rfl (V.iaR rfl hAt rfl sl22 (by rw [u16R_length]; omega)) ?_
      refine DE.q rfl rfl rfl rfl (V.ldRs rfl hAt (u16R_get hx) sc25) ?_
      refine DE.q rfl rfl rfl rfl (V.to (V.cv rfl Tryz.underlying25 Tryz.underlying3) (u16_int _)) ?_
      refine DE.q rfl rfl rfl rfl (V.ldW 3 rfl rfl ag24 rfl) ?_
      refine DE.q rfl rfl rfl rfl (V.mv rfl) ?_
      refine DE.call rfl rfl rfl rfl tx15 rfl (fun N hN => State_pu _ _ at_ am _ (by have := hF.1.2.1; omega) hF.1.2.2 _ _ _ hAt hAm) ?_
      refine DE.q rfl rfl rfl rfl (V.fa rfl fo46_1) ?_
      refine DE.q rfl rfl rfl rfl (V.fa rfl fo46_2) ?_
      refine DE.nil ?_
      refine DT.o (by kernel_rfl) (MSub.pull rfl <| MSub.nil) rfl rfl fun Kc hKc => ?_
      refine JO.st (i := 1) (l := 7) rfl rfl rfl sz3 rfl rfl (hKc _ _ _ (Hp.le_refl _) ?_)
      clear hKc Kc
      refine DT.o (by kernel_rfl) (MSub.pull rfl <| MSub.nil) rfl rfl fun Kc hKc => ?_
      refine JO.stP (i := 2) (k := 3) (l := 7) rfl rfl rfl sz31 (by kernel_rfl) (by kernel_rfl) (by kernel_rfl) (hKc _ _ _ (Hp.le_refl _) ?_)
      clear hKc Kc
      refine DT.nil' (by kernel_rfl) ?_
      refine Po.then ?_
      refine C.draw [1, 4, 5, 6, 7, 9] [0, 2, 3, 8] [(3, St b3 [(1, .slice aA (u16R at_).length cA), (1, .slice aM (u16R am).length cM)] 24), (7, St b7 (ClaimD.lv ⟨0, ((at_.getD i 0).toNat : Int), acState am i, z16⟩) 46)] mixed (by kernel_rfl) (by kernel_rfl) ?_
      refine DE.q rfl rfl rfl rfl (V.ldW 3 rfl rfl ag24 rfl) ?_
      refine DE.q rfl rfl rfl rfl (V.fa rfl fo46_1) ?_
      refine DE.q rfl rfl rfl rfl (V.ldS (i := 1) 7 rfl rfl sc3 rfl rfl rfl) ?_
      refine DE.q rfl rfl rfl rfl (V.fa rfl fo46_3) ?_
      refine DE.nil ?_
      refine DT.o (by kernel_rfl) (MSub.pull rfl <| MSub.pull rfl <| MSub.nil) rfl rfl fun Kc hKc => ?_
      refine JO.call rfl tx46 rfl (Tree_fn _ _ at_ am hF.1.1 hF.1.2.1 hF.1.2.2 _ _ _ hAt hAm) ?_
      rintro _ _ ⟨b27, x27, y27, rfl, rfl⟩
      refine hKc _ _ _ (Hp.le_refl _) ?_
      clear hKc Kc
      refine DT.o (by kernel_rfl) (MSub.pull rfl <| MSub.pull rfl <| MSub.nil) rfl rfl fun Kc hKc => ?_
      refine JO.callP rfl tx47 rfl (Pu.lend (l := 105) rfl fun k105 hA105 hl105 hr105 => Pu.lend (l := 115) rfl fun k115 hA115 hl115 hr115 => Pu.lend (l := 125) rfl fun k125 hA125 hl125 hr125 => proveV_pu _ _ _ (acTree at_ am) (at_.getD i 0).toNat (UInt16.toNat_lt _) _ _ _ (((Bx.of hA105 hr105).mono hl115).mono hl125) ((hA115.rs hr115).mono hl125) (hA125.rs hr125) (acTree_sm hF.1.1)) (hKc _ _ _ (Hp.le_refl _) ?_)
      clear hKc Kc
      refine DT.o (by kernel_rfl) (MSub.pull rfl <| MSub.pull rfl <| MSub.nil) rfl rfl fun Kc hKc => ?_
      refine JO.q rfl rfl (V.mv rfl) (hKc _ _ _ (Hp.le_refl _) ?_)
      clear hKc Kc
      refine DT.o2 (i := 6) (j := 7) (by kernel_rfl) (by decide) (MSub.pull rfl <| MSub.pull rfl <| MSub.nil) ?_ ?_
      · refine DO.o (rest := [7, 9]) (by decide) (by decide) rfl rfl fun Kc hKc => ?_
        refine JO.q rfl rfl (V.ex rfl rfl) (hKc _ _ _ (Hp.le_refl _) ?_)
        clear hKc Kc
        refine DT.o2 (i := 7) (j := 9) (by kernel_rfl) (by decide) (MSub.pull rfl <| MSub.pull rfl <| MSub.nil) ?_ ?_
        · refine DO.o (rest := [9]) (by decide) (by decide) rfl rfl fun Kc hKc => ?_
          refine JO.q rfl rfl (V.ex rfl rfl) (hKc _ _ _ (Hp.le_refl _) ?_)
          clear hKc Kc
          refine DT.o (by kernel_rfl) (MSub.pull rfl <| MSub.pull rfl <| MSub.nil) rfl rfl fun Kc hKc => ?_
          refine JO.st (i := 5) (l := 7) rfl rfl rfl sz44 rfl (by kernel_rfl) (hKc _ _ _ (Hp.le_refl _) ?_)
          clear hKc Kc
          refine DT.nil' (by kernel_rfl) ?_
          exact Po.cut () (Sub.cons rfl <| Sub.cons rfl <| Sub.cons rfl <| Sub.nil) (MSub.pullE rfl (by rw [hc]; rfl) <| MSub.pullE rfl (by rfl) <| MSub.drop <| MSub.drop <| MSub.drop <| MSub.drop <| MSub.refl)
        · refine DO.o (rest := [7]) (by decide) (by decide) rfl rfl fun Kc hKc => ?_
          refine JO.st (i := 5) (l := 7) rfl rfl rfl sz44 rfl (by kernel_rfl) (hKc _ _ _ (Hp.le_refl _) ?_)
          clear hKc Kc
          refine DT.o' (by kernel_rfl) (by kernel_rfl) rfl rfl fun Kc hKc => ?_
          refine JO.q rfl rfl (V.ex rfl rfl) (hKc _ _ _ (Hp.le_refl _) ?_)
          clear hKc Kc
          refine DT.nil' (by kernel_rfl) ?_
          exact Po.cut () (Sub.cons rfl <| Sub.cons rfl <| Sub.cons rfl <| Sub.nil) (MSub.pullE rfl (by rw [hc]; rfl) <| MSub.pullE rfl (by rfl) <| MSub.drop <| MSub.drop <| MSub.drop <| MSub.drop <| MSub.refl)
      · refine DO.o (rest := [6, 9]) (by decide) (by decide) rfl rfl fun Kc hKc => ?_
        refine JO.q rfl rfl (V.ex rfl rfl) (hKc _ _ _ (Hp.le_refl _) ?_)
        clear hKc Kc
        refine DT.o (by kernel_rfl) (MSub.pull rfl <| MSub.pull rfl <| MSub.nil) rfl rfl fun Kc hKc => ?_
        refine JO.q rfl rfl (V.ex rfl rfl) (hKc _ _ _ (Hp.le_refl _) ?_)
        clear hKc Kc
        refine DT.o (by kernel_rfl) (MSub.pull rfl <| MSub.pull rfl <| MSub.nil) rfl rfl fun Kc hKc => ?_
        refine JO.st (i := 5) (l := 7) rfl rfl rfl sz44 rfl (by kernel_rfl) (hKc _ _ _ (Hp.le_refl _) ?_)
        clear hKc Kc
        refine DT.nil' (by kernel_rfl) ?_
        exact Po.cut () (Sub.cons rfl <| Sub.cons rfl <| Sub.cons rfl <| Sub.nil) (MSub.pullE rfl (by rw [hc]; rfl) <| MSub.pullE rfl (by rfl) <| MSub.drop <| MSub.drop <| MSub.drop <| MSub.drop <| MSub.refl)
    · have hc : (claim0 at_ am i) = ClaimD.zero := if_neg (by omega)
      refine C.skip ?_
      exact Po.cut () (Sub.cons rfl <| Sub.cons rfl <| Sub.cons rfl <| Sub.nil) (MSub.pullE rfl (by rw [hc]; rfl) <| MSub.pullE rfl (by rfl) <| MSub.drop <| MSub.refl)
  refine C.cut (fun (y : ClaimD) => [(6, .pointer (some ⟨b6, 0, none⟩)), (7, .pointer (some ⟨b7, 0, none⟩))]) (fun (y : ClaimD) => (7, St b7 y.lv 46) :: (6, St b6 (TxD.zero.lv txvN) 48) :: M) ?_ fun y => ?_
  · refine C.seq ?_
    refine C.reg ?_
    refine J.q rfl rfl rfl (V.mv rfl) ?_
    refine J.nil ?_
    refine Po.then ?_
    refine C.block ?_
    refine C.seq ?_
    refine C.reg ?_
    refine J.q rfl rfl rfl (V.eql rfl rfl) ?_
    refine J.q rfl rfl rfl (V.as rfl) ?_
    refine J.nil ?_
    refine Po.then ?_
    refine C.ifd rfl (fun h35 => ?_) (fun h35 => ?_)
    · refine C.reg ?_
      refine J.q rfl rfl rfl (V.fa rfl fo46_2) ?_
      refine J.q rfl rfl rfl (V.fa rfl fo31_1) ?_
      refine J.q rfl rfl rfl (V.ldS (i := 3) 7 rfl rfl sc3 rfl rfl rfl) ?_
      refine J.q rfl rfl rfl (V.addW rfl rfl) ?_
      refine J.q rfl rfl rfl (V.fa rfl fo46_2) ?_
      refine J.q rfl rfl rfl (V.fa rfl fo31_1) ?_
      refine J.one rfl (JO.st (i := 3) (l := 7) rfl rfl rfl sz3 rfl rfl ?_)
      refine J.nil ?_
      refine Po.blkN ?_
      exact Po.cut (bendAm (claim0 at_ am i) (IntKind.i64.wrap ((claim0 at_ am i).state.amount + 1))) (Sub.cons rfl <| Sub.cons rfl <| Sub.nil) (MSub.pullE rfl (by rfl) <| MSub.pullE rfl (by rfl) <| MSub.refl)
    · refine C.seq ?_
      refine C.reg ?_
      refine J.q rfl rfl rfl (V.eql rfl rfl) ?_
      refine J.q rfl rfl rfl (V.as rfl) ?_
      refine J.nil ?_
      refine Po.then ?_
      refine C.ifd rfl (fun h43 => ?_) (fun h43 => ?_)
      · refine C.reg ?_
        refine J.q rfl rfl rfl (V.fa rfl fo46_1) ?_
        refine J.q rfl rfl rfl (V.to (V.ldS (i := 1) 7 rfl rfl sc3 rfl rfl rfl) (congrArg iv hnA)) ?_
        refine J.q rfl rfl rfl (V.xorI (b := 1) rfl rfl (by omega) (by decide)) ?_
        refine J.q rfl rfl rfl (V.fa rfl fo46_1) ?_
        refine J.one rfl (JO.st (i := 1) (l := 7) rfl rfl rfl sz3 rfl rfl ?_)
        refine J.nil ?_
        refine Po.blkN ?_
        exact Po.cut (bendAc (claim0 at_ am i) ((nA ^^^ 1 : Nat) : Int)) (Sub.cons rfl <| Sub.cons rfl <| Sub.nil) (MSub.pullE rfl (by rfl) <| MSub.pullE rfl (by rfl) <| MSub.refl)
      · refine C.seq ?_
        refine C.reg ?_
        refine J.q rfl rfl rfl (V.eql rfl rfl) ?_
        refine J.q rfl rfl rfl (V.as rfl) ?_
        refine J.nil ?_
        refine Po.then ?_
        refine C.ifd rfl (fun h49 => ?_) (fun h49 => ?_)
        · refine C.reg ?_
          refine J.q rfl rfl rfl (V.fa rfl fo46_3) ?_
          refine J.q rfl rfl rfl (V.iaA rfl rfl ar44 (by decide)) ?_
          refine J.q rfl rfl rfl (V.iaA rfl rfl ar29 (by decide)) ?_
          refine J.q rfl rfl rfl (V.ldC (l := 7) rfl rfl sc5 (claim_prf _)) ?_
          refine J.q rfl rfl rfl (V.to (V.xorB (b := 1) rfl rfl (by have := UInt8.toNat_lt (((claim0 at_ am i).proof.toList.getD 3 h0).toList.getD 0 0); omega) (by decide)) (xor_byte _)) ?_
          refine J.q rfl rfl rfl (V.fa rfl fo46_3) ?_
          refine J.q rfl rfl rfl (V.iaA rfl rfl ar44 (by decide)) ?_
          refine J.q rfl rfl rfl (V.iaA rfl rfl ar29 (by decide)) ?_
          refine J.one rfl (JO.stC (l := 7) (ClaimD.lv ((bendQ (claim0 at_ am i) (((claim0 at_ am i).proof.toList.getD 3 h0).toList.getD 0 0 ^^^ 1)))) rfl rfl rfl sz5 rfl rfl (of_decide_eq_true (by kernel_rfl)) (claim_setQ _ _) (claim_wl _) ?_)
          refine J.nil ?_
          refine Po.blkN ?_
          exact Po.cut (bendQ (claim0 at_ am i) (((claim0 at_ am i).proof.toList.getD 3 h0).toList.getD 0 0 ^^^ 1)) (Sub.cons rfl <| Sub.cons rfl <| Sub.nil) (MSub.pullE rfl (by rfl) <| MSub.pullE rfl (by rfl) <| MSub.refl)
        · refine C.seq ?_
          refine C.reg ?_
          refine J.q rfl rfl rfl (V.eql rfl rfl) ?_
          refine J.q rfl rfl rfl (V.as rfl) ?_
          refine J.nil ?_
          refine Po.then ?_
          refine C.ifd rfl (fun h59 => ?_) (fun h59 => ?_)
          · refine C.reg ?_
            refine J.q rfl rfl rfl (V.fa rfl fo46_2) ?_
            refine J.q rfl rfl rfl (V.fa rfl fo31_0) ?_
            refine J.q rfl rfl rfl (V.iaA rfl rfl ar29 (by decide)) ?_
            refine J.q rfl rfl rfl (V.ldC (l := 7) rfl rfl sc5 (claim_own _)) ?_
            refine J.q rfl rfl rfl (V.to (V.xorB (b := 1) rfl rfl (by have := UInt8.toNat_lt ((claim0 at_ am i).state.owner.toList.getD 2 0); omega) (by decide)) (xor_byte _)) ?_
            refine J.q rfl rfl rfl (V.fa rfl fo46_2) ?_
            refine J.q rfl rfl rfl (V.fa rfl fo31_0) ?_
            refine J.q rfl rfl rfl (V.iaA rfl rfl ar29 (by decide)) ?_
            refine J.one rfl (JO.stC (l := 7) (ClaimD.lv ((bendO (claim0 at_ am i) ((claim0 at_ am i).state.owner.toList.getD 2 0 ^^^ 1)))) rfl rfl rfl sz5 rfl rfl (of_decide_eq_true (by kernel_rfl)) (claim_setO _ _) (claim_wl _) ?_)
            refine J.nil ?_
            refine Po.blkN ?_
            exact Po.cut (bendO (claim0 at_ am i) ((claim0 at_ am i).state.owner.toList.getD 2 0 ^^^ 1)) (Sub.cons rfl <| Sub.cons rfl <| Sub.nil) (MSub.pullE rfl (by rfl) <| MSub.pullE rfl (by rfl) <| MSub.refl)
          · refine C.seq ?_
            refine C.reg ?_
            refine J.q rfl rfl rfl (V.eql rfl rfl) ?_
            refine J.q rfl rfl rfl (V.as rfl) ?_
            refine J.nil ?_
            refine Po.then ?_
            refine C.ifd rfl (fun h69 => ?_) (fun h69 => ?_)
            · refine C.reg ?_
              refine J.q rfl rfl rfl (V.fa rfl fo46_2) ?_
              refine J.q rfl rfl rfl (V.fa rfl fo31_2) ?_
              refine J.q rfl rfl rfl (V.ldS (i := 4) 7 rfl rfl sc3 rfl rfl rfl) ?_
              refine J.q rfl rfl rfl (V.addW rfl rfl) ?_
              refine J.q rfl rfl rfl (V.fa rfl fo46_2) ?_
              refine J.q rfl rfl rfl (V.fa rfl fo31_2) ?_
              refine J.one rfl (JO.st (i := 4) (l := 7) rfl rfl rfl sz3 rfl rfl ?_)
              refine J.nil ?_
              refine Po.blkN ?_
              exact Po.cut (bendNo (claim0 at_ am i) (IntKind.i64.wrap ((claim0 at_ am i).state.nonce + 1))) (Sub.cons rfl <| Sub.cons rfl <| Sub.nil) (MSub.pullE rfl (by rfl) <| MSub.pullE rfl (by rfl) <| MSub.refl)
            · refine C.skip ?_
              refine Po.blkN ?_
              exact Po.cut (claim0 at_ am i) (Sub.cons rfl <| Sub.cons rfl <| Sub.nil) (MSub.pullE rfl (by rfl) <| MSub.pullE rfl (by rfl) <| MSub.refl)
  refine C.seq ?_
  refine C.reg ?_
  refine J.q rfl rfl rfl (V.to (V.ldW 7 rfl rfl ag46 (by kernel_rfl)) (show _ = ag y.lv from rfl)) ?_
  refine J.q rfl rfl rfl (V.to (V.bld rfl zr48 pl48 (Put.one (i := 0) rfl rfl rfl <| Put.ags (i := 16) (k := 6) rfl rfl rfl rfl <| Put.nil)) (show _ = ag ((clTx y).lv txvN) from rfl)) ?_
  refine J.one rfl (JO.stS (l := 6) rfl rfl rfl sz48 (by kernel_rfl) (by kernel_rfl) ?_)
  refine J.nil ?_
  refine Po.then ?_
  refine C.ret ?_
  exact Po.end1 rfl rfl (RV.cS (l := 6) rfl rfl ag48 (by kernel_rfl)) fun W hI => ⟨_, _, rfl, ⟨_, rfl, rfl⟩, (hI.sub (MSub.drop <| MSub.drop <| MSub.refl))⟩

theorem totalR_pu (b r : Nat) (vs : Value) (t : Int) (w0 : World) (ro : Hp) (M : Res) (hB : Bx ro b [(1, .map (some r)), (1, vs), (1, iv t)] 131) : Pu Tryz.prog 23 #[.pointer (some ⟨b, 0, none⟩)] w0 ro M (iv t) := by
  refine Pu.enter Tryz.func23 rfl rfl ?_
  refine C.seq ?_
  refine C.reg ?_
  refine J.q rfl rfl rfl (V.as rfl) ?_
  refine J.nil ?_
  refine Po.then ?_
  refine C.seq ?_
  refine C.seq ?_
  refine C.reg ?_
  refine J.q rfl rfl rfl (V.mv rfl) ?_
  refine J.q rfl rfl rfl (V.ptrEq rfl Tryz.underlying54) ?_
  refine J.nil ?_
  refine Po.then ?_
  refine C.no rfl ?_
  refine C.skip ?_
  refine Po.then ?_
  refine C.seq ?_
  refine C.reg ?_
  refine J.q rfl rfl rfl (V.mv rfl) ?_
  refine J.q rfl rfl rfl (V.nc rfl) ?_
  refine J.q rfl rfl rfl (V.fa rfl fo131_2) ?_
  refine J.q rfl rfl rfl (V.rldS (i := 2) hB rfl sc3 rfl rfl rfl) ?_
  refine J.q rfl rfl rfl (V.as rfl) ?_
  refine J.nil ?_
  refine Po.then ?_
  refine C.ret ?_
  exact Po.end1 rfl rfl rfl fun W hI => ⟨rfl, hI⟩

theorem lenR_pu (b r cl : Nat) (vs : Value) (t : Int) (es : Array MapEntry) (w0 : World) (ro : Hp) (M : Res) (hB : Bx ro b [(1, .map (some r)), (1, vs), (1, iv t)] 131) (hr : ro r = some (.map es cl)) : Pu Tryz.prog 25 #[.pointer (some ⟨b, 0, none⟩)] w0 ro M (iv es.size) := by
  refine Pu.enter Tryz.func25 rfl rfl ?_
  refine C.seq ?_
  refine C.reg ?_
  refine J.q rfl rfl rfl (V.as rfl) ?_
  refine J.nil ?_
  refine Po.then ?_
  refine C.seq ?_
  refine C.seq ?_
  refine C.reg ?_
  refine J.q rfl rfl rfl (V.mv rfl) ?_
  refine J.q rfl rfl rfl (V.ptrEq rfl Tryz.underlying54) ?_
  refine J.nil ?_
  refine Po.then ?_
  refine C.no rfl ?_
  refine C.skip ?_
  refine Po.then ?_
  refine C.seq ?_
  refine C.reg ?_
  refine J.q rfl rfl rfl (V.mv rfl) ?_
  refine J.q rfl rfl rfl (V.nc rfl) ?_
  refine J.q rfl rfl rfl (V.fa rfl fo131_0) ?_
  refine J.q rfl rfl rfl (V.rldS (i := 0) hB rfl sc128 rfl rfl rfl) ?_
  refine J.q rfl rfl rfl (V.lenMr rfl hr Tryz.underlying128) ?_
  refine J.q rfl rfl rfl (V.as rfl) ?_
  refine J.nil ?_
  refine Po.then ?_
  refine C.ret ?_
  exact Po.end1 rfl rfl rfl fun W hI => ⟨rfl, hI⟩

theorem utTotal_any (b : Nat) (u : UD) (w0 : World) (ro : Hp) {Mc R : Res} (hq : Sx.pull Mc 140 = some (Ut 131 236 b u, R)) (N : Res) (hN : MSub N Mc) : Pu Tryz.prog 23 #[.pointer (some ⟨b, 0, none⟩)] w0 ro N (iv u.total) := Pu.anyN (fun W hW => by
  obtain ⟨k, hk, hA⟩ := (hW.pull hq).get
  obtain ⟨r, v, hB, es, cl, hr, hes⟩ := Ut.ro hA hk
  exact totalR_pu b r v u.total W (hp W) [] hB) N hN

theorem utLen_any (b : Nat) (u : UD) (w0 : World) (ro : Hp) {Mc R : Res} (hq : Sx.pull Mc 140 = some (Ut 131 236 b u, R)) (N : Res) (hN : MSub N Mc) : Pu Tryz.prog 25 #[.pointer (some ⟨b, 0, none⟩)] w0 ro N (iv u.coins.length) := Pu.anyN (fun W hW => by
  obtain ⟨k, hk, hA⟩ := (hW.pull hq).get
  obtain ⟨r, v, hB, es, cl, hr, hes⟩ := Ut.ro hA hk
  rw [← hes]
  exact lenR_pu b r cl v u.total es W (hp W) [] hB hr) N hN
end Go.Proofs
namespace Go.Proofs
open Go Go.Sx Go.Db
set_option maxRecDepth 100000


theorem ceaseKeeps_pu (va vm : Value) (at_ am : List UInt16) (vl : Value) (ls : List UInt16) (hP : mayP (madeP 3 2)) (w0 : World) (ro : Hp) (M : Res) (hAt : RS ro va 1 (u16R at_)) (hAm : RS ro vm 1 (u16R am)) (hL : RS ro vl 1 (u16R ls)) (hZ : RoK ro) : Pu Tryz.prog 6 #[ag [(1, va), (1, vm)], vl] w0 ro M (.bool true) := by
  obtain ⟨aA, cA, rfl, _⟩ := hAt.shape
  obtain ⟨aM, cM, rfl, _⟩ := hAm.shape
  obtain ⟨aL, cL, rfl, _⟩ := hL.shape
  refine Pu.enter Tryz.func6 rfl rfl ?_
  have hle : Hp.le ro ro := Hp.le_refl _
  refine C.seq ?_
  refine C.reg ?_
  refine J.one rfl (JO.boxS (l := 2) rfl rfl fun b2 => ?_)
  refine J.q rfl rfl rfl (V.as rfl) ?_
  refine J.nil ?_
  refine Po.then ?_
  refine C.seq ?_
  refine C.seq ?_
  refine C.reg ?_
  refine J.callP rfl tx13 rfl (awake_pu hP _ _ _ hZ) ?_ 
  refine J.q rfl rfl rfl (V.no rfl) ?_
  refine J.nil ?_
  refine Po.then ?_
  refine C.no rfl ?_
  refine C.skip ?_
  refine Po.then ?_
  refine C.seq ?_
  refine C.seq ?_
  refine C.reg ?_
  refine J.q rfl rfl rfl (V.ldW 2 rfl rfl ag24 rfl) ?_
  refine J.callP rfl tx14 rfl (fair_pu _ _ at_ am _ _ _ hAt hAm) ?_ 
  refine J.q rfl rfl rfl (V.noD rfl) ?_
  refine J.mvB rfl rfl fun gb17 hgb17 => ?_
  refine J.gv rfl rfl rfl rfl rfl rfl (fun hg => by subst hg; exact V.mv rfl) ?_
  refine J.gv rfl rfl rfl rfl rfl rfl (fun hg => by subst hg; exact V.to (V.lenR rfl hL Tryz.underlying22) (by rw [u16R_length])) ?_
  refine J.gv rfl rfl rfl rfl rfl rfl (fun hg => by subst hg; exact V.gtr rfl rfl) ?_
  refine J.q rfl rfl rfl (V.or rfl rfl rfl) ?_
  refine J.nil ?_
  refine Po.then ?_
  refine C.ite rfl (fun h21 => ?_) (fun h21 => ?_)
  · subst hgb17
    try simp only [Bool.and_eq_true, Bool.or_eq_true, Bool.and_eq_false_iff, Bool.or_eq_false_iff, Bool.not_eq_true', Bool.not_eq_false', decide_eq_true_eq, decide_eq_false_iff_not] at h21
    refine C.seq ?_
    refine C.reg ?_
    refine J.q rfl rfl rfl (V.as rfl) ?_
    refine J.nil ?_
    refine Po.then ?_
    refine C.ret ?_
    refine Po.thenR ?_
    exact Po.end1 rfl rfl rfl fun W hI => ⟨rfl, (hI.drop).up hle⟩
  · subst hgb17
    try simp only [Bool.and_eq_true, Bool.or_eq_true, Bool.and_eq_false_iff, Bool.or_eq_false_iff, Bool.not_eq_true', Bool.not_eq_false', decide_eq_true_eq, decide_eq_false_iff_not] at h21
    have hF : fairP at_ am := by simp at h21; exact h21.1
    have hln : ls.length ≤ 12 := by simp at h21; omega
    obtain ⟨hfb, hfc, hfu, _, _⟩ := fillA_f (at_ := at_) (am := am) (m := 5000) (c := true) (by decide)
    refine C.skip ?_
    refine Po.then ?_
    refine C.seq ?_
    refine C.reg ?_
    refine J.q rfl rfl rfl (V.ldW 2 rfl rfl ag24 rfl) ?_
    refine J.callG rfl tx18 rfl (Fill_fg _ _ at_ am 5000 true _ _ _ hAt hAm hF hP) ?_ 
    rintro _ ro _ hl ⟨b0, r0, bq, rq, rfl, hr0, hrq, hG, hH, rfl⟩
    replace hZ := hZ.mono hl
    replace hAt := hAt.mono hl
    replace hAm := hAm.mono hl
    replace hL := hL.mono hl
    replace hle := Hp.le_trans hle hl
    have hK0 : KeepI r0.s UD.nil 0 := by
      rw [hr0]
      exact ⟨by rw [hfb, hfc]; rfl, hfc, by rw [hfu]; rfl, by rw [hfb]; decide, by rw [hfu]; exact Nat.le_refl _, Nat.le_refl _, UI.nil⟩
    refine J.q rfl rfl rfl (V.mv rfl) ?_
    refine J.q rfl rfl rfl (V.ex rfl rfl) ?_
    refine J.q rfl rfl rfl (V.ex rfl rfl) ?_
    refine J.q rfl rfl rfl (V.as rfl) ?_
    refine J.q rfl rfl rfl (V.as rfl) ?_
    refine J.nil ?_
    refine Po.then ?_
    refine C.seq ?_
    refine C.reg ?_
    refine J.call rfl tx19 rfl (utNew_fn _ _ _) ?_ 
    rintro _ _ ⟨b27, rfl, rfl⟩
    refine J.q rfl rfl rfl (V.as rfl) ?_
    refine J.nil ?_
    refine Po.then ?_
    refine C.seq ?_
    refine C.seq ?_
    refine C.reg ?_
    refine J.q rfl rfl rfl (V.mv rfl) ?_
    refine J.q rfl rfl rfl (V.ptrEq rfl Tryz.underlying50) ?_
    refine J.q rfl rfl rfl (V.to (V.mv rfl) (show _ = Value.bool false from rfl)) ?_
    refine J.dn rfl rfl rfl rfl rfl rfl (V.mv rfl) ?_
    refine J.dn rfl rfl rfl rfl rfl rfl (V.ptrEq rfl Tryz.underlying54) ?_
    refine J.q rfl rfl rfl (V.pk rfl rfl rfl) ?_
    refine J.nil ?_
    refine Po.then ?_
    refine C.no rfl ?_
    refine C.skip ?_
    refine Po.then ?_
    refine C.seq ?_
    refine C.seq ?_
    refine C.reg ?_
    refine J.q rfl rfl rfl (V.as rfl) ?_
    refine J.nil ?_
    refine Po.then ?_
    refine C.block ?_
    refine C.loopG (fun (ro : Hp) (x : Nat × RecV × UD) => x.1 ≤ ls.length ∧ KeepI x.2.1.s x.2.2 x.1 ∧ RegI ro [x.2.1]) (fun (x : Nat × RecV × UD) => [(8, .int .i64 (x.1 : Int)), (1, .slice aL (u16R ls).length cL), (5, .pointer (some ⟨b0, 0, none⟩)), (7, .pointer (some ⟨b27, 0, none⟩)), (2, .pointer (some ⟨b2, 0, none⟩))]) (fun (x : Nat × RecV × UD) => (110, Rg 139 68 b0 [x.2.1]) :: (140, Ut 131 236 b27 x.2.2) :: (2, St b2 [(1, .slice aA (u16R at_).length cA), (1, .slice aM (u16R am).length cM)] 24) :: M) (fun (x : Nat × RecV × UD) => ls.length - x.1) (0, r0, UD.nil) ⟨Nat.zero_le _, hK0, hG⟩ (Sub.cons rfl <| Sub.cons rfl <| Sub.cons rfl <| Sub.cons rfl <| Sub.cons rfl <| Sub.nil) (MSub.pull rfl <| MSub.pull rfl <| MSub.pull rfl <| MSub.drop <| MSub.refl) fun ro x hl hok => ?_
    replace hZ := hZ.mono hl
    replace hAt := hAt.mono hl
    replace hAm := hAm.mono hl
    replace hL := hL.mono hl
    replace hG := hG.mono hl
    replace hH := hH.mono hl
    replace hle := Hp.le_trans hle hl
    have hlr10 : Hp.le ro ro := Hp.le_refl _
    obtain ⟨k, r, u⟩ := x
    obtain ⟨hk, hK, hG⟩ := hok
    dsimp only at hk hK hG ⊢
    refine C.seq ?_
    refine C.seq ?_
    refine C.reg ?_
    refine J.q rfl rfl rfl (V.mv rfl) ?_
    refine J.q rfl rfl rfl (V.mv rfl) ?_
    refine J.q rfl rfl rfl (V.to (V.lenR rfl hL Tryz.underlying22) (by rw [u16R_length])) ?_
    refine J.q rfl rfl rfl (V.lss rfl rfl) ?_
    refine J.nil ?_
    refine Po.then ?_
    refine C.ifd rfl (fun h37 => ?_) (fun h37 => ?_)
    · have hk2 : k < ls.length := by omega
      obtain ⟨z, hz⟩ : ∃ z, ls[k]? = some z := ⟨_, List.getElem?_eq_getElem hk2⟩
      have hzl := UInt16.toNat_lt z
      refine C.skip ?_
      refine Po.then ?_
      refine C.seq ?_
      refine C.block ?_
      refine C.seq ?_
      refine C.draw [16, 18] [0, 1, 2, 3, 4, 5, 6, 7, 8, 9, 10, 11, 12, 13, 14, 15, 17] [(2, St b2 [(1, .slice aA (u16R at_).length cA), (1, .slice aM (u16R am).length cM)] 24)] mixed (by kernel_rfl) (by kernel_rfl) ?_
      refine DE.q rfl rfl rfl rfl (V.mv rfl) ?_
      refine DE.q rfl rfl rfl rfl (V.mv rfl) ?_
      refine DE.q rfl rfl rfl rfl (V.ldW 2 rfl rfl ag24 rfl) ?_
      refine DE.q rfl rfl rfl rfl (V.mv rfl) ?_
      refine DE.q rfl rfl rfl rfl (V.mv rfl) ?_
      refine DE.q rfl rfl rfl rfl (V.iaR rfl hL rfl sl22 (by rw [u16R_length]; omega)) ?_
      refine DE.q rfl rfl rfl rfl (V.ldRs rfl hL (u16R_get hz) sc25) ?_
      refine DE.q rfl rfl rfl rfl (V.to (V.cv rfl Tryz.underlying25 Tryz.underlying3) (u16_int _)) ?_
      refine DE.q rfl rfl rfl rfl (V.to (V.rem rfl rfl (by omega)) (show _ = Value.int .i64 ((z.toNat % 13 : Nat) : Int) by rw [Int.natCast_emod]; rfl)) ?_
      refine DE.q rfl rfl rfl rfl (V.mv rfl) ?_
      refine DE.q rfl rfl rfl rfl (V.mv rfl) ?_
      refine DE.q rfl rfl rfl rfl (V.iaR rfl hL rfl sl22 (by rw [u16R_length]; omega)) ?_
      refine DE.q rfl rfl rfl rfl (V.ldRs rfl hL (u16R_get hz) sc25) ?_
      refine DE.q rfl rfl rfl rfl (V.to (V.shr rfl rfl (by simp [IntKind.bits])) (u16_shr z)) ?_
      refine DE.q rfl rfl rfl rfl (V.to (V.cv rfl Tryz.underlying25 Tryz.underlying5) (u16_byte z)) ?_
      refine DE.q rfl rfl rfl rfl (V.to (V.rem rfl rfl (by omega)) (show _ = Value.int .u8 ((z.toNat / 256 % 8 : Nat) : Int) by rw [Int.natCast_emod (z.toNat / 256) 8]; rfl)) ?_
      refine DE.q rfl rfl rfl rfl (V.mv rfl) ?_
      refine DE.nil ?_
      refine DT.o (by kernel_rfl) (MSub.pull rfl <| MSub.nil) rfl rfl fun Kc hKc => ?_
      refine JO.call rfl tx17 rfl (claimAny_fn _ _ at_ am (z.toNat % 13) (z.toNat / 256 % 8) (by omega) _ _ _ hAt hAm hF) ?_
      rintro _ _ ⟨c56, rfl, rfl⟩
      refine hKc _ _ _ (Hp.le_refl _) ?_
      clear hKc Kc
      refine DT.o (by kernel_rfl) (MSub.pull rfl <| MSub.nil) rfl rfl fun Kc hKc => ?_
      refine JO.callG rfl tx20 rfl (Fg.at2 (l := 110) (k := 140) rfl rfl (tk_fg _ _ [r] u (clTx c56) txvN (k : Int) _ _ _ (show (5 : Int) ≠ 2 by decide) (clTx_rs _) (clTx_sm _) hZ hG (fun q hq => by obtain rfl := List.mem_singleton.1 hq; have := hK.uk; omega) hK.ui (by have := hK.sk; omega))) ?_
      rintro _ ro _ hl ⟨l58, rfl, hl58, hG, rfl⟩
      refine hKc _ _ _ hl ?_
      replace hZ := hZ.mono hl
      replace hAt := hAt.mono hl
      replace hAm := hAm.mono hl
      replace hL := hL.mono hl
      replace hH := hH.mono hl
      replace hle := Hp.le_trans hle hl
      replace hlr10 := Hp.le_trans hlr10 hl
      obtain ⟨x1, u1, hx1, hu1, hK1⟩ := keep_step hK c56 (k : Int)
      have hmr : [r].map (·.s) = [r.s] := rfl
      rw [hmr, hx1] at hl58
      rw [hmr, hu1]
      obtain ⟨r1, rfl, hr1⟩ := map_one hl58
      rw [← hr1] at hK1
      clear hKc Kc
      refine DT.nil' (by kernel_rfl) ?_
      refine Po.then ?_
      refine C.seq ?_
      refine C.reg ?_
      refine J.q rfl rfl rfl (V.mv rfl) ?_
      refine J.callG rfl tx22 rfl (Fg.at (l := 110) rfl (Side_at _ _ 0 r1 _ _ _ (by decide) rfl hG)) ?_ 
      rintro _ ro _ hl ⟨r61, rfl, hr61, hi61, rfl⟩
      replace hZ := hZ.mono hl
      replace hAt := hAt.mono hl
      replace hAm := hAm.mono hl
      replace hL := hL.mono hl
      replace hG := hG.mono hl
      replace hH := hH.mono hl
      replace hle := Hp.le_trans hle hl
      replace hlr10 := Hp.le_trans hlr10 hl
      obtain ⟨r61s, r61k, r61o, r61g, r61u⟩ := r61
      obtain rfl : r61s = r1.s := hr61
      obtain ⟨ar61k, cr61k, rfl, _⟩ := (show RS ro r61k 8 (hkR r1.s.par.keys) from hi61.rs.k).shape
      obtain ⟨ar61o, cr61o, rfl, _⟩ := (show RS ro r61o 9 (rws OutD.lv r1.s.cert.outs) from hi61.rs.o).shape
      obtain ⟨ar61g, cr61g, rfl, _⟩ := (show RS ro r61g 282 (rws SignedD.lv r1.s.cert.sigs) from hi61.rs.g).shape
      obtain ⟨ar61u, cr61u, rfl, _⟩ := (show RS ro r61u 1 (intR r1.s.used) from hi61.rs.u).shape
      have hul : r1.s.used.length ≤ 100 := by have := hK1.uk; omega
      have hsrt : r1.s.used.Pairwise (· < ·) := hi61.sm.srt
      have hUs : RS ro (.slice ar61u (intR r1.s.used).length cr61u) 1 (intR r1.s.used) := hi61.rs.u
      refine J.q rfl rfl rfl (V.mv rfl) ?_
      refine J.q rfl rfl rfl (V.ex rfl rfl) ?_
      refine J.q rfl rfl rfl (V.ex rfl rfl) ?_
      refine J.one rfl (JO.alloc (l := 9) rfl zr68 fun b9 => ?_)
      refine J.one rfl (JO.stS (l := 9) rfl rfl rfl sz68 (by kernel_rfl) (by kernel_rfl) ?_)
      refine J.q rfl rfl rfl (V.as rfl) ?_
      refine J.nil ?_
      refine Po.then ?_
      refine C.seq ?_
      refine C.seq ?_
      refine C.draw [] [0, 1, 2, 3, 4, 5, 6, 7, 8, 9, 10, 11, 12, 13, 14, 15, 16, 17, 18, 19, 20, 21, 22, 23, 24, 25, 26, 27, 28, 29] [(9, St b9 (r1.s.lv (.slice ar61k (hkR r1.s.par.keys).length cr61k) (.slice ar61o (rws OutD.lv r1.s.cert.outs).length cr61o) (.slice ar61g (rws SignedD.lv r1.s.cert.sigs).length cr61g) (.slice ar61u (intR r1.s.used).length cr61u)) 68), (140, Ut 131 236 b27 u1)] mixed (by kernel_rfl) (by kernel_rfl) ?_
      refine DE.q rfl rfl rfl rfl (V.mv rfl) ?_
      refine DE.q rfl rfl rfl rfl (V.no rfl) ?_
      refine DE.mvB rfl rfl rfl rfl rfl fun gb66 hgb66 => ?_
      refine DE.gv rfl rfl rfl rfl rfl rfl rfl (fun hg => by subst hg; exact V.fa rfl fo68_2) ?_
      refine DE.gv rfl rfl rfl rfl rfl rfl rfl (fun hg => by subst hg; exact V.ldS (i := 5) 9 rfl rfl sc3 rfl (by kernel_rfl) rfl) ?_
      refine DE.gv rfl rfl rfl rfl rfl rfl rfl (fun hg => by subst hg; exact V.fa rfl fo68_5) ?_
      refine DE.gv rfl rfl rfl rfl rfl rfl rfl (fun hg => by subst hg; exact V.ldS (i := 8) 9 rfl rfl sc3 rfl (by kernel_rfl) rfl) ?_
      refine DE.gv rfl rfl rfl rfl rfl rfl rfl (fun hg => by subst hg; exact V.add (a := r1.s.balance) (b := r1.s.claimed) rfl rfl (by have := hK1.sum; omega)) ?_
      refine DE.gv rfl rfl rfl rfl rfl rfl rfl (fun hg => by subst hg; exact V.to (V.neq rfl rfl) (show _ = Value.bool false from congrArg Value.bool (decide_eq_false (by have := hK1.sum; omega)))) ?_
      refine DE.q rfl rfl rfl rfl (V.or rfl rfl rfl) ?_
      refine DE.mvB rfl rfl rfl rfl rfl fun gb74 hgb74 => ?_
      refine DE.gv rfl rfl rfl rfl rfl rfl rfl (fun hg => by subst hg; exact V.fa rfl fo68_5) ?_
      refine DE.gv rfl rfl rfl rfl rfl rfl rfl (fun hg => by subst hg; exact V.ldS (i := 8) 9 rfl rfl sc3 rfl (by kernel_rfl) rfl) ?_
      refine DE.gv rfl rfl rfl rfl rfl rfl rfl (fun hg => by subst hg; exact V.mv rfl) ?_
      refine DE.gcv rfl rfl rfl rfl rfl rfl tx23 (fun hg => by subst hg; rfl) (fun hg N hN => by subst hg; exact utTotal_any _ _ _ _ rfl N hN) ?_
      refine DE.gv rfl rfl rfl rfl rfl rfl rfl (fun hg => by subst hg; exact V.to (V.neq rfl rfl) (show _ = Value.bool false from congrArg Value.bool (decide_eq_false (by have := hK1.cl; omega)))) ?_
      refine DE.q rfl rfl rfl rfl (V.or rfl rfl rfl) ?_
      refine DE.mvB rfl rfl rfl rfl rfl fun gb81 hgb81 => ?_
      refine DE.gv rfl rfl rfl rfl rfl rfl rfl (fun hg => by subst hg; exact V.fa rfl fo68_11) ?_
      refine DE.gv rfl rfl rfl rfl rfl rfl rfl (fun hg => by subst hg; exact V.ldS (i := 20) 9 rfl rfl sc66 rfl (by kernel_rfl) rfl) ?_
      refine DE.gv rfl rfl rfl rfl rfl rfl rfl (fun hg => by subst hg; exact V.to (V.lenR rfl hUs Tryz.underlying66) (by rw [intR_length])) ?_
      refine DE.gv rfl rfl rfl rfl rfl rfl rfl (fun hg => by subst hg; exact V.mv rfl) ?_
      refine DE.gcv rfl rfl rfl rfl rfl rfl tx25 (fun hg => by subst hg; rfl) (fun hg N hN => by subst hg; exact utLen_any _ _ _ _ rfl N hN) ?_
      refine DE.gv rfl rfl rfl rfl rfl rfl rfl (fun hg => by subst hg; exact V.to (V.neq rfl rfl) (show _ = Value.bool false from congrArg Value.bool (decide_eq_false (by have := hK1.len; omega)))) ?_
      refine DE.q rfl rfl rfl rfl (V.or rfl rfl rfl) ?_
      refine DE.mvB rfl rfl rfl rfl rfl fun gb89 hgb89 => ?_
      refine DE.gv rfl rfl rfl rfl rfl rfl rfl (fun hg => by subst hg; exact V.fa rfl fo68_2) ?_
      refine DE.gv rfl rfl rfl rfl rfl rfl rfl (fun hg => by subst hg; exact V.ldS (i := 5) 9 rfl rfl sc3 rfl (by kernel_rfl) rfl) ?_
      refine DE.gv rfl rfl rfl rfl rfl rfl rfl (fun hg => by subst hg; exact V.to (V.lss rfl rfl) (show _ = Value.bool false from congrArg Value.bool (decide_eq_false (by have := hK1.b; omega)))) ?_
      refine DE.q rfl rfl rfl rfl (V.or rfl rfl rfl) ?_
      refine DE.nil ?_
      refine DT.nil (MSub.pull rfl <| MSub.pull rfl <| MSub.nil) ?_
      refine Po.then ?_
      refine C.ite rfl (fun h93 => ?_) (fun h93 => ?_)
      · subst hgb66 hgb74 hgb81 hgb89
        try simp only [Bool.and_eq_true, Bool.or_eq_true, Bool.and_eq_false_iff, Bool.or_eq_false_iff, Bool.not_eq_true', Bool.not_eq_false', decide_eq_true_eq, decide_eq_false_iff_not] at h93
        exfalso; simp at h93
      · subst hgb66 hgb74 hgb81 hgb89
        try simp only [Bool.and_eq_true, Bool.or_eq_true, Bool.and_eq_false_iff, Bool.or_eq_false_iff, Bool.not_eq_true', Bool.not_eq_false', decide_eq_true_eq, decide_eq_false_iff_not] at h93
        refine C.skip ?_
        refine Po.then ?_
        refine C.seq ?_
        refine C.reg ?_
        refine J.q rfl rfl rfl (V.as rfl) ?_
        refine J.nil ?_
        refine Po.then ?_
        refine C.block ?_
        refine C.loopP (fun (j : Nat) => 1 ≤ j) (fun (j : Nat) => [(11, .int .i64 (j : Int)), (9, .pointer (some ⟨b9, 0, none⟩)), (8, .int .i64 (k : Int)), (1, .slice aL (u16R ls).length cL), (5, .pointer (some ⟨b0, 0, none⟩)), (7, .pointer (some ⟨b27, 0, none⟩)), (2, .pointer (some ⟨b2, 0, none⟩))]) (fun (j : Nat) => (9, St b9 (r1.s.lv (.slice ar61k (hkR r1.s.par.keys).length cr61k) (.slice ar61o (rws OutD.lv r1.s.cert.outs).length cr61o) (.slice ar61g (rws SignedD.lv r1.s.cert.sigs).length cr61g) (.slice ar61u (intR r1.s.used).length cr61u)) 68) :: (110, Rg 139 68 b0 [r1]) :: (140, Ut 131 236 b27 u1) :: (2, St b2 [(1, .slice aA (u16R at_).length cA), (1, .slice aM (u16R am).length cM)] 24) :: M) (fun (j : Nat) => r1.s.used.length - j) 1 (by first | omega | (dsimp only; omega)) (Sub.cons rfl <| Sub.cons rfl <| Sub.cons rfl <| Sub.cons rfl <| Sub.cons rfl <| Sub.cons rfl <| Sub.cons rfl <| Sub.nil) (MSub.pull rfl <| MSub.pull rfl <| MSub.pull rfl <| MSub.pull rfl <| MSub.refl) fun j hok => ?_
        refine C.seq ?_
        refine C.seq ?_
        refine C.reg ?_
        refine J.q rfl rfl rfl (V.mv rfl) ?_
        refine J.q rfl rfl rfl (V.fa rfl fo68_11) ?_
        refine J.q rfl rfl rfl (V.ldS (i := 20) 9 rfl rfl sc66 rfl (by kernel_rfl) rfl) ?_
        refine J.q rfl rfl rfl (V.to (V.lenR rfl hUs Tryz.underlying66) (by rw [intR_length])) ?_
        refine J.q rfl rfl rfl (V.lss rfl rfl) ?_
        refine J.nil ?_
        refine Po.then ?_
        refine C.ifd rfl (fun h98 => ?_) (fun h98 => ?_)
        · have hj : j < r1.s.used.length := by omega
          obtain ⟨p, hp⟩ : ∃ p, r1.s.used[j]? = some p := ⟨_, List.getElem?_eq_getElem hj⟩
          obtain ⟨q, hq⟩ : ∃ q, r1.s.used[j - 1]? = some q := ⟨_, List.getElem?_eq_getElem (by omega)⟩
          have hpq : q < p := by
            obtain ⟨a1, a2⟩ := List.getElem?_eq_some_iff.1 hp
            obtain ⟨c1, c2⟩ := List.getElem?_eq_some_iff.1 hq
            have := List.pairwise_iff_getElem.1 hsrt (j - 1) j c1 a1 (by omega)
            rw [a2, c2] at this; exact this
          refine C.skip ?_
          refine Po.then ?_
          refine C.seq ?_
          refine C.block ?_
          refine C.seq ?_
          refine C.draw [] [0, 1, 2, 3, 4, 5, 6, 7, 8, 9, 10, 11] [(9, St b9 (r1.s.lv (.slice ar61k (hkR r1.s.par.keys).length cr61k) (.slice ar61o (rws OutD.lv r1.s.cert.outs).length cr61o) (.slice ar61g (rws SignedD.lv r1.s.cert.sigs).length cr61g) (.slice ar61u (intR r1.s.used).length cr61u)) 68)] mixed (by kernel_rfl) (by kernel_rfl) ?_
          refine DE.q rfl rfl rfl rfl (V.fa rfl fo68_11) ?_
          refine DE.q rfl rfl rfl rfl (V.ldS (i := 20) 9 rfl rfl sc66 rfl (by kernel_rfl) rfl) ?_
          refine DE.q rfl rfl rfl rfl (V.mv rfl) ?_
          refine DE.q rfl rfl rfl rfl (V.iaR rfl hUs rfl sl66 (by rw [intR_length]; omega)) ?_
          refine DE.q rfl rfl rfl rfl (V.ldRs rfl hUs (intR_get hp) sc3) ?_
          refine DE.q rfl rfl rfl rfl (V.fa rfl fo68_11) ?_
          refine DE.q rfl rfl rfl rfl (V.ldS (i := 20) 9 rfl rfl sc66 rfl (by kernel_rfl) rfl) ?_
          refine DE.q rfl rfl rfl rfl (V.mv rfl) ?_
          refine DE.q rfl rfl rfl rfl (V.to (V.sub' rfl rfl (by omega)) (show _ = Value.int .i64 ((j - 1 : Nat) : Int) by congr 1; omega)) ?_
          refine DE.q rfl rfl rfl rfl (V.iaR rfl hUs rfl sl66 (by rw [intR_length]; omega)) ?_
          refine DE.q rfl rfl rfl rfl (V.ldRs rfl hUs (intR_get hq) sc3) ?_
          refine DE.q rfl rfl rfl rfl (V.leq rfl rfl) ?_
          refine DE.nil ?_
          refine DT.nil (MSub.pull rfl <| MSub.nil) ?_
          refine Po.then ?_
          refine C.ifd rfl (fun h112 => ?_) (fun h112 => ?_)
          · exfalso; omega
          · refine C.skip ?_
            refine Po.blkN ?_
            refine Po.then ?_
            refine C.reg ?_
            refine J.q rfl rfl rfl (V.mv rfl) ?_
            refine J.q rfl rfl rfl (V.add rfl rfl (by omega)) ?_
            refine J.q rfl rfl rfl (V.as rfl) ?_
            refine J.nil ?_
            exact Po.roundP (j + 1) (by first | omega | (dsimp only; omega)) (Sub.cons rfl <| Sub.cons rfl <| Sub.cons rfl <| Sub.cons rfl <| Sub.cons rfl <| Sub.cons rfl <| Sub.cons rfl <| Sub.nil) (MSub.pull rfl <| MSub.pull rfl <| MSub.pull rfl <| MSub.pull rfl <| MSub.refl) (by first | omega | (dsimp only; omega))
        · refine C.exit ?_
          refine Po.thenX ?_
          refine Po.thenX ?_
          refine Po.blkX ?_
          refine Po.blkN ?_
          refine Po.then ?_
          refine C.reg ?_
          refine J.q rfl rfl rfl (V.mv rfl) ?_
          refine J.q rfl rfl rfl (V.add rfl rfl (by omega)) ?_
          refine J.q rfl rfl rfl (V.as rfl) ?_
          refine J.nil ?_
          exact Po.roundG hlr10 (k + 1, r1, u1) ⟨by omega, hK1, hG⟩ (Sub.cons rfl <| Sub.cons rfl <| Sub.cons rfl <| Sub.cons rfl <| Sub.cons rfl <| Sub.nil) (MSub.pull rfl <| MSub.pull rfl <| MSub.pull rfl <| MSub.drop <| MSub.refl) (by first | omega | (dsimp only; omega))
    · obtain rfl : k = ls.length := by omega
      refine C.exit ?_
      refine Po.thenX ?_
      refine Po.thenX ?_
      refine Po.blkX ?_
      refine Po.then ?_
      refine C.seq ?_
      refine C.reg ?_
      refine J.q rfl rfl rfl (V.as rfl) ?_
      refine J.nil ?_
      refine Po.then ?_
      refine C.ret ?_
      exact Po.end1 rfl rfl rfl fun W hI => ⟨rfl, (hI.drop.drop.drop).up hle⟩
end Go.Proofs
namespace Go.Proofs.YtpcnnjnddnaogaaGreatDoor
open Go Go.Sx Go.Db Go.ChangeShapes Go.WideShapes Go.RowKit
set_option maxRecDepth 100000
theorem u16s_open {H : Type} {enc : TypeId × Value → H} {W : World} {base : Nat} {v : Value} {d : DataW H} {p : List MemPlace} (hv : Value.okWide Tryz.prog W .any base 22 v) (h : DataW.Trod enc Tryz.prog W 0 (fun _ => true) true 22 v d p) : ∃ l : List UInt16, RS (hp W) v 1 (u16R l) := by
  obtain ⟨a, n, c, rfl⟩ := okWide_slice Tryz.underlying22 hv
  obtain ⟨fuel, hf⟩ := h
  exact rs_u16 Tryz.underlying22 Tryz.underlying25 cu (show DataW.trod enc Tryz.prog W 0 (fun _ => true) true fuel 22 [.slice a n c] = _ from hf)

set_option maxRecDepth 100000 in
theorem ceaseKeeps_lifted (os : Os) (started : os.Started) (H : Type) (enc : TypeId × Value → H) (hP : mayP (madeP 3 2)) :
    ReturnsInHanded {} Tryz.checked os 6 .any (fun w args => (Rows.ceaseKeepsSpec.pre enc Tryz.prog Tryz.f6 [] false w args ∧ laidMetH Tryz.prog LAID w) ∧ sizedMet enc Tryz.prog Tryz.f6 (OpenSpec.ofChange Rows.ceaseKeepsSpec) false w args)
      (Rows.ceaseKeepsSpec.post enc Tryz.prog Tryz.f6 false true false false) := by
  refine returnsInHanded_of_change_and (C := Tryz.checked) (X := fun w _ => laidMetH Tryz.prog LAID w) (fun _ _ _ hh h => h.of_heap hh) own started (by kernel_rfl) Tryz.func6
    (ChangeSpec.witness_shaped (enc := enc) (C := Tryz.checked) (os := os) (X := fun w _ => laidMetH Tryz.prog LAID w) false (World.doorLaid Tryz.prog 4000 os) #[.agg #[.slice none 0 0, .slice none 0 0], .slice none 0 0] 8 rfl (World.shaped_of_RefB (by kernel_rfl) (by kernel_rfl)) (by kernel_rfl) (by kernel_rfl) (by kernel_rfl) (door_met os _)) ?_
  intro W base args ds gs before hval0 hW _ _ hL _
  have hval : ∀ (j : Nat) t v, Tryz.f6.params[j]? = some t → args[j]? = some v → Value.okWide Tryz.prog W .any base t v := hval0
  have hW' := hW
  have hlt0 := hW.lt
  obtain ⟨p, q, hA0, hV, rfl, hfz, hnd⟩ := hW
  have hA : DataW.TrodAll enc Tryz.prog W 0 (fun _ => true) true Tryz.f6.params.toList args.toList ds p := hA0
  rw [Tryz.params6] at hA hval
  obtain ⟨v0, v1, d0, d1, p0, p1, rfl, rfl, rfl, t0, t1⟩ := trodAll_two hA
  obtain ⟨rfl, rfl⟩ := trodVars_none hV
  have hZ := rok hL
  obtain ⟨va, vm, at_, am, rfl, hAt, hAm⟩ := acc_open (hval 0 _ _ rfl rfl) t0
  obtain ⟨ls, hL⟩ := u16s_open (hval 1 _ _ rfl rfl) t1
  refine (ceaseKeeps_pu va vm at_ am _ ls hP W (hp W) [] hAt hAm hL hZ W (Inv.start W)).mono fun e W' ⟨he, hI⟩ => ?_
  have hB := hI.below
  have hlt : ∀ x ∈ (p0 ++ p1), x.block < W.heap.size := fun x hx => hlt0 x (by simpa using hx)
  subst he
  refine ⟨_, rfl, _, _, _, [], _, [], hW', trodAll_mk1 (shut_bool Tryz.underlying4 true), trodAll_mk2 (Below.trod laidOut (by kernel_rfl) (of_decide_eq_true (by kernel_rfl)) t0 hB (fun x hx => hlt x (by simp [hx]))) (Below.trod laidOut (by kernel_rfl) (of_decide_eq_true (by kernel_rfl)) t1 hB (fun x hx => hlt x (by simp [hx]))), rfl, ?_, fun h => by cases h⟩
  exact hB.frame _

theorem ceaseKeeps_holds (hP : mayP (madeP 3 2)) : Rows.CeaseKeepsSaid :=
  OpenClaim.holds_of_wide 6 Tryz.f6 rfl rfl rfl rfl rfl rfl rfl ⟨rfl, rfl, rfl, rfl, rfl⟩ rfl rfl rfl rfl rfl (by kernel_rfl) Tryz.func6 (by kernel_rfl)
    (of_decide_eq_true (by kernel_rfl)) (by unfold Func.isWrapper; first | (rw [if_pos (by decide +kernel)]; kernel_rfl) | (rw [if_neg (by decide +kernel)]; exact ⟨rfl, rfl⟩))
    (fun os started H enc _ => ceaseKeeps_lifted os started H enc hP)
theorem ceaseKeeps_card (hP : mayP (madeP 3 2)) : Rows.CeaseKeepsCardSaid :=
  Claim7.holds_tied_plain_at .later [] [.data] true (true, "6b02c825a31eb1d64ce8c0d48304d645abff5b6c9cb370d5267b4e4c1e322499") false
    (ceaseKeeps_holds hP) (fun _ h => by cases h) (by kernel_rfl) (fun _ h => by cases h) ceaseKeeps_row_tie rfl ⟨rfl, rfl⟩ (by kernel_rfl) rfl
    (fun f fn hf hfn => by
      obtain rfl : f = 6 := Option.some.inj ((show Tryz.prog.funcNamed "drawbridge/drawbridgelaw16.CeaseKeeps" = some 6 by kernel_rfl).symm.trans hf) |>.symm
      obtain rfl : fn = Tryz.f6 := (Option.some.inj (Tryz.func6.symm.trans hfn)).symm
      exact ⟨by kernel_rfl, fun j t ht => by
        have hall : (Tryz.f6.params.toList.all fun u => !Tryz.prog.wantsStandIn u) = true := by kernel_rfl
        have hm : t ∈ Tryz.f6.params.toList := Array.mem_toList_iff.2 (Array.mem_of_getElem? ht)
        exact (show Tryz.prog.wantsStandIn t = false by simpa using List.all_eq_true.1 hall t hm)⟩)
    (by kernel_rfl)

theorem ceaseKeeps_proved : Rows.CeaseKeepsCardSaid := ceaseKeeps_card made3_may
end Go.Proofs.YtpcnnjnddnaogaaGreatDoor
