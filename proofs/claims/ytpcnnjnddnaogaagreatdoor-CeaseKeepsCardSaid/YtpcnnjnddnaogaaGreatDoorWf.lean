import Derived.Test.YtpcnnjnddnaogaaGreatDoorWe
import Derived.Test.YtpcnnjnddnaogaaGreatDoorEd
import Derived.Test.YtpcnnjnddnaogaaGreatDoorProg
set_option linter.unusedVariables false
set_option linter.unusedSimpArgs false
set_option linter.unusedSectionVars false
set_option linter.unnecessarySimpa false
set_option exponentiation.threshold 1000
namespace Go.Proofs
open Go Go.Sx Go.Db
set_option maxRecDepth 100000
theorem tx141 : Tx Tryz.prog 141 := ⟨Tryz.f141, Tryz.func141, rfl, by kernel_rfl⟩

def layI_ren : Go.Shelf.Ren := ⟨fun | 21 => 54 | 27 => 102 | 28 => 103 | 35 => 157 | 39 => 192 | n => n, fun | 22 => 66 | 3 => 3 | 4 => 4 | n => n, fun | n => n⟩
theorem layI : Go.Proofs.Lays2.n21 Tryz.prog layI_ren := {
  mixed := by kernel_rfl
  f21 := Tryz.func54.trans (congrArg some (by kernel_rfl))
  f27 := Tryz.func102.trans (congrArg some (by kernel_rfl))
  f28 := Tryz.func103.trans (congrArg some (by kernel_rfl))
  f35 := Tryz.func157.trans (congrArg some (by kernel_rfl))
  f39 := Tryz.func192.trans (congrArg some (by kernel_rfl))
  t0 := Tryz.underlying0
  a0 := Tryz.isAgg0
  z0 := Tryz.sizeOf0
  v0 := Tryz.zeroValue0
  t22 := Tryz.underlying66
  a22 := Tryz.isAgg66
  z22 := Tryz.sizeOf66
  v22 := Tryz.zeroValue66
  t3 := Tryz.underlying3
  a3 := Tryz.isAgg3
  z3 := Tryz.sizeOf3
  v3 := Tryz.zeroValue3
  t4 := Tryz.underlying4
  a4 := Tryz.isAgg4
  z4 := Tryz.sizeOf4
  v4 := Tryz.zeroValue4
  i3 := by kernel_rfl }

def layB_ren : Go.Shelf.Ren := ⟨fun | 25 => 53 | 31 => 100 | 32 => 101 | 37 => 156 | n => n, fun | 22 => 66 | 3 => 3 | 4 => 4 | 40 => 84 | n => n, fun | n => n⟩
theorem layB : Go.Proofs.Lays2.n25 Tryz.prog layB_ren := {
  mixed := by kernel_rfl
  f25 := Tryz.func53.trans (congrArg some (by kernel_rfl))
  f31 := Tryz.func100.trans (congrArg some (by kernel_rfl))
  f32 := Tryz.func101.trans (congrArg some (by kernel_rfl))
  f37 := Tryz.func156.trans (congrArg some (by kernel_rfl))
  t0 := Tryz.underlying0
  a0 := Tryz.isAgg0
  z0 := Tryz.sizeOf0
  v0 := Tryz.zeroValue0
  t22 := Tryz.underlying66
  a22 := Tryz.isAgg66
  z22 := Tryz.sizeOf66
  v22 := Tryz.zeroValue66
  t3 := Tryz.underlying3
  a3 := Tryz.isAgg3
  z3 := Tryz.sizeOf3
  v3 := Tryz.zeroValue3
  t4 := Tryz.underlying4
  a4 := Tryz.isAgg4
  z4 := Tryz.sizeOf4
  v4 := Tryz.zeroValue4
  t40 := Tryz.underlying84
  a40 := Tryz.isAgg84
  z40 := Tryz.sizeOf84
  v40 := Tryz.zeroValue84 }

theorem indexI_pu (v : Value) (l : List Int) (h : Int) (w0 : World) (ro : Hp) (M : Res) (hR : RS ro v 1 (intR l)) (hl : l.length ≤ 1000000) : Pu Tryz.prog 141 #[v, iv h] w0 ro M (.int .i64 (ixI l h)) := by
  obtain ⟨aV, cV, rfl, _⟩ := hR.shape
  refine Pu.enter Tryz.func141 rfl rfl ?_
  refine C.seq ?_
  refine C.reg ?_
  refine J.q rfl rfl rfl (V.as rfl) ?_
  refine J.nil ?_
  refine Po.then ?_
  refine C.seq ?_
  refine C.seq ?_
  refine C.reg ?_
  refine J.q rfl rfl rfl (V.mv rfl) ?_
  refine J.q rfl rfl rfl (V.to (V.lenR rfl hR Tryz.underlying66) (by rw [intR_length])) ?_
  refine J.q rfl rfl rfl (V.mv rfl) ?_
  refine J.nil ?_
  refine Po.then ?_
  refine C.block ?_
  refine C.loopP (fun (k : Nat) => k ≤ l.length ∧ ∀ j, j < k → ∀ q, l[j]? = some q → q ≠ h) (fun (k : Nat) => [(8, .int .i64 (k : Int)), (7, .int .i64 (l.length : Int)), (1, iv h), (0, .slice aV (intR l).length cV)]) (fun (k : Nat) => M) (fun (k : Nat) => l.length - k) 0 ⟨by omega, fun j hj => by omega⟩ (Sub.cons rfl <| Sub.cons rfl <| Sub.cons rfl <| Sub.cons rfl <| Sub.nil) (MSub.refl) fun k hok => ?_
  refine C.seq ?_
  refine C.reg ?_
  refine J.q rfl rfl rfl (V.lss rfl rfl) ?_
  refine J.nil ?_
  refine Po.then ?_
  refine C.seq ?_
  refine C.ifd rfl (fun h9 => ?_) (fun h9 => ?_)
  · have hk : k < l.length := by omega
    obtain ⟨p, hp⟩ : ∃ p, l[k]? = some p := ⟨_, List.getElem?_eq_getElem hk⟩
    refine C.skip ?_
    refine Po.then ?_
    refine C.seq ?_
    refine C.block ?_
    refine C.seq ?_
    refine C.reg ?_
    refine J.q rfl rfl rfl (V.mv rfl) ?_
    refine J.q rfl rfl rfl (V.as rfl) ?_
    refine J.nil ?_
    refine Po.then ?_
    refine C.seq ?_
    refine C.reg ?_
    refine J.q rfl rfl rfl (V.mv rfl) ?_
    refine J.q rfl rfl rfl (V.mv rfl) ?_
    refine J.q rfl rfl rfl (V.mv rfl) ?_
    refine J.q rfl rfl rfl (V.iaR rfl hR rfl sl66 (by rw [intR_length]; omega)) ?_
    refine J.q rfl rfl rfl (V.ldRs rfl hR (intR_get hp) sc3) ?_
    refine J.q rfl rfl rfl (V.eql rfl rfl) ?_
    refine J.nil ?_
    refine Po.then ?_
    refine C.ifd rfl (fun h16 => ?_) (fun h16 => ?_)
    · subst h16
      rw [ixI_some hok.2 hp]
      refine C.seq ?_
      refine C.reg ?_
      refine J.q rfl rfl rfl (V.mv rfl) ?_
      refine J.q rfl rfl rfl (V.as rfl) ?_
      refine J.nil ?_
      refine Po.then ?_
      refine C.ret ?_
      refine Po.blkR ?_
      refine Po.thenR ?_
      refine Po.thenR ?_
      refine Po.blkR ?_
      refine Po.thenR ?_
      exact Po.end1 rfl rfl rfl fun W hI => ⟨rfl, hI⟩
    · refine C.skip ?_
      refine Po.blkN ?_
      refine Po.then ?_
      refine C.reg ?_
      refine J.q rfl rfl rfl (V.add rfl rfl (by omega)) ?_
      refine J.q rfl rfl rfl (V.mv rfl) ?_
      refine J.nil ?_
      exact Po.roundP (k + 1) ⟨by omega, fun j hj q hq => by
            rcases Nat.lt_or_ge j k with hjk | hjk
            · exact hok.2 j hjk q hq
            · obtain rfl : j = k := by omega
              rw [hp] at hq; cases hq; exact fun e => h16 e.symm⟩ (Sub.cons rfl <| Sub.cons rfl <| Sub.cons rfl <| Sub.cons rfl <| Sub.nil) (MSub.refl) (by first | omega | (dsimp only; omega))
  · obtain ⟨hk1, hk2⟩ := hok
    obtain rfl : k = l.length := by omega
    rw [ixI_none hk2]
    refine C.exit ?_
    refine Po.thenX ?_
    refine Po.thenX ?_
    refine Po.blkX ?_
    refine Po.then ?_
    refine C.seq ?_
    refine C.reg ?_
    refine J.q rfl rfl rfl (V.as rfl) ?_
    refine J.nil ?_
    refine Po.then ?_
    refine C.ret ?_
    exact Po.end1 rfl rfl rfl fun W hI => ⟨rfl, hI⟩

theorem containsI_pu (v : Value) (l : List Int) (h : Int) (w0 : World) (ro : Hp) (M : Res) (hR : RS ro v 1 (intR l)) (hl : l.length ≤ 1000000) : Pu Tryz.prog 83 #[v, iv h] w0 ro M (.bool (decide (h ∈ l))) := by
  obtain ⟨aV, cV, rfl, _⟩ := hR.shape
  refine Pu.enter Tryz.func83 rfl rfl ?_
  refine C.seq ?_
  refine C.reg ?_
  refine J.q rfl rfl rfl (V.as rfl) ?_
  refine J.nil ?_
  refine Po.then ?_
  refine C.seq ?_
  refine C.reg ?_
  refine J.q rfl rfl rfl (V.mv rfl) ?_
  refine J.q rfl rfl rfl (V.mv rfl) ?_
  refine J.callP rfl tx141 rfl (indexI_pu _ l h _ _ _ hR hl) ?_ 
  refine J.q rfl rfl rfl (V.to (V.geq rfl rfl) (ixI_has l h)) ?_
  refine J.q rfl rfl rfl (V.as rfl) ?_
  refine J.nil ?_
  refine Po.then ?_
  refine C.ret ?_
  exact Po.end1 rfl rfl rfl fun W hI => ⟨rfl, hI⟩

theorem bsI_pu (v : Value) (l : List Int) (x : Int) (w0 : World) (ro : Hp) (M : Res) (hR : RS ro v 1 (intR l)) (hl : l.length ≤ 1000000) (hs : l.Pairwise (· ≤ ·)) : Pu Tryz.prog 53 #[v, iv x] w0 ro M (.tuple #[.int .i64 (posI l x : Nat), .bool (l.contains x)]) := bsearch_pu layB v l x hR hl hs

theorem insI_fn (la lb : Nat) (vu v1 : Value) (l : List Int) (i : Nat) (x : Int) (w0 : World) (ro : Hp) (M : Res) (hi : i ≤ l.length) (hl : l.length ≤ 1000000) : Sx.Fn Tryz.prog 54 #[vu, .int .i64 (i : Int), v1] w0 ro ((la, Ow vu 3 1 (intR l)) :: (lb, Ow v1 3 1 (intR [x])) :: M) (fun u M1 => ∃ a c, u = (.slice a (intR (insL l i x)).length c) ∧ M1 = (la, Ow (.slice a (intR (insL l i x)).length c) 3 1 (intR (insL l i x))) :: (lb, Ow v1 3 1 (intR [x])) :: M) := insert_fn layI la lb vu v1 l i x hi hl
end Go.Proofs
namespace Go.Proofs
open Go Go.Sx Go.Db
set_option maxRecDepth 100000
theorem zr48 : Zr Tryz.prog 48 [(1, .int .i64 0), (1, .int .i64 0), (1, .slice none 0 0), (1, .slice none 0 0), (1, .slice none 0 0), (1, .int .i64 0), (1, .int .i64 0), (1, .int .i64 0), (1, .slice none 0 0), (1, .int .i64 0), (1, .int .i64 0), (1, .int .i64 0), (8, hv h0), (8, hv h0), (1, .slice none 0 0), (1, .slice none 0 0), (1, .int .i64 0), (1, .int .i64 0), (8, hv h0), (1, .int .i64 0), (1, .int .i64 0), (128, hvs z16)] := by unfold Zr; kernel_rfl
theorem pl48 : Pls Tryz.prog 48 [(0, 1), (1, 1), (2, 1), (3, 1), (4, 1), (5, 4), (9, 21), (30, 140)] := ⟨_, Tryz.underlying48, by kernel_rfl⟩
theorem tx22 : Tx Tryz.prog 22 := ⟨Tryz.f22, Tryz.func22, rfl, by kernel_rfl⟩
theorem tx83 : Tx Tryz.prog 83 := ⟨Tryz.f83, Tryz.func83, rfl, by kernel_rfl⟩
theorem fo68_8 : Fo Tryz.prog 68 8 11 := ⟨_, _, 7, Tryz.underlying68, rfl, rfl, by kernel_rfl⟩
theorem tx85 : Tx Tryz.prog 85 := ⟨Tryz.f85, Tryz.func85, rfl, by kernel_rfl⟩
theorem tx84 : Tx Tryz.prog 84 := ⟨Tryz.f84, Tryz.func84, rfl, by kernel_rfl⟩
theorem tx51 : Tx Tryz.prog 51 := ⟨Tryz.f51, Tryz.func51, rfl, by kernel_rfl⟩
theorem tx42 : Tx Tryz.prog 42 := ⟨Tryz.f42, Tryz.func42, rfl, by kernel_rfl⟩
theorem pl59 : Pls Tryz.prog 59 [(0, 8), (8, 1)] := ⟨_, Tryz.underlying59, by kernel_rfl⟩
theorem tx52 : Tx Tryz.prog 52 := ⟨Tryz.f52, Tryz.func52, rfl, by kernel_rfl⟩
theorem fo68_5 : Fo Tryz.prog 68 5 8 := ⟨_, _, 0, Tryz.underlying68, rfl, rfl, by kernel_rfl⟩
theorem tx53 : Tx Tryz.prog 53 := ⟨Tryz.f53, Tryz.func53, rfl, by kernel_rfl⟩
theorem tx54 : Tx Tryz.prog 54 := ⟨Tryz.f54, Tryz.func54, rfl, by kernel_rfl⟩
theorem tx49 : Tx Tryz.prog 49 := ⟨Tryz.f49, Tryz.func49, rfl, by kernel_rfl⟩

theorem Side_at (b : Nat) (l : List RecV) (i : Int) (r : RecV) (w0 : World) (ro : Hp) (M : Res) (h0 : 0 ≤ i) (hr : l[i.toNat]? = some r) (hG : RegI ro l) : Fg Tryz.prog 22 #[.pointer (some ⟨b, 0, none⟩), iv i] w0 ro ((110, Rg 139 68 b l) :: M) (fun u ro1 M1 => ∃ r1 : RecV, u = .tuple #[ag r1.lv, .bool true] ∧ r1.s = r.s ∧ RecI ro1 r1 ∧ M1 = (110, Rg 139 68 b l) :: M) := by
  obtain ⟨n, rfl⟩ := Int.eq_ofNat_of_zero_le h0
  simp only [Int.toNat_natCast] at *
  exact Side_fg b l n r w0 ro M hr hG

theorem SideU_at (b : Nat) (l : List RecV) (i : Int) (r : RecV) (w0 : World) (ro : Hp) (M : Res) (h0 : 0 ≤ i) (hr : l[i.toNat]? = some r) (hG : RegI ro l) : Fg Tryz.prog 22 #[.pointer (some ⟨b, 0, none⟩), iv i] w0 ro ((110, Rg 139 68 b l) :: M) (fun u ro1 M1 => ∃ wk wo ws wu, u = .tuple #[ag (r.s.lv wk wo ws wu), .bool true] ∧ RS ro1 wk 8 (hkR r.s.par.keys) ∧ RS ro1 wo 9 (rws OutD.lv r.s.cert.outs) ∧ RS ro1 ws 282 (rws SignedD.lv r.s.cert.sigs) ∧ M1 = (114, Ow wu 3 1 (intR r.s.used)) :: (110, Rg 139 68 b l) :: M) := by
  obtain ⟨n, rfl⟩ := Int.eq_ofNat_of_zero_le h0
  simp only [Int.toNat_natCast] at *
  exact SideU_fg b l n r w0 ro M hr hG

theorem Set_at (b : Nat) (l : List RecV) (i : Int) (x : RecV) (w0 : World) (ro : Hp) (M : Res) (h0 : 0 ≤ i) (hi : i.toNat < l.length) (hG : RegI ro l) (hX : RecI ro x) : Fg Tryz.prog 49 #[.pointer (some ⟨b, 0, none⟩), iv i, ag x.lv] w0 ro ((110, Rg 139 68 b l) :: M) (fun u ro1 M1 => ∃ r1 : RecV, u = .bool true ∧ r1.s = x.s ∧ RegI ro1 (l.set i.toNat r1) ∧ M1 = (110, Rg 139 68 b (l.set i.toNat r1)) :: M) := by
  obtain ⟨n, rfl⟩ := Int.eq_ofNat_of_zero_le h0
  simp only [Int.toNat_natCast] at *
  exact Set_fg b l n x w0 ro M hi hG hX

theorem clCheck_no (b : Nat) (c : ClaimD) (hM : ¬ mayClaim c) (w0 : World) (ro : Hp) (M : Res) : Pu Tryz.prog 42 #[.pointer (some ⟨b, 0, none⟩), ag c.lv] w0 ro M (.int .i64 4) := by
  refine Pu.enter Tryz.func42 rfl rfl ?_
  refine C.seq ?_
  refine C.reg ?_
  refine J.one rfl (JO.boxS (l := 3) rfl rfl fun b3 => ?_)
  refine J.q rfl rfl rfl (V.as rfl) ?_
  refine J.nil ?_
  refine Po.then ?_
  refine C.seq ?_
  refine C.block ?_
  refine C.seq ?_
  refine C.reg ?_
  refine J.q rfl rfl rfl (V.mv rfl) ?_
  refine J.q rfl rfl rfl (V.ptrEq rfl Tryz.underlying50) ?_
  refine J.q rfl rfl rfl (V.as rfl) ?_
  refine J.nil ?_
  refine Po.then ?_
  refine C.no rfl ?_
  refine C.seq ?_
  refine C.reg ?_
  refine J.q rfl rfl rfl (V.ldW 3 rfl rfl ag46 (by kernel_rfl)) ?_
  refine J.q rfl rfl rfl (V.to (V.bld rfl zr48 pl48 (Put.one (i := 0) rfl rfl rfl <| Put.ags (i := 16) (k := 6) rfl rfl rfl rfl <| Put.nil)) (show _ = ag ((clTx c).lv txvN) from rfl)) ?_
  refine J.callP rfl tx82 rfl (txMay_pu (clTx c) txvN (show (5 : Int) ≠ 2 by decide) _ _ _ (clTx_rs c) (clTx_sm c)) ?_ 
  refine J.q rfl rfl rfl (V.noD rfl) ?_
  refine J.q rfl rfl rfl (V.as rfl) ?_
  refine J.nil ?_
  refine Po.then ?_
  refine C.ite rfl (fun h10 => ?_) (fun h10 => ?_)
  · refine C.seq ?_
    refine C.reg ?_
    refine J.q rfl rfl rfl (V.as rfl) ?_
    refine J.nil ?_
    refine Po.then ?_
    refine C.ret ?_
    refine Po.blkR ?_
    refine Po.thenR ?_
    exact Po.end1 rfl rfl rfl fun W hI => ⟨rfl, hI.drop⟩
  · exfalso; simp [clTx_may] at h10; exact hM h10

theorem clCheck_none (b : Nat) (l : List RecV) (c : ClaimD) (hM : mayClaim c) (hl : l.length ≤ c.side) (w0 : World) (ro : Hp) (M : Res) : Sx.Fn Tryz.prog 42 #[.pointer (some ⟨b, 0, none⟩), ag c.lv] w0 ro ((110, Rg 139 68 b l) :: M) (fun u M1 => u = .int .i64 8 ∧ M1 = (110, Rg 139 68 b l) :: M) := by
  refine Sx.Fn.enter Tryz.func42 rfl rfl ?_
  refine C.seq ?_
  refine C.reg ?_
  refine J.one rfl (JO.boxS (l := 3) rfl rfl fun b3 => ?_)
  refine J.q rfl rfl rfl (V.as rfl) ?_
  refine J.nil ?_
  refine Po.then ?_
  refine C.seq ?_
  refine C.block ?_
  refine C.seq ?_
  refine C.reg ?_
  refine J.q rfl rfl rfl (V.mv rfl) ?_
  refine J.q rfl rfl rfl (V.ptrEq rfl Tryz.underlying50) ?_
  refine J.q rfl rfl rfl (V.as rfl) ?_
  refine J.nil ?_
  refine Po.then ?_
  refine C.no rfl ?_
  refine C.seq ?_
  refine C.reg ?_
  refine J.q rfl rfl rfl (V.ldW 3 rfl rfl ag46 (by kernel_rfl)) ?_
  refine J.q rfl rfl rfl (V.to (V.bld rfl zr48 pl48 (Put.one (i := 0) rfl rfl rfl <| Put.ags (i := 16) (k := 6) rfl rfl rfl rfl <| Put.nil)) (show _ = ag ((clTx c).lv txvN) from rfl)) ?_
  refine J.callP rfl tx82 rfl (txMay_pu (clTx c) txvN (show (5 : Int) ≠ 2 by decide) _ _ _ (clTx_rs c) (clTx_sm c)) ?_ 
  refine J.q rfl rfl rfl (V.noD rfl) ?_
  refine J.q rfl rfl rfl (V.as rfl) ?_
  refine J.nil ?_
  refine Po.then ?_
  refine C.ite rfl (fun h10 => ?_) (fun h10 => ?_)
  · exfalso; simp [clTx_may] at h10; exact h10 hM
  · refine C.skip ?_
    refine Po.blkN ?_
    refine Po.then ?_
    refine C.seq ?_
    refine C.reg ?_
    refine J.q rfl rfl rfl (V.mv rfl) ?_
    refine J.q rfl rfl rfl (V.fa rfl fo46_0) ?_
    refine J.q rfl rfl rfl (V.ldS (i := 0) 3 rfl rfl sc3 rfl rfl rfl) ?_
    refine J.call rfl tx22 rfl (Fn.at (l := 110) rfl (Side_none _ _ c.side (by omega) _ _ _)) ?_ 
    rintro _ _ ⟨rfl, rfl⟩
    refine J.q rfl rfl rfl (V.mv rfl) ?_
    refine J.q rfl rfl rfl (V.ex rfl rfl) ?_
    refine J.q rfl rfl rfl (V.ex rfl rfl) ?_
    refine J.one rfl (JO.alloc (l := 5) rfl zr68 fun b5 => ?_)
    refine J.one rfl (JO.stS (l := 5) rfl rfl rfl sz68 (by kernel_rfl) (by kernel_rfl) ?_)
    refine J.q rfl rfl rfl (V.as rfl) ?_
    refine J.nil ?_
    refine Po.then ?_
    refine C.seq ?_
    refine C.block ?_
    refine C.seq ?_
    refine C.reg ?_
    refine J.q rfl rfl rfl (V.mv rfl) ?_
    refine J.q rfl rfl rfl (V.no rfl) ?_
    refine J.q rfl rfl rfl (V.as rfl) ?_
    refine J.nil ?_
    refine Po.then ?_
    refine C.yes rfl ?_
    refine C.seq ?_
    refine C.reg ?_
    refine J.q rfl rfl rfl (V.as rfl) ?_
    refine J.nil ?_
    refine Po.then ?_
    refine C.ret ?_
    refine Po.blkR ?_
    refine Po.thenR ?_
    exact Po.end1 rfl rfl rfl fun W hI => ⟨_, _, rfl, ⟨rfl, rfl⟩, (hI.sub (MSub.pull rfl <| MSub.drop <| MSub.drop <| MSub.refl))⟩

theorem clCheck_fg (b : Nat) (l : List RecV) (c : ClaimD) (r : RecV) (w0 : World) (ro : Hp) (M : Res) (hM : mayClaim c) (h0 : 0 ≤ c.side) (hr : l[c.side.toNat]? = some r) (hK : RoK ro) (hG : RegI ro l) : Fg Tryz.prog 42 #[.pointer (some ⟨b, 0, none⟩), ag c.lv] w0 ro ((110, Rg 139 68 b l) :: M) (fun u ro1 M1 => u = iv (clX r.s c) ∧ M1 = (110, Rg 139 68 b l) :: M) := by
  refine Fg.enter Tryz.func42 rfl rfl ?_
  have hle : Hp.le ro ro := Hp.le_refl _
  refine C.seq ?_
  refine C.reg ?_
  refine J.one rfl (JO.boxS (l := 3) rfl rfl fun b3 => ?_)
  refine J.q rfl rfl rfl (V.as rfl) ?_
  refine J.nil ?_
  refine Po.then ?_
  refine C.seq ?_
  refine C.block ?_
  refine C.seq ?_
  refine C.reg ?_
  refine J.q rfl rfl rfl (V.mv rfl) ?_
  refine J.q rfl rfl rfl (V.ptrEq rfl Tryz.underlying50) ?_
  refine J.q rfl rfl rfl (V.as rfl) ?_
  refine J.nil ?_
  refine Po.then ?_
  refine C.no rfl ?_
  refine C.seq ?_
  refine C.reg ?_
  refine J.q rfl rfl rfl (V.ldW 3 rfl rfl ag46 (by kernel_rfl)) ?_
  refine J.q rfl rfl rfl (V.to (V.bld rfl zr48 pl48 (Put.one (i := 0) rfl rfl rfl <| Put.ags (i := 16) (k := 6) rfl rfl rfl rfl <| Put.nil)) (show _ = ag ((clTx c).lv txvN) from rfl)) ?_
  refine J.callP rfl tx82 rfl (txMay_pu (clTx c) txvN (show (5 : Int) ≠ 2 by decide) _ _ _ (clTx_rs c) (clTx_sm c)) ?_ 
  refine J.q rfl rfl rfl (V.noD rfl) ?_
  refine J.q rfl rfl rfl (V.as rfl) ?_
  refine J.nil ?_
  refine Po.then ?_
  refine C.ite rfl (fun h10 => ?_) (fun h10 => ?_)
  · exfalso; simp [clTx_may] at h10; exact h10 hM
  · refine C.skip ?_
    refine Po.blkN ?_
    refine Po.then ?_
    refine C.seq ?_
    refine C.reg ?_
    refine J.q rfl rfl rfl (V.mv rfl) ?_
    refine J.q rfl rfl rfl (V.fa rfl fo46_0) ?_
    refine J.q rfl rfl rfl (V.ldS (i := 0) 3 rfl rfl sc3 rfl rfl rfl) ?_
    refine J.callG rfl tx22 rfl (Fg.at (l := 110) rfl (Side_at _ _ _ _ _ _ _ h0 hr hG)) ?_ 
    rintro _ ro _ hl ⟨r19, rfl, hr19, hi19, rfl⟩
    replace hK := hK.mono hl
    replace hG := hG.mono hl
    replace hle := Hp.le_trans hle hl
    obtain ⟨r19s, r19k, r19o, r19g, r19u⟩ := r19
    obtain rfl : r19s = r.s := hr19
    obtain ⟨ar19k, cr19k, rfl, _⟩ := (show RS ro r19k 8 (hkR r.s.par.keys) from hi19.rs.k).shape
    obtain ⟨ar19o, cr19o, rfl, _⟩ := (show RS ro r19o 9 (rws OutD.lv r.s.cert.outs) from hi19.rs.o).shape
    obtain ⟨ar19g, cr19g, rfl, _⟩ := (show RS ro r19g 282 (rws SignedD.lv r.s.cert.sigs) from hi19.rs.g).shape
    obtain ⟨ar19u, cr19u, rfl, _⟩ := (show RS ro r19u 1 (intR r.s.used) from hi19.rs.u).shape
    refine J.q rfl rfl rfl (V.mv rfl) ?_
    refine J.q rfl rfl rfl (V.ex rfl rfl) ?_
    refine J.q rfl rfl rfl (V.ex rfl rfl) ?_
    refine J.one rfl (JO.alloc (l := 5) rfl zr68 fun b5 => ?_)
    refine J.one rfl (JO.stS (l := 5) rfl rfl rfl sz68 (by kernel_rfl) (by kernel_rfl) ?_)
    refine J.q rfl rfl rfl (V.as rfl) ?_
    refine J.nil ?_
    refine Po.then ?_
    refine C.seq ?_
    refine C.block ?_
    refine C.seq ?_
    refine C.reg ?_
    refine J.q rfl rfl rfl (V.mv rfl) ?_
    refine J.q rfl rfl rfl (V.no rfl) ?_
    refine J.q rfl rfl rfl (V.as rfl) ?_
    refine J.nil ?_
    refine Po.then ?_
    refine C.no rfl ?_
    refine C.seq ?_
    refine C.reg ?_
    refine J.q rfl rfl rfl (V.fa rfl fo68_6) ?_
    refine J.q rfl rfl rfl (V.ldS (i := 9) 5 rfl rfl sc4 rfl (by kernel_rfl) rfl) ?_
    refine J.q rfl rfl rfl (V.no rfl) ?_
    refine J.q rfl rfl rfl (V.as rfl) ?_
    refine J.nil ?_
    refine Po.then ?_
    refine C.ite rfl (fun h25 => ?_) (fun h25 => ?_)
    · have he : clX r.s c = 14 := if_pos (by simpa using h25)
      refine C.seq ?_
      refine C.reg ?_
      refine J.q rfl rfl rfl (V.as rfl) ?_
      refine J.nil ?_
      refine Po.then ?_
      refine C.ret ?_
      refine Po.blkR ?_
      refine Po.thenR ?_
      exact Po.end1 rfl rfl rfl fun W hI => ⟨_, _, _, rfl, hle, ⟨by rw [he]; rfl, rfl⟩, (hI.sub (MSub.pull rfl <| MSub.drop <| MSub.drop <| MSub.refl))⟩
    · have h25 : r.s.ceased = true := by simpa using h25
      refine C.seq ?_
      refine C.reg ?_
      refine J.q rfl rfl rfl (V.fa rfl fo68_11) ?_
      refine J.q rfl rfl rfl (V.ldS (i := 20) 5 rfl rfl sc66 rfl (by kernel_rfl) rfl) ?_
      refine J.q rfl rfl rfl (V.fa rfl fo46_1) ?_
      refine J.q rfl rfl rfl (V.ldS (i := 1) 3 rfl rfl sc3 rfl rfl rfl) ?_
      refine J.callP rfl tx83 rfl (containsI_pu _ r.s.used _ _ _ _ hi19.rs.u (by have := hi19.sm.u; show r.s.used.length ≤ 1000000; dsimp only at this; omega)) ?_ 
      refine J.q rfl rfl rfl (V.as rfl) ?_
      refine J.nil ?_
      refine Po.then ?_
      refine C.ite rfl (fun h29 => ?_) (fun h29 => ?_)
      · have h29 : c.account ∈ r.s.used := by simpa using h29
        have he : clX r.s c = 13 := by unfold clX; rw [if_neg (by simp [h25]), if_pos h29]
        refine C.seq ?_
        refine C.reg ?_
        refine J.q rfl rfl rfl (V.as rfl) ?_
        refine J.nil ?_
        refine Po.then ?_
        refine C.ret ?_
        refine Po.blkR ?_
        refine Po.thenR ?_
        exact Po.end1 rfl rfl rfl fun W hI => ⟨_, _, _, rfl, hle, ⟨by rw [he]; rfl, rfl⟩, (hI.sub (MSub.pull rfl <| MSub.drop <| MSub.drop <| MSub.refl))⟩
      · have h29 : c.account ∉ r.s.used := by simpa using h29
        refine C.seq ?_
        refine C.draw [] [0, 1, 2, 3, 4, 5, 6, 7, 8, 9, 10, 11, 12, 13] [(5, St b5 (r.s.lv (.slice ar19k (hkR r.s.par.keys).length cr19k) (.slice ar19o (rws OutD.lv r.s.cert.outs).length cr19o) (.slice ar19g (rws SignedD.lv r.s.cert.sigs).length cr19g) (.slice ar19u (intR r.s.used).length cr19u)) 68), (3, St b3 c.lv 46)] mixed (by kernel_rfl) (by kernel_rfl) ?_
        refine DE.q rfl rfl rfl rfl (V.fa rfl fo68_8) ?_
        refine DE.q rfl rfl rfl rfl (V.ldA (i := 11) 5 rfl rfl ag29 rfl (by kernel_rfl)) ?_
        refine DE.q rfl rfl rfl rfl (V.fa rfl fo46_1) ?_
        refine DE.q rfl rfl rfl rfl (V.ldS (i := 1) 3 rfl rfl sc3 rfl rfl rfl) ?_
        refine DE.q rfl rfl rfl rfl (V.fa rfl fo46_1) ?_
        refine DE.q rfl rfl rfl rfl (V.ldS (i := 1) 3 rfl rfl sc3 rfl rfl rfl) ?_
        refine DE.q rfl rfl rfl rfl (V.fa rfl fo46_2) ?_
        refine DE.q rfl rfl rfl rfl (V.to (V.ldP (i := 2) (k := 3) 3 rfl rfl ag31 rfl rfl rfl) (show _ = ag c.state.lv from rfl)) ?_
        refine DE.call rfl rfl rfl rfl tx85 rfl (fun N hN => Leaf_pu c.account c.state _ _ _ hK) ?_
        refine DE.q rfl rfl rfl rfl (V.fa rfl fo46_3) ?_
        refine DE.q rfl rfl rfl rfl (V.to (V.ldA (i := 5) 3 rfl rfl ag44 rfl (by kernel_rfl)) (show _ = hvs c.proof from rfl)) ?_
        refine DE.call rfl rfl rfl rfl tx84 rfl (fun N hN => Check_pu r.s.root (leafOf c.account c.state) c.account c.proof.toList (by simp) _ _ _ hK) ?_
        refine DE.q rfl rfl rfl rfl (V.no rfl) ?_
        refine DE.q rfl rfl rfl rfl (V.as rfl) ?_
        refine DE.nil ?_
        refine DT.nil (MSub.pull rfl <| MSub.pull rfl <| MSub.nil) ?_
        refine Po.then ?_
        refine C.ite rfl (fun h35 => ?_) (fun h35 => ?_)
        · have he : clX r.s c = 12 := by unfold clX; rw [if_neg (by simp [h25]), if_neg h29, if_pos (by simpa using h35)]
          refine C.seq ?_
          refine C.reg ?_
          refine J.q rfl rfl rfl (V.as rfl) ?_
          refine J.nil ?_
          refine Po.then ?_
          refine C.ret ?_
          refine Po.blkR ?_
          refine Po.thenR ?_
          exact Po.end1 rfl rfl rfl fun W hI => ⟨_, _, _, rfl, hle, ⟨by rw [he]; rfl, rfl⟩, (hI.sub (MSub.pull rfl <| MSub.drop <| MSub.drop <| MSub.refl))⟩
        · have h35 : goodLeaf r.s.root c.account (leafOf c.account c.state) c.proof.toList = true := by simpa using h35
          refine C.seq ?_
          refine C.reg ?_
          refine J.q rfl rfl rfl (V.fa rfl fo46_2) ?_
          refine J.q rfl rfl rfl (V.fa rfl fo31_1) ?_
          refine J.q rfl rfl rfl (V.ldS (i := 3) 3 rfl rfl sc3 rfl rfl rfl) ?_
          refine J.q rfl rfl rfl (V.fa rfl fo68_2) ?_
          refine J.q rfl rfl rfl (V.ldS (i := 5) 5 rfl rfl sc3 rfl (by kernel_rfl) rfl) ?_
          refine J.q rfl rfl rfl (V.gtr rfl rfl) ?_
          refine J.q rfl rfl rfl (V.as rfl) ?_
          refine J.nil ?_
          refine Po.then ?_
          refine C.ite rfl (fun h49 => ?_) (fun h49 => ?_)
          · have he : clX r.s c = 5 := by unfold clX; rw [if_neg (by simp [h25]), if_neg h29, if_neg (by simp [h35]), if_pos (by simp at h49; omega)]
            refine C.seq ?_
            refine C.reg ?_
            refine J.q rfl rfl rfl (V.as rfl) ?_
            refine J.nil ?_
            refine Po.then ?_
            refine C.ret ?_
            refine Po.blkR ?_
            refine Po.thenR ?_
            exact Po.end1 rfl rfl rfl fun W hI => ⟨_, _, _, rfl, hle, ⟨by rw [he]; rfl, rfl⟩, (hI.sub (MSub.pull rfl <| MSub.drop <| MSub.drop <| MSub.refl))⟩
          · have he : clX r.s c = 0 := by unfold clX; rw [if_neg (by simp [h25]), if_neg h29, if_neg (by simp [h35]), if_neg (by simp at h49; omega)]
            refine C.skip ?_
            refine Po.blkN ?_
            refine Po.then ?_
            refine C.seq ?_
            refine C.reg ?_
            refine J.q rfl rfl rfl (V.as rfl) ?_
            refine J.nil ?_
            refine Po.then ?_
            refine C.ret ?_
            exact Po.end1 rfl rfl rfl fun W hI => ⟨_, _, _, rfl, hle, ⟨by rw [he]; rfl, rfl⟩, (hI.sub (MSub.pull rfl <| MSub.drop <| MSub.drop <| MSub.refl))⟩

theorem clChk_fg (b : Nat) (l : List RecV) (c : ClaimD) (w0 : World) (ro : Hp) (M : Res) (hK : RoK ro) (hG : RegI ro l) : Fg Tryz.prog 42 #[.pointer (some ⟨b, 0, none⟩), ag c.lv] w0 ro ((110, Rg 139 68 b l) :: M) (fun u ro1 M1 => u = iv (clE (l.map (·.s)) c) ∧ M1 = (110, Rg 139 68 b l) :: M) := by
  by_cases hM : mayClaim c
  · have h0 : 0 ≤ c.side := hM.1.1.1
    by_cases hl : l.length ≤ c.side
    · rw [clE_none hM (by rw [List.length_map]; exact hl)]
      exact (clCheck_none b l c hM hl w0 ro M).fg.mono fun _ _ _ _ h => ⟨h.2.1, h.2.2⟩
    · obtain ⟨r, hr⟩ : ∃ r, l[c.side.toNat]? = some r := ⟨_, List.getElem?_eq_getElem (by omega)⟩
      rw [clE_at hM (mapS_get hr)]
      exact clCheck_fg b l c r w0 ro M hM h0 hr hK hG
  · rw [clE_no hM]
    exact (clCheck_no b c hM w0 ro ((110, Rg 139 68 b l) :: M)).fg.mono fun _ _ _ _ h => ⟨h.1, h.2.2⟩

theorem tkNo1_pu (b bu : Nat) (t : TxD) (v : TxV) (h : Int) (hk2 : t.kind ≠ 2) (hM : ¬ mayTx t) (w0 : World) (ro : Hp) (M : Res) (hT : TxRS ro t v) (hm : TxSm t) : Pu Tryz.prog 20 #[.pointer (some ⟨b, 0, none⟩), .pointer (some ⟨bu, 0, none⟩), ag (t.lv v), iv h] w0 ro M (.int .i64 4) := by
  obtain ⟨vi, vo, vf, vk, vc, vg⟩ := v
  have hI : RS ro vi 298 (rws InD.lv t.ins) := hT.i
  obtain ⟨aI, cI, rfl, _⟩ := hI.shape
  have hO : RS ro vo 9 (rws OutD.lv t.outs) := hT.o
  obtain ⟨aO, cO, rfl, _⟩ := hO.shape
  have hF : RS ro vf 11 (rws FwdD.lv t.fwds) := hT.f
  obtain ⟨aF, cF, rfl, _⟩ := hF.shape
  have hK : RS ro vk 8 (hkR t.par.keys) := hT.k
  obtain ⟨aK, cK, rfl, _⟩ := hK.shape
  have hC : RS ro vc 9 (rws OutD.lv t.cert.outs) := hT.co
  obtain ⟨aC, cC, rfl, _⟩ := hC.shape
  have hG : RS ro vg 282 (rws SignedD.lv t.cert.sigs) := hT.cs
  obtain ⟨aG, cG, rfl, _⟩ := hG.shape
  refine Pu.enter Tryz.func20 rfl rfl ?_
  refine C.seq ?_
  refine C.reg ?_
  refine J.one rfl (JO.boxS (l := 6) rfl rfl fun b6 => ?_)
  refine J.q rfl rfl rfl (V.as rfl) ?_
  refine J.nil ?_
  refine Po.then ?_
  refine C.seq ?_
  refine C.reg ?_
  refine J.q rfl rfl rfl (V.to (V.ldW 6 rfl rfl ag48 (by kernel_rfl)) (show _ = ag (t.lv ⟨.slice aI (rws InD.lv t.ins).length cI, .slice aO (rws OutD.lv t.outs).length cO, .slice aF (rws FwdD.lv t.fwds).length cF, .slice aK (hkR t.par.keys).length cK, .slice aC (rws OutD.lv t.cert.outs).length cC, .slice aG (rws SignedD.lv t.cert.sigs).length cG⟩) from rfl)) ?_
  refine J.callP rfl tx51 rfl (txID_no t _ hk2 hM _ _ _ hT hm) ?_ 
  refine J.q rfl rfl rfl (V.mv rfl) ?_
  refine J.q rfl rfl rfl (V.ex rfl rfl) ?_
  refine J.q rfl rfl rfl (V.ex rfl rfl) ?_
  refine J.one rfl (JO.alloc (l := 9) rfl zr29 fun b9 => ?_)
  refine J.one rfl (JO.st (i := 0) (l := 9) rfl rfl rfl sz29 rfl rfl ?_)
  refine J.q rfl rfl rfl (V.as rfl) ?_
  refine J.nil ?_
  refine Po.then ?_
  refine C.seq ?_
  refine C.block ?_
  refine C.seq ?_
  refine C.reg ?_
  refine J.q rfl rfl rfl (V.mv rfl) ?_
  refine J.q rfl rfl rfl (V.ptrEq rfl Tryz.underlying50) ?_
  refine J.q rfl rfl rfl (V.to (V.mv rfl) (show _ = Value.bool false from rfl)) ?_
  refine J.dn rfl rfl rfl rfl rfl rfl (V.mv rfl) ?_
  refine J.dn rfl rfl rfl rfl rfl rfl (V.ptrEq rfl Tryz.underlying54) ?_
  refine J.q rfl rfl rfl (V.pk rfl rfl rfl) ?_
  refine J.q rfl rfl rfl (V.as rfl) ?_
  refine J.nil ?_
  refine Po.then ?_
  refine C.no rfl ?_
  refine C.seq ?_
  refine C.reg ?_
  refine J.q rfl rfl rfl (V.mv rfl) ?_
  refine J.q rfl rfl rfl (V.no rfl) ?_
  refine J.q rfl rfl rfl (V.to (V.mv rfl) (show _ = Value.bool true from rfl)) ?_
  refine J.sk rfl rfl rfl rfl rfl rfl ?_
  refine J.sk rfl rfl rfl rfl rfl rfl ?_
  refine J.sk rfl rfl rfl rfl rfl rfl ?_
  refine J.q rfl rfl rfl (V.pk rfl rfl rfl) ?_
  refine J.q rfl rfl rfl (V.as rfl) ?_
  refine J.nil ?_
  refine Po.then ?_
  refine C.yes rfl ?_
  refine C.seq ?_
  refine C.reg ?_
  refine J.q rfl rfl rfl (V.as rfl) ?_
  refine J.nil ?_
  refine Po.then ?_
  refine C.ret ?_
  refine Po.blkR ?_
  refine Po.thenR ?_
  exact Po.end1 rfl rfl rfl fun W hI => ⟨rfl, hI.drop.drop⟩

theorem tkNo2_pu (b bu : Nat) (t : TxD) (v : TxV) (h : Int) (hk2 : t.kind ≠ 2) (hM : mayTx t) (hk5 : t.kind ≠ 5) (w0 : World) (ro : Hp) (M : Res) (hT : TxRS ro t v) (hm : TxSm t) (hZ : RoK ro) : Pu Tryz.prog 20 #[.pointer (some ⟨b, 0, none⟩), .pointer (some ⟨bu, 0, none⟩), ag (t.lv v), iv h] w0 ro M (.int .i64 4) := by
  obtain ⟨vi, vo, vf, vk, vc, vg⟩ := v
  have hI : RS ro vi 298 (rws InD.lv t.ins) := hT.i
  obtain ⟨aI, cI, rfl, _⟩ := hI.shape
  have hO : RS ro vo 9 (rws OutD.lv t.outs) := hT.o
  obtain ⟨aO, cO, rfl, _⟩ := hO.shape
  have hF : RS ro vf 11 (rws FwdD.lv t.fwds) := hT.f
  obtain ⟨aF, cF, rfl, _⟩ := hF.shape
  have hK : RS ro vk 8 (hkR t.par.keys) := hT.k
  obtain ⟨aK, cK, rfl, _⟩ := hK.shape
  have hC : RS ro vc 9 (rws OutD.lv t.cert.outs) := hT.co
  obtain ⟨aC, cC, rfl, _⟩ := hC.shape
  have hG : RS ro vg 282 (rws SignedD.lv t.cert.sigs) := hT.cs
  obtain ⟨aG, cG, rfl, _⟩ := hG.shape
  refine Pu.enter Tryz.func20 rfl rfl ?_
  refine C.seq ?_
  refine C.reg ?_
  refine J.one rfl (JO.boxS (l := 6) rfl rfl fun b6 => ?_)
  refine J.q rfl rfl rfl (V.as rfl) ?_
  refine J.nil ?_
  refine Po.then ?_
  refine C.seq ?_
  refine C.reg ?_
  refine J.q rfl rfl rfl (V.to (V.ldW 6 rfl rfl ag48 (by kernel_rfl)) (show _ = ag (t.lv ⟨.slice aI (rws InD.lv t.ins).length cI, .slice aO (rws OutD.lv t.outs).length cO, .slice aF (rws FwdD.lv t.fwds).length cF, .slice aK (hkR t.par.keys).length cK, .slice aC (rws OutD.lv t.cert.outs).length cC, .slice aG (rws SignedD.lv t.cert.sigs).length cG⟩) from rfl)) ?_
  refine J.callP rfl tx51 rfl (txID_yes t _ hk2 hM _ _ _ hT hm hZ) ?_ 
  refine J.q rfl rfl rfl (V.mv rfl) ?_
  refine J.q rfl rfl rfl (V.ex rfl rfl) ?_
  refine J.q rfl rfl rfl (V.ex rfl rfl) ?_
  refine J.one rfl (JO.alloc (l := 9) rfl zr29 fun b9 => ?_)
  refine J.one rfl (JO.st (i := 0) (l := 9) rfl rfl rfl sz29 rfl rfl ?_)
  refine J.q rfl rfl rfl (V.as rfl) ?_
  refine J.nil ?_
  refine Po.then ?_
  refine C.seq ?_
  refine C.block ?_
  refine C.seq ?_
  refine C.reg ?_
  refine J.q rfl rfl rfl (V.mv rfl) ?_
  refine J.q rfl rfl rfl (V.ptrEq rfl Tryz.underlying50) ?_
  refine J.q rfl rfl rfl (V.to (V.mv rfl) (show _ = Value.bool false from rfl)) ?_
  refine J.dn rfl rfl rfl rfl rfl rfl (V.mv rfl) ?_
  refine J.dn rfl rfl rfl rfl rfl rfl (V.ptrEq rfl Tryz.underlying54) ?_
  refine J.q rfl rfl rfl (V.pk rfl rfl rfl) ?_
  refine J.q rfl rfl rfl (V.as rfl) ?_
  refine J.nil ?_
  refine Po.then ?_
  refine C.no rfl ?_
  refine C.seq ?_
  refine C.reg ?_
  refine J.q rfl rfl rfl (V.mv rfl) ?_
  refine J.q rfl rfl rfl (V.no rfl) ?_
  refine J.q rfl rfl rfl (V.to (V.mv rfl) (show _ = Value.bool false from rfl)) ?_
  refine J.dn rfl rfl rfl rfl rfl rfl (V.fa rfl fo48_0) ?_
  refine J.dn rfl rfl rfl rfl rfl rfl (V.ldS (i := 0) 6 rfl rfl sc3 rfl rfl rfl) ?_
  refine J.dn rfl rfl rfl rfl rfl rfl (V.neq rfl rfl) ?_
  refine J.q rfl rfl rfl (V.pk rfl rfl rfl) ?_
  refine J.q rfl rfl rfl (V.as rfl) ?_
  refine J.nil ?_
  refine Po.then ?_
  refine C.ite rfl (fun h31 => ?_) (fun h31 => ?_)
  · refine C.seq ?_
    refine C.reg ?_
    refine J.q rfl rfl rfl (V.as rfl) ?_
    refine J.nil ?_
    refine Po.then ?_
    refine C.ret ?_
    refine Po.blkR ?_
    refine Po.thenR ?_
    exact Po.end1 rfl rfl rfl fun W hI => ⟨rfl, hI.drop.drop⟩
  · exfalso; simp at h31; exact hk5 h31

theorem tkBad_fg (b bu : Nat) (l : List RecV) (u : UD) (t : TxD) (v : TxV) (h : Int) (hM : mayTx t) (hk : t.kind = 5) (w0 : World) (ro : Hp) (M : Res) (hT : TxRS ro t v) (hm : TxSm t) (hZ : RoK ro) (hRG : RegI ro l) (hE : clE (l.map (·.s)) t.claim ≠ 0) : Fg Tryz.prog 20 #[.pointer (some ⟨b, 0, none⟩), .pointer (some ⟨bu, 0, none⟩), ag (t.lv v), iv h] w0 ro ((110, Rg 139 68 b l) :: (140, Ut 131 236 bu (u)) :: M) (fun x ro1 M1 => x = iv (clE (l.map (·.s)) t.claim) ∧ M1 = (110, Rg 139 68 b l) :: (140, Ut 131 236 bu (u)) :: M) := by
  obtain ⟨vi, vo, vf, vk, vc, vg⟩ := v
  have hI : RS ro vi 298 (rws InD.lv t.ins) := hT.i
  obtain ⟨aI, cI, rfl, _⟩ := hI.shape
  have hO : RS ro vo 9 (rws OutD.lv t.outs) := hT.o
  obtain ⟨aO, cO, rfl, _⟩ := hO.shape
  have hF : RS ro vf 11 (rws FwdD.lv t.fwds) := hT.f
  obtain ⟨aF, cF, rfl, _⟩ := hF.shape
  have hK : RS ro vk 8 (hkR t.par.keys) := hT.k
  obtain ⟨aK, cK, rfl, _⟩ := hK.shape
  have hC : RS ro vc 9 (rws OutD.lv t.cert.outs) := hT.co
  obtain ⟨aC, cC, rfl, _⟩ := hC.shape
  have hG : RS ro vg 282 (rws SignedD.lv t.cert.sigs) := hT.cs
  obtain ⟨aG, cG, rfl, _⟩ := hG.shape
  have hk2 : t.kind ≠ 2 := by omega
  refine Fg.enter Tryz.func20 rfl rfl ?_
  have hle : Hp.le ro ro := Hp.le_refl _
  refine C.seq ?_
  refine C.reg ?_
  refine J.one rfl (JO.boxS (l := 6) rfl rfl fun b6 => ?_)
  refine J.q rfl rfl rfl (V.as rfl) ?_
  refine J.nil ?_
  refine Po.then ?_
  refine C.seq ?_
  refine C.reg ?_
  refine J.q rfl rfl rfl (V.to (V.ldW 6 rfl rfl ag48 (by kernel_rfl)) (show _ = ag (t.lv ⟨.slice aI (rws InD.lv t.ins).length cI, .slice aO (rws OutD.lv t.outs).length cO, .slice aF (rws FwdD.lv t.fwds).length cF, .slice aK (hkR t.par.keys).length cK, .slice aC (rws OutD.lv t.cert.outs).length cC, .slice aG (rws SignedD.lv t.cert.sigs).length cG⟩) from rfl)) ?_
  refine J.callP rfl tx51 rfl (txID_yes t _ hk2 hM _ _ _ hT hm hZ) ?_ 
  refine J.q rfl rfl rfl (V.mv rfl) ?_
  refine J.q rfl rfl rfl (V.ex rfl rfl) ?_
  refine J.q rfl rfl rfl (V.ex rfl rfl) ?_
  refine J.one rfl (JO.alloc (l := 9) rfl zr29 fun b9 => ?_)
  refine J.one rfl (JO.st (i := 0) (l := 9) rfl rfl rfl sz29 rfl rfl ?_)
  refine J.q rfl rfl rfl (V.as rfl) ?_
  refine J.nil ?_
  refine Po.then ?_
  refine C.seq ?_
  refine C.block ?_
  refine C.seq ?_
  refine C.reg ?_
  refine J.q rfl rfl rfl (V.mv rfl) ?_
  refine J.q rfl rfl rfl (V.ptrEq rfl Tryz.underlying50) ?_
  refine J.q rfl rfl rfl (V.to (V.mv rfl) (show _ = Value.bool false from rfl)) ?_
  refine J.dn rfl rfl rfl rfl rfl rfl (V.mv rfl) ?_
  refine J.dn rfl rfl rfl rfl rfl rfl (V.ptrEq rfl Tryz.underlying54) ?_
  refine J.q rfl rfl rfl (V.pk rfl rfl rfl) ?_
  refine J.q rfl rfl rfl (V.as rfl) ?_
  refine J.nil ?_
  refine Po.then ?_
  refine C.no rfl ?_
  refine C.seq ?_
  refine C.reg ?_
  refine J.q rfl rfl rfl (V.mv rfl) ?_
  refine J.q rfl rfl rfl (V.no rfl) ?_
  refine J.q rfl rfl rfl (V.to (V.mv rfl) (show _ = Value.bool false from rfl)) ?_
  refine J.dn rfl rfl rfl rfl rfl rfl (V.fa rfl fo48_0) ?_
  refine J.dn rfl rfl rfl rfl rfl rfl (V.ldS (i := 0) 6 rfl rfl sc3 rfl rfl rfl) ?_
  refine J.dn rfl rfl rfl rfl rfl rfl (V.neq rfl rfl) ?_
  refine J.q rfl rfl rfl (V.pk rfl rfl rfl) ?_
  refine J.q rfl rfl rfl (V.as rfl) ?_
  refine J.nil ?_
  refine Po.then ?_
  refine C.ite rfl (fun h31 => ?_) (fun h31 => ?_)
  · exfalso; simp at h31; exact h31 hk
  · refine C.skip ?_
    refine Po.blkN ?_
    refine Po.then ?_
    refine C.seq ?_
    refine C.reg ?_
    refine J.q rfl rfl rfl (V.fa rfl fo48_7) ?_
    refine J.q rfl rfl rfl (V.to (V.ldP (i := 16) (k := 6) 6 rfl rfl ag46 rfl (by kernel_rfl) (by kernel_rfl)) (show _ = ag t.claim.lv from rfl)) ?_
    refine J.one rfl (JO.alloc (l := 11) rfl zr46 fun b11 => ?_)
    refine J.one rfl (JO.stS (l := 11) rfl rfl rfl sz46 (by kernel_rfl) (by kernel_rfl) ?_)
    refine J.nil ?_
    refine Po.then ?_
    refine C.seq ?_
    refine C.seq ?_
    refine C.reg ?_
    refine J.q rfl rfl rfl (V.mv rfl) ?_
    refine J.q rfl rfl rfl (V.ldW 11 rfl rfl ag46 (by kernel_rfl)) ?_
    refine J.callG rfl tx42 rfl (Fg.at (l := 110) rfl (clChk_fg _ _ _ _ _ _ hZ hRG)) ?_ 
    rintro _ ro _ hl ⟨rfl, rfl⟩
    replace hZ := hZ.mono hl
    replace hRG := hRG.mono hl
    replace hle := Hp.le_trans hle hl
    refine J.q rfl rfl rfl (V.as rfl) ?_
    refine J.nil ?_
    refine Po.then ?_
    refine C.seq ?_
    refine C.reg ?_
    refine J.q rfl rfl rfl (V.mv rfl) ?_
    refine J.q rfl rfl rfl (V.neq rfl rfl) ?_
    refine J.nil ?_
    refine Po.then ?_
    refine C.ite rfl (fun h45 => ?_) (fun h45 => ?_)
    · refine C.seq ?_
      refine C.reg ?_
      refine J.q rfl rfl rfl (V.mv rfl) ?_
      refine J.q rfl rfl rfl (V.as rfl) ?_
      refine J.nil ?_
      refine Po.then ?_
      refine C.ret ?_
      refine Po.thenR ?_
      exact Po.end1 rfl rfl rfl fun W hI => ⟨_, _, _, rfl, hle, ⟨rfl, rfl⟩, (hI.sub (MSub.pull rfl <| MSub.pull rfl <| MSub.drop <| MSub.drop <| MSub.drop <| MSub.refl))⟩
    · exfalso; simp at h45; exact hE h45

theorem tkOk_fg (b bu : Nat) (l : List RecV) (u : UD) (t : TxD) (v : TxV) (h : Int) (r : RecV) (hM : mayTx t) (hk : t.kind = 5) (w0 : World) (ro : Hp) (M : Res) (hT : TxRS ro t v) (hm : TxSm t) (hZ : RoK ro) (hRG : RegI ro l) (hE : clE (l.map (·.s)) t.claim = 0) (h0 : 0 ≤ t.claim.side) (hr : l[t.claim.side.toNat]? = some r) (hu : r.s.used.length < 1000) (hUI : UI u) (hs : u.steps.length ≤ 999999) : Fg Tryz.prog 20 #[.pointer (some ⟨b, 0, none⟩), .pointer (some ⟨bu, 0, none⟩), ag (t.lv v), iv h] w0 ro ((110, Rg 139 68 b l) :: (140, Ut 131 236 bu (u)) :: M) (fun x ro1 M1 => ∃ l1, x = iv (tkE (l.map (·.s)) u t h) ∧ l1.map (·.s) = tkS (l.map (·.s)) u t h ∧ RegI ro1 l1 ∧ M1 = (110, Rg 139 68 b l1) :: (140, Ut 131 236 bu (tkU (l.map (·.s)) u t h)) :: M) := by
  obtain ⟨vi, vo, vf, vk, vc, vg⟩ := v
  have hI : RS ro vi 298 (rws InD.lv t.ins) := hT.i
  obtain ⟨aI, cI, rfl, _⟩ := hI.shape
  have hO : RS ro vo 9 (rws OutD.lv t.outs) := hT.o
  obtain ⟨aO, cO, rfl, _⟩ := hO.shape
  have hF : RS ro vf 11 (rws FwdD.lv t.fwds) := hT.f
  obtain ⟨aF, cF, rfl, _⟩ := hF.shape
  have hK : RS ro vk 8 (hkR t.par.keys) := hT.k
  obtain ⟨aK, cK, rfl, _⟩ := hK.shape
  have hC : RS ro vc 9 (rws OutD.lv t.cert.outs) := hT.co
  obtain ⟨aC, cC, rfl, _⟩ := hC.shape
  have hG : RS ro vg 282 (rws SignedD.lv t.cert.sigs) := hT.cs
  obtain ⟨aG, cG, rfl, _⟩ := hG.shape
  have hk2 : t.kind ≠ 2 := by omega
  obtain ⟨hE1, hU1⟩ := tkE_ok (u := u) (h := h) hM hk hE
  rw [hU1]
  have hcx : clX r.s t.claim = 0 := by rw [← clE_at (hM.k5 hk) (mapS_get hr)]; exact hE
  have hi := (List.getElem?_eq_some_iff.1 hr).1
  have hsm := (hRG.at hr).sm
  have hb := hsm.b
  have hmm := hsm.m
  have hc := hsm.c
  have hf := hsm.f
  have hle1 := hsm.le
  have ham := (hM.k5 hk).2.2.1
  have hba := (clX_0 hcx).2.2.2
  refine Fg.enter Tryz.func20 rfl rfl ?_
  have hle : Hp.le ro ro := Hp.le_refl _
  refine C.seq ?_
  refine C.reg ?_
  refine J.one rfl (JO.boxS (l := 6) rfl rfl fun b6 => ?_)
  refine J.q rfl rfl rfl (V.as rfl) ?_
  refine J.nil ?_
  refine Po.then ?_
  refine C.seq ?_
  refine C.reg ?_
  refine J.q rfl rfl rfl (V.to (V.ldW 6 rfl rfl ag48 (by kernel_rfl)) (show _ = ag (t.lv ⟨.slice aI (rws InD.lv t.ins).length cI, .slice aO (rws OutD.lv t.outs).length cO, .slice aF (rws FwdD.lv t.fwds).length cF, .slice aK (hkR t.par.keys).length cK, .slice aC (rws OutD.lv t.cert.outs).length cC, .slice aG (rws SignedD.lv t.cert.sigs).length cG⟩) from rfl)) ?_
  refine J.callP rfl tx51 rfl (txID_yes t _ hk2 hM _ _ _ hT hm hZ) ?_ 
  refine J.q rfl rfl rfl (V.mv rfl) ?_
  refine J.q rfl rfl rfl (V.ex rfl rfl) ?_
  refine J.q rfl rfl rfl (V.ex rfl rfl) ?_
  refine J.one rfl (JO.alloc (l := 9) rfl zr29 fun b9 => ?_)
  refine J.one rfl (JO.st (i := 0) (l := 9) rfl rfl rfl sz29 rfl rfl ?_)
  refine J.q rfl rfl rfl (V.as rfl) ?_
  refine J.nil ?_
  refine Po.then ?_
  refine C.seq ?_
  refine C.block ?_
  refine C.seq ?_
  refine C.reg ?_
  refine J.q rfl rfl rfl (V.mv rfl) ?_
  refine J.q rfl rfl rfl (V.ptrEq rfl Tryz.underlying50) ?_
  refine J.q rfl rfl rfl (V.to (V.mv rfl) (show _ = Value.bool false from rfl)) ?_
  refine J.dn rfl rfl rfl rfl rfl rfl (V.mv rfl) ?_
  refine J.dn rfl rfl rfl rfl rfl rfl (V.ptrEq rfl Tryz.underlying54) ?_
  refine J.q rfl rfl rfl (V.pk rfl rfl rfl) ?_
  refine J.q rfl rfl rfl (V.as rfl) ?_
  refine J.nil ?_
  refine Po.then ?_
  refine C.no rfl ?_
  refine C.seq ?_
  refine C.reg ?_
  refine J.q rfl rfl rfl (V.mv rfl) ?_
  refine J.q rfl rfl rfl (V.no rfl) ?_
  refine J.q rfl rfl rfl (V.to (V.mv rfl) (show _ = Value.bool false from rfl)) ?_
  refine J.dn rfl rfl rfl rfl rfl rfl (V.fa rfl fo48_0) ?_
  refine J.dn rfl rfl rfl rfl rfl rfl (V.ldS (i := 0) 6 rfl rfl sc3 rfl rfl rfl) ?_
  refine J.dn rfl rfl rfl rfl rfl rfl (V.neq rfl rfl) ?_
  refine J.q rfl rfl rfl (V.pk rfl rfl rfl) ?_
  refine J.q rfl rfl rfl (V.as rfl) ?_
  refine J.nil ?_
  refine Po.then ?_
  refine C.ite rfl (fun h31 => ?_) (fun h31 => ?_)
  · exfalso; simp at h31; exact h31 hk
  · refine C.skip ?_
    refine Po.blkN ?_
    refine Po.then ?_
    refine C.seq ?_
    refine C.reg ?_
    refine J.q rfl rfl rfl (V.fa rfl fo48_7) ?_
    refine J.q rfl rfl rfl (V.to (V.ldP (i := 16) (k := 6) 6 rfl rfl ag46 rfl (by kernel_rfl) (by kernel_rfl)) (show _ = ag t.claim.lv from rfl)) ?_
    refine J.one rfl (JO.alloc (l := 11) rfl zr46 fun b11 => ?_)
    refine J.one rfl (JO.stS (l := 11) rfl rfl rfl sz46 (by kernel_rfl) (by kernel_rfl) ?_)
    refine J.nil ?_
    refine Po.then ?_
    refine C.seq ?_
    refine C.seq ?_
    refine C.reg ?_
    refine J.q rfl rfl rfl (V.mv rfl) ?_
    refine J.q rfl rfl rfl (V.ldW 11 rfl rfl ag46 (by kernel_rfl)) ?_
    refine J.callG rfl tx42 rfl (Fg.at (l := 110) rfl (clChk_fg _ _ _ _ _ _ hZ hRG)) ?_ 
    rintro _ ro _ hl ⟨rfl, rfl⟩
    replace hZ := hZ.mono hl
    replace hRG := hRG.mono hl
    replace hle := Hp.le_trans hle hl
    refine J.q rfl rfl rfl (V.as rfl) ?_
    refine J.nil ?_
    refine Po.then ?_
    refine C.seq ?_
    refine C.reg ?_
    refine J.q rfl rfl rfl (V.mv rfl) ?_
    refine J.q rfl rfl rfl (V.neq rfl rfl) ?_
    refine J.nil ?_
    refine Po.then ?_
    refine C.ite rfl (fun h45 => ?_) (fun h45 => ?_)
    · exfalso; simp at h45; exact h45 hE
    · refine C.skip ?_
      refine Po.then ?_
      refine C.seq ?_
      refine C.reg ?_
      refine J.q rfl rfl rfl (V.fa rfl fo46_2) ?_
      refine J.q rfl rfl rfl (V.fa rfl fo31_0) ?_
      refine J.q rfl rfl rfl (V.ldA (i := 2) 11 rfl rfl ag29 rfl rfl) ?_
      refine J.q rfl rfl rfl (V.fa rfl fo46_2) ?_
      refine J.q rfl rfl rfl (V.fa rfl fo31_1) ?_
      refine J.q rfl rfl rfl (V.ldS (i := 3) 11 rfl rfl sc3 rfl rfl rfl) ?_
      refine J.q rfl rfl rfl (V.to (V.bldF rfl zr59 pl59 (Full.one rfl <| Full.one rfl <| Full.nil) (by kernel_rfl) Wc.wl.flat_length) (show _ = ag (OutD.lv ⟨t.claim.state.owner, t.claim.state.amount⟩) by kernel_rfl)) ?_
      refine J.one rfl (JO.bslS (l := 54) rfl el36 rfl rfl rfl (cs1 (out_cz _ _)) (by decide) fun a54 c54 => ?_)
      refine J.q rfl rfl rfl (V.as rfl) ?_
      refine J.nil ?_
      refine Po.then ?_
      refine C.seq ?_
      refine C.seq ?_
      refine C.freezeG (l := 54) rfl (fun _ _ hA hr => hA.rs hr) fun ro hl hO => ?_
      replace hZ := hZ.mono hl
      replace hRG := hRG.mono hl
      replace hle := Hp.le_trans hle hl
      refine C.reg ?_
      refine J.q rfl rfl rfl (V.mv rfl) ?_
      refine J.q rfl rfl rfl (V.ldA (i := 0) 9 rfl rfl ag29 rfl rfl) ?_
      refine J.q rfl rfl rfl (V.mv rfl) ?_
      refine J.q rfl rfl rfl (V.mv rfl) ?_
      refine J.call rfl tx52 rfl (Fn.at (l := 140) rfl (chOuts_fn bu u (hOf 120 [encTx t]) [(⟨t.claim.state.owner, t.claim.state.amount⟩ : OutD)] _ h false _ _ _ hUI (by simp; omega) hO)) ?_ 
      rintro _ _ ⟨rfl, rfl⟩
      refine J.q rfl rfl rfl (V.as rfl) ?_
      refine J.nil ?_
      refine Po.then ?_
      refine C.seq ?_
      refine C.reg ?_
      refine J.q rfl rfl rfl (V.mv rfl) ?_
      refine J.q rfl rfl rfl (V.neq rfl rfl) ?_
      refine J.nil ?_
      refine Po.then ?_
      refine C.ite rfl (fun h61 => ?_) (fun h61 => ?_)
      · have hz : tkE (l.map (·.s)) u t h ≠ 0 := by rw [hE1]; simpa using h61
        refine C.seq ?_
        refine C.reg ?_
        refine J.q rfl rfl rfl (V.mv rfl) ?_
        refine J.q rfl rfl rfl (V.as rfl) ?_
        refine J.nil ?_
        refine Po.then ?_
        refine C.ret ?_
        refine Po.thenR ?_
        exact Po.end1 rfl rfl rfl fun W hI => ⟨_, _, _, rfl, hle, ⟨l, by rw [hE1], (if_neg hz).symm, hRG, rfl⟩, (hI.sub (MSub.pull rfl <| MSub.pull rfl <| MSub.drop <| MSub.drop <| MSub.drop <| MSub.refl))⟩
      · have hz : tkE (l.map (·.s)) u t h = 0 := by rw [hE1]; simpa using h61
        refine C.skip ?_
        refine Po.then ?_
        refine C.seq ?_
        refine C.reg ?_
        refine J.q rfl rfl rfl (V.mv rfl) ?_
        refine J.q rfl rfl rfl (V.fa rfl fo46_0) ?_
        refine J.q rfl rfl rfl (V.ldS (i := 0) 11 rfl rfl sc3 rfl rfl rfl) ?_
        refine J.callG rfl tx22 rfl (Fg.at (l := 110) rfl (SideU_at _ _ _ r _ _ _ h0 hr hRG)) ?_ 
        rintro _ ro _ hl ⟨wk, wo, ws, wu, rfl, hk67, ho67, hs67, rfl⟩
        replace hZ := hZ.mono hl
        replace hRG := hRG.mono hl
        replace hO := hO.mono hl
        replace hle := Hp.le_trans hle hl
        obtain ⟨wka, wkc, rfl, _⟩ := hk67.shape
        obtain ⟨woa, woc, rfl, _⟩ := ho67.shape
        obtain ⟨wsa, wsc, rfl, _⟩ := hs67.shape
        refine Kp.ow (l := 114) rfl fun wua wuc hv67 => ?_
        subst hv67
        refine J.q rfl rfl rfl (V.mv rfl) ?_
        refine J.q rfl rfl rfl (V.ex rfl rfl) ?_
        refine J.q rfl rfl rfl (V.ex rfl rfl) ?_
        refine J.one rfl (JO.alloc (l := 15) rfl zr68 fun b15 => ?_)
        refine J.one rfl (JO.stS (l := 15) rfl rfl rfl sz68 (by kernel_rfl) (by kernel_rfl) ?_)
        refine J.q rfl rfl rfl (V.as rfl) ?_
        refine J.nil ?_
        refine Po.then ?_
        refine C.seq ?_
        refine C.reg ?_
        refine J.q rfl rfl rfl (V.fa rfl fo68_2) ?_
        refine J.q rfl rfl rfl (V.ldS (i := 5) 15 rfl rfl sc3 rfl (by kernel_rfl) rfl) ?_
        refine J.q rfl rfl rfl (V.fa rfl fo46_2) ?_
        refine J.q rfl rfl rfl (V.fa rfl fo31_1) ?_
        refine J.q rfl rfl rfl (V.ldS (i := 3) 11 rfl rfl sc3 rfl rfl rfl) ?_
        refine J.q rfl rfl rfl (V.sub' rfl rfl (by omega)) ?_
        refine J.q rfl rfl rfl (V.fa rfl fo68_2) ?_
        refine J.one rfl (JO.st (i := 5) (l := 15) rfl rfl rfl sz3 rfl (by kernel_rfl) ?_)
        refine J.nil ?_
        refine Po.then ?_
        refine C.seq ?_
        refine C.reg ?_
        refine J.q rfl rfl rfl (V.fa rfl fo68_5) ?_
        refine J.q rfl rfl rfl (V.ldS (i := 8) 15 rfl rfl sc3 rfl (by kernel_rfl) rfl) ?_
        refine J.q rfl rfl rfl (V.fa rfl fo46_2) ?_
        refine J.q rfl rfl rfl (V.fa rfl fo31_1) ?_
        refine J.q rfl rfl rfl (V.ldS (i := 3) 11 rfl rfl sc3 rfl rfl rfl) ?_
        refine J.q rfl rfl rfl (V.add (a := r.s.claimed) (b := t.claim.state.amount) rfl rfl (by omega)) ?_
        refine J.q rfl rfl rfl (V.fa rfl fo68_5) ?_
        refine J.one rfl (JO.st (i := 8) (l := 15) rfl rfl rfl sz3 rfl (by kernel_rfl) ?_)
        refine J.nil ?_
        refine Po.then ?_
        refine C.seq ?_
        refine C.reg ?_
        refine J.q rfl rfl rfl (V.fa rfl fo68_11) ?_
        refine J.q rfl rfl rfl (V.ldS (i := 20) 15 rfl rfl sc66 rfl (by kernel_rfl) rfl) ?_
        refine J.q rfl rfl rfl (V.fa rfl fo46_1) ?_
        refine J.q rfl rfl rfl (V.ldS (i := 1) 11 rfl rfl sc3 rfl rfl rfl) ?_
        refine J.callP rfl tx53 rfl (Pu.lend (l := 114) rfl fun k114 hA114 hl114 hr114 => bsI_pu _ r.s.used t.claim.account _ _ _ (hA114.rs hr114) (by omega) (srt_le hsm.srt)) ?_ 
        refine J.q rfl rfl rfl (V.mv rfl) ?_
        refine J.q rfl rfl rfl (V.ex rfl rfl) ?_
        refine J.q rfl rfl rfl (V.ex rfl rfl) ?_
        refine J.q rfl rfl rfl (V.as rfl) ?_
        refine J.q rfl rfl rfl (V.as rfl) ?_
        refine J.nil ?_
        refine Po.then ?_
        refine C.seq ?_
        refine C.reg ?_
        refine J.q rfl rfl rfl (V.fa rfl fo68_11) ?_
        refine J.q rfl rfl rfl (V.ldS (i := 20) 15 rfl rfl sc66 rfl (by kernel_rfl) rfl) ?_
        refine J.q rfl rfl rfl (V.mv rfl) ?_
        refine J.q rfl rfl rfl (V.fa rfl fo46_1) ?_
        refine J.q rfl rfl rfl (V.ldS (i := 1) 11 rfl rfl sc3 rfl rfl rfl) ?_
        refine J.one rfl (JO.bslS (l := 97) rfl el66 rfl rfl rfl (cs1 (inferInstanceAs (Cz (iv t.claim.account) 1))) (by decide) fun a97 c97 => ?_)
        refine J.call rfl tx54 rfl (Fn.at2 (l := 114) (k := 97) rfl rfl (insI_fn 114 97 _ _ r.s.used (posI r.s.used t.claim.account) t.claim.account _ _ _ (posI_le _ _) (by omega))) ?_ 
        rintro _ _ ⟨a98, c98, rfl, rfl⟩
        refine J.q rfl rfl rfl (V.fa rfl fo68_11) ?_
        refine J.one rfl (JO.st (i := 20) (l := 15) rfl rfl rfl sz66 rfl (by kernel_rfl) ?_)
        refine J.nil ?_
        refine Po.then ?_
        refine C.seq ?_
        refine C.freezeG (l := 114) rfl (fun _ _ hA hr => hA.rs hr) fun ro hl hU => ?_
        replace hZ := hZ.mono hl
        replace hRG := hRG.mono hl
        replace hO := hO.mono hl
        replace hk67 := hk67.mono hl
        replace ho67 := ho67.mono hl
        replace hs67 := hs67.mono hl
        replace hle := Hp.le_trans hle hl
        refine C.reg ?_
        refine J.q rfl rfl rfl (V.mv rfl) ?_
        refine J.q rfl rfl rfl (V.fa rfl fo46_0) ?_
        refine J.q rfl rfl rfl (V.ldS (i := 0) 11 rfl rfl sc3 rfl rfl rfl) ?_
        refine J.q rfl rfl rfl (V.to (V.ldW 15 rfl rfl ag68 (by kernel_rfl)) (show _ = ag (RecV.lv ⟨clR r.s t.claim, (.slice wka (hkR r.s.par.keys).length wkc), (.slice woa (rws OutD.lv r.s.cert.outs).length woc), (.slice wsa (rws SignedD.lv r.s.cert.sigs).length wsc), .slice a98 (intR (insL r.s.used (posI r.s.used t.claim.account) t.claim.account)).length c98⟩) from rfl)) ?_
        refine J.callG rfl tx49 rfl (Fg.at (l := 110) rfl (Set_at b l t.claim.side ⟨clR r.s t.claim, (.slice wka (hkR r.s.par.keys).length wkc), (.slice woa (rws OutD.lv r.s.cert.outs).length woc), (.slice wsa (rws SignedD.lv r.s.cert.sigs).length wsc), .slice a98 (intR (insL r.s.used (posI r.s.used t.claim.account) t.claim.account)).length c98⟩ _ _ _ h0 hi hRG ⟨⟨hk67, ho67, hs67, hU⟩, clR_sm hsm hcx (by omega) hu⟩)) ?_ 
        rintro _ ro _ hl ⟨r104, rfl, hr104, hRG, rfl⟩
        replace hZ := hZ.mono hl
        replace hO := hO.mono hl
        replace hk67 := hk67.mono hl
        replace ho67 := ho67.mono hl
        replace hs67 := hs67.mono hl
        replace hU := hU.mono hl
        replace hle := Hp.le_trans hle hl
        refine J.nil ?_
        refine Po.then ?_
        refine C.seq ?_
        refine C.reg ?_
        refine J.q rfl rfl rfl (V.as rfl) ?_
        refine J.nil ?_
        refine Po.then ?_
        refine C.ret ?_
        exact Po.end1 rfl rfl rfl fun W hI => ⟨_, _, _, rfl, hle, ⟨_, by rw [hz]; rfl, by rw [mapS_set, hr104]; unfold tkS; rw [if_pos hz, modify_set _ (mapS_get hr)], hRG, rfl⟩, (hI.sub (MSub.pull rfl <| MSub.pull rfl <| MSub.drop <| MSub.drop <| MSub.drop <| MSub.drop <| MSub.drop <| MSub.refl))⟩

theorem tk_fg (b bu : Nat) (l : List RecV) (u : UD) (t : TxD) (v : TxV) (h : Int) (w0 : World) (ro : Hp) (M : Res) (hk2 : t.kind ≠ 2) (hT : TxRS ro t v) (hm : TxSm t) (hZ : RoK ro) (hRG : RegI ro l) (hu : ∀ r ∈ l, r.s.used.length < 1000) (hUI : UI u) (hs : u.steps.length ≤ 999999) : Fg Tryz.prog 20 #[.pointer (some ⟨b, 0, none⟩), .pointer (some ⟨bu, 0, none⟩), ag (t.lv v), iv h] w0 ro ((110, Rg 139 68 b l) :: (140, Ut 131 236 bu (u)) :: M) (fun x ro1 M1 => ∃ l1, x = iv (tkE (l.map (·.s)) u t h) ∧ l1.map (·.s) = tkS (l.map (·.s)) u t h ∧ RegI ro1 l1 ∧ M1 = (110, Rg 139 68 b l1) :: (140, Ut 131 236 bu (tkU (l.map (·.s)) u t h)) :: M) := by
  by_cases hM : mayTx t
  · by_cases hk : t.kind = 5
    · by_cases hE : clE (l.map (·.s)) t.claim = 0
      · have hmc := hM.k5 hk
        have h0 : 0 ≤ t.claim.side := hmc.1.1.1
        obtain ⟨r, hr⟩ : ∃ r, l[t.claim.side.toNat]? = some r := by
          by_cases hl : l.length ≤ t.claim.side
          · rw [clE_none hmc (by rw [List.length_map]; exact hl)] at hE; cases hE
          · exact ⟨_, List.getElem?_eq_getElem (by omega)⟩
        exact tkOk_fg b bu l u t v h r hM hk w0 ro M hT hm hZ hRG hE h0 hr (hu r (List.mem_of_getElem? hr)) hUI hs
      · obtain ⟨e1, e2, e3⟩ := tkE_bad (u := u) (h := h) hM hk hE
        rw [e1, e2, e3]
        exact (tkBad_fg b bu l u t v h hM hk w0 ro M hT hm hZ hRG hE).mono fun _ _ _ hl hh => ⟨l, hh.1, rfl, hRG.mono hl, hh.2⟩
    · obtain ⟨e1, e2, e3⟩ := tkE_no (l := (l.map (·.s))) (u := u) (h := h) (t := t) (.inr hk)
      rw [e1, e2, e3]
      exact (tkNo2_pu b bu t v h hk2 hM hk w0 ro _ hT hm hZ).fg.mono fun _ _ _ hl hh => ⟨l, hh.1, rfl, hRG.mono hl, hh.2.2⟩
  · obtain ⟨e1, e2, e3⟩ := tkE_no (l := (l.map (·.s))) (u := u) (h := h) (t := t) (.inl hM)
    rw [e1, e2, e3]
    exact (tkNo1_pu b bu t v h hk2 hM w0 ro _ hT hm).fg.mono fun _ _ _ hl hh => ⟨l, hh.1, rfl, hRG.mono hl, hh.2.2⟩
end Go.Proofs
namespace Go.Proofs
open Go Go.Sx Go.Db
set_option maxRecDepth 100000
theorem tx46 : Tx Tryz.prog 46 := ⟨Tryz.f46, Tryz.func46, rfl, by kernel_rfl⟩
theorem tx47 : Tx Tryz.prog 47 := ⟨Tryz.f47, Tryz.func47, rfl, by kernel_rfl⟩
theorem sz48 : (Tryz.prog.info? 48).map (·.size) = some 170 := by kernel_rfl
theorem tx29 : Tx Tryz.prog 29 := ⟨Tryz.f29, Tryz.func29, rfl, by kernel_rfl⟩
theorem tx48 : Tx Tryz.prog 48 := ⟨Tryz.f48, Tryz.func48, rfl, by kernel_rfl⟩
theorem sz4 : (Tryz.prog.info? 4).map (·.size) = some 1 := by kernel_rfl
theorem tx50 : Tx Tryz.prog 50 := ⟨Tryz.f50, Tryz.func50, rfl, by kernel_rfl⟩

theorem fair_pu (va vm : Value) (at_ am : List UInt16) (w0 : World) (ro : Hp) (M : Res) (hAt : RS ro va 1 (u16R at_)) (hAm : RS ro vm 1 (u16R am)) : Pu Tryz.prog 14 #[ag [(1, va), (1, vm)]] w0 ro M (.bool (decide (fairP at_ am))) := by
  obtain ⟨aA, cA, rfl, _⟩ := hAt.shape
  obtain ⟨aM, cM, rfl, _⟩ := hAm.shape
  refine Pu.enter Tryz.func14 rfl rfl ?_
  refine C.seq ?_
  refine C.reg ?_
  refine J.one rfl (JO.boxS (l := 1) rfl rfl fun b1 => ?_)
  refine J.q rfl rfl rfl (V.as rfl) ?_
  refine J.nil ?_
  refine Po.then ?_
  refine C.seq ?_
  refine C.seq ?_
  refine C.reg ?_
  refine J.q rfl rfl rfl (V.fa rfl fo24_0) ?_
  refine J.q rfl rfl rfl (V.ldS (i := 0) 1 rfl rfl sc22 rfl rfl rfl) ?_
  refine J.q rfl rfl rfl (V.to (V.lenR rfl hAt Tryz.underlying22) (by rw [u16R_length])) ?_
  refine J.q rfl rfl rfl (V.gtr rfl rfl) ?_
  refine J.mvB rfl rfl fun gb9 hgb9 => ?_
  refine J.gv rfl rfl rfl rfl rfl rfl (fun hg => by subst hg; exact V.fa rfl fo24_1) ?_
  refine J.gv rfl rfl rfl rfl rfl rfl (fun hg => by subst hg; exact V.ldS (i := 1) 1 rfl rfl sc22 rfl rfl rfl) ?_
  refine J.gv rfl rfl rfl rfl rfl rfl (fun hg => by subst hg; exact V.to (V.lenR rfl hAm Tryz.underlying22) (by rw [u16R_length])) ?_
  refine J.gv rfl rfl rfl rfl rfl rfl (fun hg => by subst hg; exact V.fa rfl fo24_0) ?_
  refine J.gv rfl rfl rfl rfl rfl rfl (fun hg => by subst hg; exact V.ldS (i := 0) 1 rfl rfl sc22 rfl rfl rfl) ?_
  refine J.gv rfl rfl rfl rfl rfl rfl (fun hg => by subst hg; exact V.to (V.lenR rfl hAt Tryz.underlying22) (by rw [u16R_length])) ?_
  refine J.gv rfl rfl rfl rfl rfl rfl (fun hg => by subst hg; exact V.lss rfl rfl) ?_
  refine J.q rfl rfl rfl (V.or rfl rfl rfl) ?_
  refine J.mvB rfl rfl fun gb18 hgb18 => ?_
  refine J.gv rfl rfl rfl rfl rfl rfl (fun hg => by subst hg; exact V.fa rfl fo24_1) ?_
  refine J.gv rfl rfl rfl rfl rfl rfl (fun hg => by subst hg; exact V.ldS (i := 1) 1 rfl rfl sc22 rfl rfl rfl) ?_
  refine J.gv rfl rfl rfl rfl rfl rfl (fun hg => by subst hg; exact V.to (V.lenR rfl hAm Tryz.underlying22) (by rw [u16R_length])) ?_
  refine J.gv rfl rfl rfl rfl rfl rfl (fun hg => by subst hg; exact V.gtr rfl rfl) ?_
  refine J.q rfl rfl rfl (V.or rfl rfl rfl) ?_
  refine J.nil ?_
  refine Po.then ?_
  refine C.ite rfl (fun h23 => ?_) (fun h23 => ?_)
  · subst hgb9 hgb18
    try simp only [Bool.and_eq_true, Bool.or_eq_true, Bool.and_eq_false_iff, Bool.or_eq_false_iff, Bool.not_eq_true', Bool.not_eq_false', decide_eq_true_eq, decide_eq_false_iff_not] at h23
    have hno : ¬ fairP at_ am := fun hf => by have := hf.1; simp at h23; omega
    rw [decide_eq_false hno]
    refine C.seq ?_
    refine C.reg ?_
    refine J.q rfl rfl rfl (V.as rfl) ?_
    refine J.nil ?_
    refine Po.then ?_
    refine C.ret ?_
    refine Po.thenR ?_
    exact Po.end1 rfl rfl rfl fun W hI => ⟨rfl, hI.drop⟩
  · subst hgb9 hgb18
    try simp only [Bool.and_eq_true, Bool.or_eq_true, Bool.and_eq_false_iff, Bool.or_eq_false_iff, Bool.not_eq_true', Bool.not_eq_false', decide_eq_true_eq, decide_eq_false_iff_not] at h23
    have hbs : at_.length ≤ 12 ∧ at_.length ≤ am.length ∧ am.length ≤ 50 := by simp at h23; omega
    refine C.skip ?_
    refine Po.then ?_
    refine C.seq ?_
    refine C.seq ?_
    refine C.reg ?_
    refine J.q rfl rfl rfl (V.as rfl) ?_
    refine J.nil ?_
    refine Po.then ?_
    refine C.block ?_
    refine C.loopP (fun (k : Nat) => k ≤ at_.length ∧ (at_.take k).Nodup) (fun (k : Nat) => [(3, .int .i64 (k : Int)), (1, .pointer (some ⟨b1, 0, none⟩))]) (fun (k : Nat) => (1, St b1 [(1, .slice aA (u16R at_).length cA), (1, .slice aM (u16R am).length cM)] 24) :: M) (fun (k : Nat) => at_.length - k) 0 ⟨by omega, by simp⟩ (Sub.cons rfl <| Sub.cons rfl <| Sub.nil) (MSub.pull rfl <| MSub.refl) fun k hok => ?_
    have hok1 := hok; clear hok
    refine C.seq ?_
    refine C.seq ?_
    refine C.reg ?_
    refine J.q rfl rfl rfl (V.mv rfl) ?_
    refine J.q rfl rfl rfl (V.fa rfl fo24_0) ?_
    refine J.q rfl rfl rfl (V.ldS (i := 0) 1 rfl rfl sc22 rfl rfl rfl) ?_
    refine J.q rfl rfl rfl (V.to (V.lenR rfl hAt Tryz.underlying22) (by rw [u16R_length])) ?_
    refine J.q rfl rfl rfl (V.lss rfl rfl) ?_
    refine J.nil ?_
    refine Po.then ?_
    refine C.ifd rfl (fun h28 => ?_) (fun h28 => ?_)
    · have hk : k < at_.length := by omega
      obtain ⟨x, hx⟩ : ∃ x, at_[k]? = some x := ⟨_, List.getElem?_eq_getElem hk⟩
      refine C.skip ?_
      refine Po.then ?_
      refine C.seq ?_
      refine C.block ?_
      refine C.seq ?_
      refine C.reg ?_
      refine J.q rfl rfl rfl (V.as rfl) ?_
      refine J.nil ?_
      refine Po.then ?_
      refine C.block ?_
      refine C.loopP (fun (j : Nat) => j ≤ k ∧ ∀ m, m < j → ∀ y, at_[m]? = some y → y ≠ x) (fun (j : Nat) => [(4, .int .i64 (j : Int)), (3, .int .i64 (k : Int)), (1, .pointer (some ⟨b1, 0, none⟩))]) (fun (j : Nat) => (1, St b1 [(1, .slice aA (u16R at_).length cA), (1, .slice aM (u16R am).length cM)] 24) :: M) (fun (j : Nat) => k - j) 0 ⟨by omega, fun m hm => by omega⟩ (Sub.cons rfl <| Sub.cons rfl <| Sub.cons rfl <| Sub.nil) (MSub.pull rfl <| MSub.refl) fun j hok => ?_
      have hok2 := hok; clear hok
      refine C.seq ?_
      refine C.seq ?_
      refine C.reg ?_
      refine J.q rfl rfl rfl (V.mv rfl) ?_
      refine J.q rfl rfl rfl (V.mv rfl) ?_
      refine J.q rfl rfl rfl (V.lss rfl rfl) ?_
      refine J.nil ?_
      refine Po.then ?_
      refine C.ifd rfl (fun h33 => ?_) (fun h33 => ?_)
      · have hj : j < k := by omega
        obtain ⟨z, hz⟩ : ∃ z, at_[j]? = some z := ⟨_, List.getElem?_eq_getElem (by omega)⟩
        refine C.skip ?_
        refine Po.then ?_
        refine C.seq ?_
        refine C.block ?_
        refine C.seq ?_
        refine C.draw [] [0, 1, 2, 3, 4, 5, 6, 7, 8, 9, 10] [(1, St b1 [(1, .slice aA (u16R at_).length cA), (1, .slice aM (u16R am).length cM)] 24)] mixed (by kernel_rfl) (by kernel_rfl) ?_
        refine DE.q rfl rfl rfl rfl (V.fa rfl fo24_0) ?_
        refine DE.q rfl rfl rfl rfl (V.ldS (i := 0) 1 rfl rfl sc22 rfl rfl rfl) ?_
        refine DE.q rfl rfl rfl rfl (V.mv rfl) ?_
        refine DE.q rfl rfl rfl rfl (V.iaR rfl hAt rfl sl22 (by rw [u16R_length]; omega)) ?_
        refine DE.q rfl rfl rfl rfl (V.ldRs rfl hAt (u16R_get hz) sc25) ?_
        refine DE.q rfl rfl rfl rfl (V.fa rfl fo24_0) ?_
        refine DE.q rfl rfl rfl rfl (V.ldS (i := 0) 1 rfl rfl sc22 rfl rfl rfl) ?_
        refine DE.q rfl rfl rfl rfl (V.mv rfl) ?_
        refine DE.q rfl rfl rfl rfl (V.iaR rfl hAt rfl sl22 (by rw [u16R_length]; omega)) ?_
        refine DE.q rfl rfl rfl rfl (V.ldRs rfl hAt (u16R_get hx) sc25) ?_
        refine DE.q rfl rfl rfl rfl (V.eql rfl rfl) ?_
        refine DE.nil ?_
        refine DT.nil (MSub.pull rfl <| MSub.nil) ?_
        refine Po.then ?_
        refine C.ifd rfl (fun h46 => ?_) (fun h46 => ?_)
        · have hzx : z = x := uv_inj.1 h46
          subst hzx
          have hno : ¬ fairP at_ am := fun hf => nodup_not hj hz hx hf.2
          rw [decide_eq_false hno]
          refine C.seq ?_
          refine C.reg ?_
          refine J.q rfl rfl rfl (V.as rfl) ?_
          refine J.nil ?_
          refine Po.then ?_
          refine C.ret ?_
          refine Po.blkR ?_
          refine Po.thenR ?_
          refine Po.thenR ?_
          refine Po.blkR ?_
          refine Po.blkR ?_
          refine Po.thenR ?_
          refine Po.thenR ?_
          refine Po.blkR ?_
          refine Po.thenR ?_
          exact Po.end1 rfl rfl rfl fun W hI => ⟨rfl, hI.drop⟩
        · refine C.skip ?_
          refine Po.blkN ?_
          refine Po.then ?_
          refine C.reg ?_
          refine J.q rfl rfl rfl (V.mv rfl) ?_
          refine J.q rfl rfl rfl (V.add rfl rfl (by omega)) ?_
          refine J.q rfl rfl rfl (V.as rfl) ?_
          refine J.nil ?_
          exact Po.roundP (j + 1) ⟨by omega, fun m hm y hy => by
                rcases Nat.lt_or_ge m j with hmj | hmj
                · exact hok2.2 m hmj y hy
                · obtain rfl : m = j := by omega
                  rw [hz] at hy; cases hy; intro e; subst e; exact h46 rfl⟩ (Sub.cons rfl <| Sub.cons rfl <| Sub.cons rfl <| Sub.nil) (MSub.pull rfl <| MSub.refl) (by first | omega | (dsimp only; omega))
      · obtain rfl : k = j := by have := hok2.1; omega
        refine C.exit ?_
        refine Po.thenX ?_
        refine Po.thenX ?_
        refine Po.blkX ?_
        refine Po.blkN ?_
        refine Po.then ?_
        refine C.reg ?_
        refine J.q rfl rfl rfl (V.mv rfl) ?_
        refine J.q rfl rfl rfl (V.add rfl rfl (by omega)) ?_
        refine J.q rfl rfl rfl (V.as rfl) ?_
        refine J.nil ?_
        exact Po.roundP (k + 1) ⟨by omega, nodup_step hok1.2 hx hok2.2⟩ (Sub.cons rfl <| Sub.cons rfl <| Sub.nil) (MSub.pull rfl <| MSub.refl) (by first | omega | (dsimp only; omega))
    · obtain rfl : k = at_.length := by have := hok1.1; omega
      have hyes : fairP at_ am := ⟨hbs, by have := hok1.2; rwa [List.take_length] at this⟩
      rw [decide_eq_true hyes]
      refine C.exit ?_
      refine Po.thenX ?_
      refine Po.thenX ?_
      refine Po.blkX ?_
      refine Po.then ?_
      refine C.seq ?_
      refine C.reg ?_
      refine J.q rfl rfl rfl (V.as rfl) ?_
      refine J.nil ?_
      refine Po.then ?_
      refine C.ret ?_
      exact Po.end1 rfl rfl rfl fun W hI => ⟨rfl, hI.drop⟩

theorem proveV_pu (b : Nat) (va vh : Value) (l : LL) (i : Nat) (hi : i < 65536) (w0 : World) (ro : Hp) (M : Res) (hB : Bx ro b [(1, va), (1, vh)] 177) (hA : RS ro va 1 (atR l)) (hH : RS ro vh 8 (hashR l)) (hn : l.length ≤ 1000000) : Pu Tryz.prog 47 #[.pointer (some ⟨b, 0, none⟩), .int .i64 (i : Int)] w0 ro M (.tuple #[hvs (proofV l i), .bool true]) := by
  rw [← proofV_hvs]
  exact Prove_pu b va vh l i hi w0 ro M hB hA hH hn

theorem claim0_pu (va vm : Value) (at_ am : List UInt16) (i : Nat) (hi : i ≤ 1000000) (w0 : World) (ro : Hp) (M : Res) (hAt : RS ro va 1 (u16R at_)) (hAm : RS ro vm 1 (u16R am)) (hF : fairP at_ am) : Pu Tryz.prog 17 #[ag [(1, va), (1, vm)], .int .i64 (i : Int), .int .u8 0] w0 ro M (ag ((clTx (claim0 at_ am i)).lv txvN)) := by
  obtain ⟨aA, cA, rfl, _⟩ := hAt.shape
  obtain ⟨aM, cM, rfl, _⟩ := hAm.shape
  refine Pu.enter Tryz.func17 rfl rfl ?_
  refine C.seq ?_
  refine C.reg ?_
  refine J.one rfl (JO.boxS (l := 3) rfl rfl fun b3 => ?_)
  refine J.one rfl (JO.alloc (l := 6) rfl zr48 fun b6 => ?_)
  refine J.nil ?_
  refine Po.then ?_
  refine C.seq ?_
  refine C.reg ?_
  refine J.q rfl rfl rfl (V.bld rfl zr46 pl46 (Put.nil)) ?_
  refine J.one rfl (JO.alloc (l := 7) rfl zr46 fun b7 => ?_)
  refine J.one rfl (JO.stS (l := 7) rfl rfl rfl sz46 (by kernel_rfl) (by kernel_rfl) ?_)
  refine J.nil ?_
  refine Po.then ?_
  refine C.seq ?_
  refine C.seq ?_
  refine C.reg ?_
  refine J.q rfl rfl rfl (V.mv rfl) ?_
  refine J.q rfl rfl rfl (V.fa rfl fo24_0) ?_
  refine J.q rfl rfl rfl (V.ldS (i := 0) 3 rfl rfl sc22 rfl rfl rfl) ?_
  refine J.q rfl rfl rfl (V.to (V.lenR rfl hAt Tryz.underlying22) (by rw [u16R_length])) ?_
  refine J.q rfl rfl rfl (V.lss rfl rfl) ?_
  refine J.nil ?_
  refine Po.then ?_
  refine C.ifd rfl (fun h13 => ?_) (fun h13 => ?_)
  · have hk : i < at_.length := by omega
    have hx : at_[i]? = some (at_.getD i 0) := getD_some hk
    have hc : (claim0 at_ am i) = ⟨0, ((at_.getD i 0).toNat : Int), acState am i, proofV (acTree at_ am) (at_.getD i 0).toNat⟩ := if_pos hk
    refine C.seq ?_
    refine C.draw [10, 12] [0, 1, 2, 3, 4, 5, 6, 7, 8, 9, 11] [(3, St b3 [(1, .slice aA (u16R at_).length cA), (1, .slice aM (u16R am).length cM)] 24)] mixed (by kernel_rfl) (by kernel_rfl) ?_
    refine DE.q rfl rfl rfl rfl (V.fa rfl fo24_0) ?_
    refine DE.q rfl rfl rfl rfl (V.ldS (i := 0) 3 rfl rfl sc22 rfl rfl rfl) ?_
    refine DE.q rfl rfl rfl rfl (V.mv rfl) ?_
    refine DE.q rfl rfl rfl rfl (V.iaR rfl hAt rfl sl22 (by rw [u16R_length]; omega)) ?_
    refine DE.q rfl rfl rfl rfl (V.ldRs rfl hAt (u16R_get hx) sc25) ?_
    refine DE.q rfl rfl rfl rfl (V.to (V.cv rfl Tryz.underlying25 Tryz.underlying3) (u16_int _)) ?_
    refine DE.q rfl rfl rfl rfl (V.ldW 3 rfl rfl ag24 rfl) ?_
    refine DE.q rfl rfl rfl rfl (V.mv rfl) ?_
    refine DE.call rfl rfl rfl rfl tx15 rfl (fun N hN => State_pu _ _ at_ am _ (by have := hF.1.2.1; omega) hF.1.2.2 _ _ _ hAt hAm) ?_
    refine DE.q rfl rfl rfl rfl (V.fa rfl fo46_1) ?_
    refine DE.q rfl rfl rfl rfl (V.fa rfl fo46_2) ?_
    refine DE.nil ?_
    refine DT.o (by kernel_rfl) (MSub.pull rfl <| MSub.nil) rfl rfl fun Kc hKc => ?_
    refine JO.st (i := 1) (l := 7) rfl rfl rfl sz3 rfl rfl (hKc _ _ _ (Hp.le_refl _) ?_)
    clear hKc Kc
    refine DT.o (by kernel_rfl) (MSub.pull rfl <| MSub.nil) rfl rfl fun Kc hKc => ?_
    refine JO.stP (i := 2) (k := 3) (l := 7) rfl rfl rfl sz31 (by kernel_rfl) (by kernel_rfl) (by kernel_rfl) (hKc _ _ _ (Hp.le_refl _) ?_)
    clear hKc Kc
    refine DT.nil' (by kernel_rfl) ?_
    refine Po.then ?_
    refine C.draw [1, 4, 5, 6, 7, 9] [0, 2, 3, 8] [(3, St b3 [(1, .slice aA (u16R at_).length cA), (1, .slice aM (u16R am).length cM)] 24), (7, St b7 (ClaimD.lv ⟨0, ((at_.getD i 0).toNat : Int), acState am i, z16⟩) 46)] mixed (by kernel_rfl) (by kernel_rfl) ?_
    refine DE.q rfl rfl rfl rfl (V.ldW 3 rfl rfl ag24 rfl) ?_
    refine DE.q rfl rfl rfl rfl (V.fa rfl fo46_1) ?_
    refine DE.q rfl rfl rfl rfl (V.ldS (i := 1) 7 rfl rfl sc3 rfl rfl rfl) ?_
    refine DE.q rfl rfl rfl rfl (V.fa rfl fo46_3) ?_
    refine DE.nil ?_
    refine DT.o (by kernel_rfl) (MSub.pull rfl <| MSub.pull rfl <| MSub.nil) rfl rfl fun Kc hKc => ?_
    refine JO.call rfl tx46 rfl (Tree_fn _ _ at_ am hF.1.1 hF.1.2.1 hF.1.2.2 _ _ _ hAt hAm) ?_
    rintro _ _ ⟨b27, x27, y27, rfl, rfl⟩
    refine hKc _ _ _ (Hp.le_refl _) ?_
    clear hKc Kc
    refine DT.o (by kernel_rfl) (MSub.pull rfl <| MSub.pull rfl <| MSub.nil) rfl rfl fun Kc hKc => ?_
    refine JO.callP rfl tx47 rfl (Pu.lend (l := 105) rfl fun k105 hA105 hl105 hr105 => Pu.lend (l := 115) rfl fun k115 hA115 hl115 hr115 => Pu.lend (l := 125) rfl fun k125 hA125 hl125 hr125 => proveV_pu _ _ _ (acTree at_ am) (at_.getD i 0).toNat (UInt16.toNat_lt _) _ _ _ (((Bx.of hA105 hr105).mono hl115).mono hl125) ((hA115.rs hr115).mono hl125) (hA125.rs hr125) (acTree_sm hF.1.1)) (hKc _ _ _ (Hp.le_refl _) ?_)
    clear hKc Kc
    refine DT.o (by kernel_rfl) (MSub.pull rfl <| MSub.pull rfl <| MSub.nil) rfl rfl fun Kc hKc => ?_
    refine JO.q rfl rfl (V.mv rfl) (hKc _ _ _ (Hp.le_refl _) ?_)
    clear hKc Kc
    refine DT.o2 (i := 6) (j := 7) (by kernel_rfl) (by decide) (MSub.pull rfl <| MSub.pull rfl <| MSub.nil) ?_ ?_
    · refine DO.o (rest := [7, 9]) (by decide) (by decide) rfl rfl fun Kc hKc => ?_
      refine JO.q rfl rfl (V.ex rfl rfl) (hKc _ _ _ (Hp.le_refl _) ?_)
      clear hKc Kc
      refine DT.o2 (i := 7) (j := 9) (by kernel_rfl) (by decide) (MSub.pull rfl <| MSub.pull rfl <| MSub.nil) ?_ ?_
      · refine DO.o (rest := [9]) (by decide) (by decide) rfl rfl fun Kc hKc => ?_
        refine JO.q rfl rfl (V.ex rfl rfl) (hKc _ _ _ (Hp.le_refl _) ?_)
        clear hKc Kc
        refine DT.o (by kernel_rfl) (MSub.pull rfl <| MSub.pull rfl <| MSub.nil) rfl rfl fun Kc hKc => ?_
        refine JO.st (i := 5) (l := 7) rfl rfl rfl sz44 rfl (by kernel_rfl) (hKc _ _ _ (Hp.le_refl _) ?_)
        clear hKc Kc
        refine DT.nil' (by kernel_rfl) ?_
        refine Po.then ?_
        refine C.cut (fun (y : Unit) => [(6, .pointer (some ⟨b6, 0, none⟩)), (7, .pointer (some ⟨b7, 0, none⟩)), (2, .int .u8 0)]) (fun (y : Unit) => (7, St b7 (claim0 at_ am i).lv 46) :: (6, St b6 (TxD.zero.lv txvN) 48) :: M) ?_ fun y => ?_
        · refine C.seq ?_
          refine C.reg ?_
          refine J.q rfl rfl rfl (V.mv rfl) ?_
          refine J.nil ?_
          refine Po.then ?_
          refine C.block ?_
          refine C.seq ?_
          refine C.reg ?_
          refine J.q rfl rfl rfl (V.eql rfl rfl) ?_
          refine J.q rfl rfl rfl (V.as rfl) ?_
          refine J.nil ?_
          refine Po.then ?_
          refine C.no rfl ?_
          refine C.seq ?_
          refine C.reg ?_
          refine J.q rfl rfl rfl (V.eql rfl rfl) ?_
          refine J.q rfl rfl rfl (V.as rfl) ?_
          refine J.nil ?_
          refine Po.then ?_
          refine C.no rfl ?_
          refine C.seq ?_
          refine C.reg ?_
          refine J.q rfl rfl rfl (V.eql rfl rfl) ?_
          refine J.q rfl rfl rfl (V.as rfl) ?_
          refine J.nil ?_
          refine Po.then ?_
          refine C.no rfl ?_
          refine C.seq ?_
          refine C.reg ?_
          refine J.q rfl rfl rfl (V.eql rfl rfl) ?_
          refine J.q rfl rfl rfl (V.as rfl) ?_
          refine J.nil ?_
          refine Po.then ?_
          refine C.no rfl ?_
          refine C.seq ?_
          refine C.reg ?_
          refine J.q rfl rfl rfl (V.eql rfl rfl) ?_
          refine J.q rfl rfl rfl (V.as rfl) ?_
          refine J.nil ?_
          refine Po.then ?_
          refine C.no rfl ?_
          refine C.skip ?_
          refine Po.blkN ?_
          exact Po.cut () (Sub.cons rfl <| Sub.cons rfl <| Sub.cons rfl <| Sub.nil) (MSub.pullE rfl (by rw [hc]; rfl) <| MSub.pullE rfl (by rfl) <| MSub.drop <| MSub.drop <| MSub.drop <| MSub.drop <| MSub.refl)
        refine C.seq ?_
        refine C.reg ?_
        refine J.q rfl rfl rfl (V.to (V.ldW 7 rfl rfl ag46 (by kernel_rfl)) (show _ = ag (claim0 at_ am i).lv from rfl)) ?_
        refine J.q rfl rfl rfl (V.to (V.bld rfl zr48 pl48 (Put.one (i := 0) rfl rfl rfl <| Put.ags (i := 16) (k := 6) rfl rfl rfl rfl <| Put.nil)) (show _ = ag ((clTx (claim0 at_ am i)).lv txvN) from rfl)) ?_
        refine J.one rfl (JO.stS (l := 6) rfl rfl rfl sz48 (by kernel_rfl) (by kernel_rfl) ?_)
        refine J.nil ?_
        refine Po.then ?_
        refine C.ret ?_
        exact Po.end1 rfl rfl (RV.cS (l := 6) rfl rfl ag48 (by kernel_rfl)) fun W hI => ⟨rfl, hI.drop.drop⟩
      · refine DO.o (rest := [7]) (by decide) (by decide) rfl rfl fun Kc hKc => ?_
        refine JO.st (i := 5) (l := 7) rfl rfl rfl sz44 rfl (by kernel_rfl) (hKc _ _ _ (Hp.le_refl _) ?_)
        clear hKc Kc
        refine DT.o' (by kernel_rfl) (by kernel_rfl) rfl rfl fun Kc hKc => ?_
        refine JO.q rfl rfl (V.ex rfl rfl) (hKc _ _ _ (Hp.le_refl _) ?_)
        clear hKc Kc
        refine DT.nil' (by kernel_rfl) ?_
        refine Po.then ?_
        refine C.cut (fun (y : Unit) => [(6, .pointer (some ⟨b6, 0, none⟩)), (7, .pointer (some ⟨b7, 0, none⟩)), (2, .int .u8 0)]) (fun (y : Unit) => (7, St b7 (claim0 at_ am i).lv 46) :: (6, St b6 (TxD.zero.lv txvN) 48) :: M) ?_ fun y => ?_
        · refine C.seq ?_
          refine C.reg ?_
          refine J.q rfl rfl rfl (V.mv rfl) ?_
          refine J.nil ?_
          refine Po.then ?_
          refine C.block ?_
          refine C.seq ?_
          refine C.reg ?_
          refine J.q rfl rfl rfl (V.eql rfl rfl) ?_
          refine J.q rfl rfl rfl (V.as rfl) ?_
          refine J.nil ?_
          refine Po.then ?_
          refine C.no rfl ?_
          refine C.seq ?_
          refine C.reg ?_
          refine J.q rfl rfl rfl (V.eql rfl rfl) ?_
          refine J.q rfl rfl rfl (V.as rfl) ?_
          refine J.nil ?_
          refine Po.then ?_
          refine C.no rfl ?_
          refine C.seq ?_
          refine C.reg ?_
          refine J.q rfl rfl rfl (V.eql rfl rfl) ?_
          refine J.q rfl rfl rfl (V.as rfl) ?_
          refine J.nil ?_
          refine Po.then ?_
          refine C.no rfl ?_
          refine C.seq ?_
          refine C.reg ?_
          refine J.q rfl rfl rfl (V.eql rfl rfl) ?_
          refine J.q rfl rfl rfl (V.as rfl) ?_
          refine J.nil ?_
          refine Po.then ?_
          refine C.no rfl ?_
          refine C.seq ?_
          refine C.reg ?_
          refine J.q rfl rfl rfl (V.eql rfl rfl) ?_
          refine J.q rfl rfl rfl (V.as rfl) ?_
          refine J.nil ?_
          refine Po.then ?_
          refine C.no rfl ?_
          refine C.skip ?_
          refine Po.blkN ?_
          exact Po.cut () (Sub.cons rfl <| Sub.cons rfl <| Sub.cons rfl <| Sub.nil) (MSub.pullE rfl (by rw [hc]; rfl) <| MSub.pullE rfl (by rfl) <| MSub.drop <| MSub.drop <| MSub.drop <| MSub.drop <| MSub.refl)
        refine C.seq ?_
        refine C.reg ?_
        refine J.q rfl rfl rfl (V.to (V.ldW 7 rfl rfl ag46 (by kernel_rfl)) (show _ = ag (claim0 at_ am i).lv from rfl)) ?_
        refine J.q rfl rfl rfl (V.to (V.bld rfl zr48 pl48 (Put.one (i := 0) rfl rfl rfl <| Put.ags (i := 16) (k := 6) rfl rfl rfl rfl <| Put.nil)) (show _ = ag ((clTx (claim0 at_ am i)).lv txvN) from rfl)) ?_
        refine J.one rfl (JO.stS (l := 6) rfl rfl rfl sz48 (by kernel_rfl) (by kernel_rfl) ?_)
        refine J.nil ?_
        refine Po.then ?_
        refine C.ret ?_
        exact Po.end1 rfl rfl (RV.cS (l := 6) rfl rfl ag48 (by kernel_rfl)) fun W hI => ⟨rfl, hI.drop.drop⟩
    · refine DO.o (rest := [6, 9]) (by decide) (by decide) rfl rfl fun Kc hKc => ?_
      refine JO.q rfl rfl (V.ex rfl rfl) (hKc _ _ _ (Hp.le_refl _) ?_)
      clear hKc Kc
      refine DT.o (by kernel_rfl) (MSub.pull rfl <| MSub.pull rfl <| MSub.nil) rfl rfl fun Kc hKc => ?_
      refine JO.q rfl rfl (V.ex rfl rfl) (hKc _ _ _ (Hp.le_refl _) ?_)
      clear hKc Kc
      refine DT.o (by kernel_rfl) (MSub.pull rfl <| MSub.pull rfl <| MSub.nil) rfl rfl fun Kc hKc => ?_
      refine JO.st (i := 5) (l := 7) rfl rfl rfl sz44 rfl (by kernel_rfl) (hKc _ _ _ (Hp.le_refl _) ?_)
      clear hKc Kc
      refine DT.nil' (by kernel_rfl) ?_
      refine Po.then ?_
      refine C.cut (fun (y : Unit) => [(6, .pointer (some ⟨b6, 0, none⟩)), (7, .pointer (some ⟨b7, 0, none⟩)), (2, .int .u8 0)]) (fun (y : Unit) => (7, St b7 (claim0 at_ am i).lv 46) :: (6, St b6 (TxD.zero.lv txvN) 48) :: M) ?_ fun y => ?_
      · refine C.seq ?_
        refine C.reg ?_
        refine J.q rfl rfl rfl (V.mv rfl) ?_
        refine J.nil ?_
        refine Po.then ?_
        refine C.block ?_
        refine C.seq ?_
        refine C.reg ?_
        refine J.q rfl rfl rfl (V.eql rfl rfl) ?_
        refine J.q rfl rfl rfl (V.as rfl) ?_
        refine J.nil ?_
        refine Po.then ?_
        refine C.no rfl ?_
        refine C.seq ?_
        refine C.reg ?_
        refine J.q rfl rfl rfl (V.eql rfl rfl) ?_
        refine J.q rfl rfl rfl (V.as rfl) ?_
        refine J.nil ?_
        refine Po.then ?_
        refine C.no rfl ?_
        refine C.seq ?_
        refine C.reg ?_
        refine J.q rfl rfl rfl (V.eql rfl rfl) ?_
        refine J.q rfl rfl rfl (V.as rfl) ?_
        refine J.nil ?_
        refine Po.then ?_
        refine C.no rfl ?_
        refine C.seq ?_
        refine C.reg ?_
        refine J.q rfl rfl rfl (V.eql rfl rfl) ?_
        refine J.q rfl rfl rfl (V.as rfl) ?_
        refine J.nil ?_
        refine Po.then ?_
        refine C.no rfl ?_
        refine C.seq ?_
        refine C.reg ?_
        refine J.q rfl rfl rfl (V.eql rfl rfl) ?_
        refine J.q rfl rfl rfl (V.as rfl) ?_
        refine J.nil ?_
        refine Po.then ?_
        refine C.no rfl ?_
        refine C.skip ?_
        refine Po.blkN ?_
        exact Po.cut () (Sub.cons rfl <| Sub.cons rfl <| Sub.cons rfl <| Sub.nil) (MSub.pullE rfl (by rw [hc]; rfl) <| MSub.pullE rfl (by rfl) <| MSub.drop <| MSub.drop <| MSub.drop <| MSub.drop <| MSub.refl)
      refine C.seq ?_
      refine C.reg ?_
      refine J.q rfl rfl rfl (V.to (V.ldW 7 rfl rfl ag46 (by kernel_rfl)) (show _ = ag (claim0 at_ am i).lv from rfl)) ?_
      refine J.q rfl rfl rfl (V.to (V.bld rfl zr48 pl48 (Put.one (i := 0) rfl rfl rfl <| Put.ags (i := 16) (k := 6) rfl rfl rfl rfl <| Put.nil)) (show _ = ag ((clTx (claim0 at_ am i)).lv txvN) from rfl)) ?_
      refine J.one rfl (JO.stS (l := 6) rfl rfl rfl sz48 (by kernel_rfl) (by kernel_rfl) ?_)
      refine J.nil ?_
      refine Po.then ?_
      refine C.ret ?_
      exact Po.end1 rfl rfl (RV.cS (l := 6) rfl rfl ag48 (by kernel_rfl)) fun W hI => ⟨rfl, hI.drop.drop⟩
  · have hc : (claim0 at_ am i) = ClaimD.zero := if_neg (by omega)
    refine C.skip ?_
    refine Po.then ?_
    refine C.cut (fun (y : Unit) => [(6, .pointer (some ⟨b6, 0, none⟩)), (7, .pointer (some ⟨b7, 0, none⟩)), (2, .int .u8 0)]) (fun (y : Unit) => (7, St b7 (claim0 at_ am i).lv 46) :: (6, St b6 (TxD.zero.lv txvN) 48) :: M) ?_ fun y => ?_
    · refine C.seq ?_
      refine C.reg ?_
      refine J.q rfl rfl rfl (V.mv rfl) ?_
      refine J.nil ?_
      refine Po.then ?_
      refine C.block ?_
      refine C.seq ?_
      refine C.reg ?_
      refine J.q rfl rfl rfl (V.eql rfl rfl) ?_
      refine J.q rfl rfl rfl (V.as rfl) ?_
      refine J.nil ?_
      refine Po.then ?_
      refine C.no rfl ?_
      refine C.seq ?_
      refine C.reg ?_
      refine J.q rfl rfl rfl (V.eql rfl rfl) ?_
      refine J.q rfl rfl rfl (V.as rfl) ?_
      refine J.nil ?_
      refine Po.then ?_
      refine C.no rfl ?_
      refine C.seq ?_
      refine C.reg ?_
      refine J.q rfl rfl rfl (V.eql rfl rfl) ?_
      refine J.q rfl rfl rfl (V.as rfl) ?_
      refine J.nil ?_
      refine Po.then ?_
      refine C.no rfl ?_
      refine C.seq ?_
      refine C.reg ?_
      refine J.q rfl rfl rfl (V.eql rfl rfl) ?_
      refine J.q rfl rfl rfl (V.as rfl) ?_
      refine J.nil ?_
      refine Po.then ?_
      refine C.no rfl ?_
      refine C.seq ?_
      refine C.reg ?_
      refine J.q rfl rfl rfl (V.eql rfl rfl) ?_
      refine J.q rfl rfl rfl (V.as rfl) ?_
      refine J.nil ?_
      refine Po.then ?_
      refine C.no rfl ?_
      refine C.skip ?_
      refine Po.blkN ?_
      exact Po.cut () (Sub.cons rfl <| Sub.cons rfl <| Sub.cons rfl <| Sub.nil) (MSub.pullE rfl (by rw [hc]; rfl) <| MSub.pullE rfl (by rfl) <| MSub.drop <| MSub.refl)
    refine C.seq ?_
    refine C.reg ?_
    refine J.q rfl rfl rfl (V.to (V.ldW 7 rfl rfl ag46 (by kernel_rfl)) (show _ = ag (claim0 at_ am i).lv from rfl)) ?_
    refine J.q rfl rfl rfl (V.to (V.bld rfl zr48 pl48 (Put.one (i := 0) rfl rfl rfl <| Put.ags (i := 16) (k := 6) rfl rfl rfl rfl <| Put.nil)) (show _ = ag ((clTx (claim0 at_ am i)).lv txvN) from rfl)) ?_
    refine J.one rfl (JO.stS (l := 6) rfl rfl rfl sz48 (by kernel_rfl) (by kernel_rfl) ?_)
    refine J.nil ?_
    refine Po.then ?_
    refine C.ret ?_
    exact Po.end1 rfl rfl (RV.cS (l := 6) rfl rfl ag48 (by kernel_rfl)) fun W hI => ⟨rfl, hI.drop.drop⟩

theorem Fill_fg (va vm : Value) (at_ am : List UInt16) (money : Int) (ce : Bool) (w0 : World) (ro : Hp) (M : Res) (hAt : RS ro va 1 (u16R at_)) (hAm : RS ro vm 1 (u16R am)) (hF : fairP at_ am) (hP : mayP (madeP 3 2)) : Fg Tryz.prog 18 #[ag [(1, va), (1, vm)], iv money, .bool ce] w0 ro M (fun u ro1 M1 => ∃ b r b2 r2, u = .tuple #[.pointer (some ⟨b, 0, none⟩), .pointer (some ⟨b2, 0, none⟩)] ∧ r.s = (fillA at_ am money ce) ∧ r2.s = (fillA at_ am money ce) ∧ RegI ro1 [r] ∧ RegI ro1 [r2] ∧ M1 = (110, Rg 139 68 b [r]) :: (130, Rg 108 109 b2 [r2]) :: M) := by
  obtain ⟨aA, cA, rfl, _⟩ := hAt.shape
  obtain ⟨aM, cM, rfl, _⟩ := hAm.shape
  refine Fg.enter Tryz.func18 rfl rfl ?_
  have hle : Hp.le ro ro := Hp.le_refl _
  refine C.seq ?_
  refine C.reg ?_
  refine J.one rfl (JO.boxS (l := 3) rfl rfl fun b3 => ?_)
  refine J.q rfl rfl rfl (V.as rfl) ?_
  refine J.q rfl rfl rfl (V.as rfl) ?_
  refine J.nil ?_
  refine Po.then ?_
  refine C.seq ?_
  refine C.reg ?_
  refine J.q rfl rfl rfl (V.mv rfl) ?_
  refine J.one rfl (JO.bslS (l := 13) rfl el66 rfl rfl rfl (cs1 (inferInstanceAs (Cz (iv money) 1))) (by decide) fun a13 c13 => ?_)
  refine Kp.freezeG (l := 13) rfl (fun _ _ hA hr => hA.rs hr) fun ro hl hMm => ?_
  replace hAt := hAt.mono hl
  replace hAm := hAm.mono hl
  replace hle := Hp.le_trans hle hl
  refine J.callG rfl tx29 rfl (lFill_fg _ [money] _ _ _ hMm) ?_ 
  rintro _ ro _ hl ⟨b1, l1, b2, l2, rfl, hl1, hl2, hG, hH, rfl⟩
  replace hAt := hAt.mono hl
  replace hAm := hAm.mono hl
  replace hle := Hp.le_trans hle hl
  rw [fillS_one hP] at hl1 hl2
  obtain ⟨r1, rfl, hr1⟩ := map_one hl1
  obtain ⟨r2, rfl, hr2⟩ := map_one hl2
  have hi2 := hH _ (List.mem_singleton_self r2)
  obtain ⟨r2s, r2k, r2o, r2g, r2u⟩ := r2
  obtain rfl : r2s = (fill1 money) := hr2
  obtain ⟨ar2k, cr2k, rfl, _⟩ := (show RS ro r2k 8 (hkR (fill1 money).par.keys) from hi2.rs.k).shape
  obtain ⟨ar2o, cr2o, rfl, _⟩ := (show RS ro r2o 9 (rws OutD.lv (fill1 money).cert.outs) from hi2.rs.o).shape
  obtain ⟨ar2g, cr2g, rfl, _⟩ := (show RS ro r2g 282 (rws SignedD.lv (fill1 money).cert.sigs) from hi2.rs.g).shape
  obtain ⟨ar2u, cr2u, rfl, _⟩ := (show RS ro r2u 1 (intR (fill1 money).used) from hi2.rs.u).shape
  have hS2 : SideRS ro (fill1 money) (.slice ar2k (hkR (fill1 money).par.keys).length cr2k) (.slice ar2o (rws OutD.lv (fill1 money).cert.outs).length cr2o) (.slice ar2g (rws SignedD.lv (fill1 money).cert.sigs).length cr2g)  (.slice ar2u (intR ((fill1 money)).used).length cr2u) := hi2.rs
  have hm2 : SideSm (fill1 money) := hi2.sm
  refine J.q rfl rfl rfl (V.mv rfl) ?_
  refine J.q rfl rfl rfl (V.ex rfl rfl) ?_
  refine J.q rfl rfl rfl (V.ex rfl rfl) ?_
  refine J.q rfl rfl rfl (V.as rfl) ?_
  refine J.q rfl rfl rfl (V.as rfl) ?_
  refine J.nil ?_
  refine Po.then ?_
  refine C.seq ?_
  refine C.seq ?_
  refine C.opnRg (l := 130) rfl fun aL cL => ?_
  refine C.reg ?_
  refine J.q rfl rfl rfl (V.mv rfl) ?_
  refine J.q rfl rfl rfl (V.ptrEq rfl Tryz.underlying50) ?_
  refine J.q rfl rfl rfl (V.to (V.mv rfl) (show _ = Value.bool false from rfl)) ?_
  refine J.dn rfl rfl rfl rfl rfl rfl (V.mv rfl) ?_
  refine J.dn rfl rfl rfl rfl rfl rfl (V.nc rfl) ?_
  refine J.dn rfl rfl rfl rfl rfl rfl (V.fa rfl fo108_0) ?_
  refine J.dn rfl rfl rfl rfl rfl rfl (V.ldS (i := 0) 101 rfl rfl sc106 rfl rfl rfl) ?_
  refine J.dn rfl rfl rfl rfl rfl rfl (V.to (V.lenO (l := 102) rfl rfl Tryz.underlying106) rfl) ?_
  refine J.dn rfl rfl rfl rfl rfl rfl (V.eql rfl rfl) ?_
  refine J.q rfl rfl rfl (V.pk rfl rfl rfl) ?_
  refine J.nil ?_
  refine Po.then ?_
  refine C.no rfl ?_
  refine C.skip ?_
  refine Po.then ?_
  refine C.seq ?_
  refine C.reg ?_
  refine J.q rfl rfl rfl (V.mv rfl) ?_
  refine J.q rfl rfl rfl (V.nc rfl) ?_
  refine J.q rfl rfl rfl (V.fa rfl fo108_0) ?_
  refine J.q rfl rfl rfl (V.ldS (i := 0) 101 rfl rfl sc106 rfl rfl rfl) ?_
  refine J.q rfl rfl rfl (V.ofO (l := 102) rfl fun _ hRS => V.iaR rfl hRS rfl sl106 (by rw [recsR_length]; simp)) ?_
  refine J.q rfl rfl rfl (V.ofO (l := 102) rfl fun _ hRS => V.ldR rfl hRS (show (recsR [_])[((0 : Nat) : Int).toNat]? = some _ from rfl) ag109) ?_
  refine J.one rfl (JO.alloc (l := 10) rfl zr109 fun b10 => ?_)
  refine J.one rfl (JO.stS (l := 10) rfl rfl rfl sz109 (by kernel_rfl) (by kernel_rfl) ?_)
  refine J.nil ?_
  refine Po.then ?_
  refine C.seq ?_
  refine C.reg ?_
  refine J.q rfl rfl rfl (V.mv rfl) ?_
  refine J.q rfl rfl rfl (V.ldW 3 rfl rfl ag24 rfl) ?_
  refine J.call rfl tx46 rfl (Tree_fn _ _ at_ am hF.1.1 hF.1.2.1 hF.1.2.2 _ _ _ hAt hAm) ?_ 
  rintro _ _ ⟨b35, x35, y35, rfl, rfl⟩
  refine J.callP rfl tx48 rfl (Pu.lend (l := 105) rfl fun k105 hA105 hl105 hr105 => Pu.lend (l := 115) rfl fun k115 hA115 hl115 hr115 => Pu.lend (l := 125) rfl fun k125 hA125 hl125 hr125 => Top_pu _ _ _ (acTree at_ am) _ _ _ (((Bx.of hA105 hr105).mono hl115).mono hl125) ((hA115.rs hr115).mono hl125) (hA125.rs hr125) (acTree_sm hF.1.1)) ?_ 
  refine J.q rfl rfl rfl (V.fa rfl fo109_6) ?_
  refine J.one rfl (JO.st (i := 9) (l := 10) rfl rfl rfl sz4 rfl (by kernel_rfl) ?_)
  refine J.q rfl rfl rfl (V.fa rfl fo109_8) ?_
  refine J.one rfl (JO.st (i := 11) (l := 10) rfl rfl rfl sz29 rfl (by kernel_rfl) ?_)
  refine J.nil ?_
  refine Po.then ?_
  refine C.seq ?_
  refine C.drawM [6] [0, 1, 2, 3, 4, 5] mixed (by kernel_rfl) (by kernel_rfl) ?_
  refine DE.q rfl rfl rfl rfl (V.mv rfl) ?_
  refine DE.q rfl rfl rfl rfl (V.nc rfl) ?_
  refine DE.q rfl rfl rfl rfl (V.fa rfl fo108_0) ?_
  refine DE.q rfl rfl rfl rfl (V.ldS (i := 0) 101 rfl rfl sc106 rfl rfl rfl) ?_
  refine DE.q rfl rfl rfl rfl (V.to (V.ldW 10 rfl rfl ag109 (by kernel_rfl)) (show _ = ag (RecV.lv ⟨(fillA at_ am money ce), (.slice ar2k (hkR (fill1 money).par.keys).length cr2k), (.slice ar2o (rws OutD.lv (fill1 money).cert.outs).length cr2o), (.slice ar2g (rws SignedD.lv (fill1 money).cert.sigs).length cr2g), (.slice ar2u (intR ((fill1 money)).used).length cr2u)⟩) from rfl)) ?_
  refine DE.q rfl rfl rfl rfl (V.ofO (l := 102) rfl fun _ hRS => V.iaR rfl hRS rfl sl106 (by rw [recsR_length]; simp)) ?_
  refine DE.nil ?_
  refine DT.o (by kernel_rfl) (MSub.refl) rfl rfl fun Kc hKc => ?_
  refine JO.stO (l := 102) rfl rfl rfl sz109 (by rw [recsR_length]; simp) (hKc _ _ _ (Hp.le_refl _) ?_)
  clear hKc Kc
  refine DT.nil' (by kernel_rfl) ?_
  refine Po.then ?_
  refine C.seq ?_
  refine C.reg ?_
  refine J.q rfl rfl rfl (V.mv rfl) ?_
  refine J.q rfl rfl rfl (V.to (V.ldW 10 rfl rfl ag109 (by kernel_rfl)) (show _ = ag (RecV.lv ⟨(fillA at_ am money ce), (.slice ar2k (hkR (fill1 money).par.keys).length cr2k), (.slice ar2o (rws OutD.lv (fill1 money).cert.outs).length cr2o), (.slice ar2g (rws SignedD.lv (fill1 money).cert.sigs).length cr2g), (.slice ar2u (intR ((fill1 money)).used).length cr2u)⟩) from rfl)) ?_
  refine J.callG rfl tx50 rfl (lSide_fg (fillA at_ am money ce) _ _ _ _ _ _ _ (filA_rs hS2) (filA_sm hm2)) ?_ 
  rintro _ ro _ hl ⟨a47, c47, rfl, hu47, rfl⟩
  replace hAt := hAt.mono hl
  replace hAm := hAm.mono hl
  replace hG := hG.mono hl
  replace hH := hH.mono hl
  replace hS2 := hS2.mono hl
  replace hle := Hp.le_trans hle hl
  refine J.callG rfl tx49 rfl (Fg.at (l := 110) rfl (Set_fg b1 [r1] 0 ⟨(fillA at_ am money ce), (.slice ar2k (hkR (fill1 money).par.keys).length cr2k), (.slice ar2o (rws OutD.lv (fill1 money).cert.outs).length cr2o), (.slice ar2g (rws SignedD.lv (fill1 money).cert.sigs).length cr2g), (.slice a47 (intR (fill1 money).used).length c47)⟩ _ _ _ (by simp) hG ⟨⟨hS2.k, hS2.o, hS2.g, hu47⟩, filA_sm hm2⟩)) ?_ 
  rintro _ ro _ hl ⟨r48, rfl, hr48, hG, rfl⟩
  replace hAt := hAt.mono hl
  replace hAm := hAm.mono hl
  replace hH := hH.mono hl
  replace hS2 := hS2.mono hl
  replace hu47 := hu47.mono hl
  replace hle := Hp.le_trans hle hl
  refine J.nil ?_
  refine Po.then ?_
  refine C.seq ?_
  refine C.reg ?_
  refine J.q rfl rfl rfl (V.mv rfl) ?_
  refine J.q rfl rfl rfl (V.mv rfl) ?_
  refine J.q rfl rfl rfl (V.as rfl) ?_
  refine J.q rfl rfl rfl (V.as rfl) ?_
  refine J.nil ?_
  refine Po.then ?_
  refine C.ret ?_
  exact Po.end2 rfl rfl rfl rfl fun W hI => ⟨_, _, _, rfl, hle, ⟨_, _, _, _, rfl, hr48, rfl, hG, RegI.set (i := 0) hH (r := ⟨(fillA at_ am money ce), (.slice ar2k (hkR (fill1 money).par.keys).length cr2k), (.slice ar2o (rws OutD.lv (fill1 money).cert.outs).length cr2o), (.slice ar2g (rws SignedD.lv (fill1 money).cert.sigs).length cr2g), (.slice ar2u (intR ((fill1 money)).used).length cr2u)⟩) ⟨filA_rs hS2, filA_sm hm2⟩, rfl⟩, (hI.sub (MSub.pull rfl <| MSub.fold Rg.mk <| MSub.pull rfl <| MSub.pull rfl <| MSub.drop <| MSub.drop <| MSub.drop <| MSub.drop <| MSub.drop <| MSub.refl))⟩
end Go.Proofs
namespace Go.Proofs
open Go Go.Sx Go.Db
set_option maxRecDepth 100000
theorem el22 : El Tryz.prog 22 25 1 2 := El.of Tryz.underlying22 (by kernel_rfl) (by decide)
theorem zr24 : Zr Tryz.prog 24 [(1, .slice none 0 0), (1, .slice none 0 0)] := by unfold Zr; kernel_rfl
theorem pl24 : Pls Tryz.prog 24 [(0, 1), (1, 1)] := ⟨_, Tryz.underlying24, by kernel_rfl⟩
theorem sz24 : (Tryz.prog.info? 24).map (·.size) = some 2 := by kernel_rfl
theorem tx18 : Tx Tryz.prog 18 := ⟨Tryz.f18, Tryz.func18, rfl, by kernel_rfl⟩
theorem tx19 : Tx Tryz.prog 19 := ⟨Tryz.f19, Tryz.func19, rfl, by kernel_rfl⟩
theorem tx17 : Tx Tryz.prog 17 := ⟨Tryz.f17, Tryz.func17, rfl, by kernel_rfl⟩
theorem tx20 : Tx Tryz.prog 20 := ⟨Tryz.f20, Tryz.func20, rfl, by kernel_rfl⟩
theorem tx23 : Tx Tryz.prog 23 := ⟨Tryz.f23, Tryz.func23, rfl, by kernel_rfl⟩

theorem awake_pu (hP : mayP (madeP 3 2)) (w0 : World) (ro : Hp) (M : Res) (hZ : RoK ro) : Pu Tryz.prog 13 #[] w0 ro M (.bool true) := by
  refine Pu.enter Tryz.func13 rfl rfl ?_
  have hle : Hp.le ro ro := Hp.le_refl _
  refine C.seq ?_
  refine C.reg ?_
  refine J.q rfl rfl rfl (V.as rfl) ?_
  refine J.nil ?_
  refine Po.then ?_
  refine C.seq ?_
  refine C.reg ?_
  refine J.one rfl (JO.bslS (l := 9) rfl el22 rfl rfl rfl (cs2 rfl rfl) (by decide) fun a9 c9 => ?_)
  refine Kp.freezeG (l := 9) rfl (fun _ _ hA hr => hA.rs hr) fun ro hl hMm => ?_
  have hAt : RS ro (.slice a9 (u16R aAt).length c9) 1 (u16R aAt) := hMm
  replace hZ := hZ.mono hl
  replace hle := Hp.le_trans hle hl
  refine J.one rfl (JO.bslS (l := 10) rfl el22 rfl rfl rfl (cs2 rfl rfl) (by decide) fun a10 c10 => ?_)
  refine Kp.freezeG (l := 10) rfl (fun _ _ hA hr => hA.rs hr) fun ro hl hMm => ?_
  have hAm : RS ro (.slice a10 (u16R aAm).length c10) 1 (u16R aAm) := hMm
  replace hZ := hZ.mono hl
  replace hAt := hAt.mono hl
  replace hle := Hp.le_trans hle hl
  refine J.q rfl rfl rfl (V.to (V.bldF rfl zr24 pl24 (Full.one rfl <| Full.one rfl <| Full.nil) (by kernel_rfl) Wc.wl.flat_length) (show _ = ag [(1, .slice a9 (u16R aAt).length c9), (1, .slice a10 (u16R aAm).length c10)] by kernel_rfl)) ?_
  refine J.one rfl (JO.alloc (l := 1) rfl zr24 fun b1 => ?_)
  refine J.one rfl (JO.stS (l := 1) rfl rfl rfl sz24 rfl rfl ?_)
  refine J.nil ?_
  refine Po.then ?_
  refine C.seq ?_
  refine C.reg ?_
  refine J.q rfl rfl rfl (V.ldW 1 rfl rfl ag24 rfl) ?_
  refine J.callG rfl tx18 rfl (Fill_fg _ _ aAt aAm 20 true _ _ _ hAt hAm aFair hP) ?_ 
  rintro _ ro _ hl ⟨b0, r0, b2, r2, rfl, hr0, hr2, hG, hH, rfl⟩
  replace hZ := hZ.mono hl
  replace hAt := hAt.mono hl
  replace hAm := hAm.mono hl
  replace hle := Hp.le_trans hle hl
  have hm0 : [r0].map (·.s) = [aX0] := by rw [List.map_cons, List.map_nil, hr0]; rfl
  have hr0 : r0.s = aX0 := hr0
  refine J.q rfl rfl rfl (V.mv rfl) ?_
  refine J.q rfl rfl rfl (V.ex rfl rfl) ?_
  refine J.q rfl rfl rfl (V.ex rfl rfl) ?_
  refine J.q rfl rfl rfl (V.as rfl) ?_
  refine J.q rfl rfl rfl (V.as rfl) ?_
  refine J.nil ?_
  refine Po.then ?_
  refine C.seq ?_
  refine C.reg ?_
  refine J.call rfl tx19 rfl (utNew_fn _ _ _) ?_ 
  rintro _ _ ⟨b17, rfl, rfl⟩
  refine J.q rfl rfl rfl (V.as rfl) ?_
  refine J.nil ?_
  refine Po.then ?_
  refine C.seq ?_
  refine C.seq ?_
  refine C.reg ?_
  refine J.q rfl rfl rfl (V.mv rfl) ?_
  refine J.q rfl rfl rfl (V.ptrEq rfl Tryz.underlying50) ?_
  refine J.q rfl rfl rfl (V.to (V.mv rfl) (show _ = Value.bool false from rfl)) ?_
  refine J.dn rfl rfl rfl rfl rfl rfl (V.mv rfl) ?_
  refine J.dn rfl rfl rfl rfl rfl rfl (V.ptrEq rfl Tryz.underlying54) ?_
  refine J.q rfl rfl rfl (V.pk rfl rfl rfl) ?_
  refine J.nil ?_
  refine Po.then ?_
  refine C.no rfl ?_
  refine C.skip ?_
  refine Po.then ?_
  refine C.seq ?_
  refine C.draw [4, 9, 10, 11] [0, 1, 2, 3, 5, 6, 7, 8] [(1, St b1 [(1, .slice a9 (u16R aAt).length c9), (1, .slice a10 (u16R aAm).length c10)] 24)] mixed (by kernel_rfl) (by kernel_rfl) ?_
  refine DE.q rfl rfl rfl rfl (V.mv rfl) ?_
  refine DE.q rfl rfl rfl rfl (V.mv rfl) ?_
  refine DE.q rfl rfl rfl rfl (V.ldW 1 rfl rfl ag24 rfl) ?_
  refine DE.call rfl rfl rfl rfl tx17 rfl (fun N hN => claim0_pu _ _ aAt aAm 1 (by decide) _ _ _ hAt hAm aFair) ?_
  refine DE.q rfl rfl rfl rfl (V.mv rfl) ?_
  refine DE.q rfl rfl rfl rfl (V.mv rfl) ?_
  refine DE.q rfl rfl rfl rfl (V.ldW 1 rfl rfl ag24 rfl) ?_
  refine DE.call rfl rfl rfl rfl tx17 rfl (fun N hN => claim0_pu _ _ aAt aAm 1 (by decide) _ _ _ hAt hAm aFair) ?_
  refine DE.nil ?_
  refine DT.o (by kernel_rfl) (MSub.pull rfl <| MSub.nil) rfl rfl fun Kc hKc => ?_
  refine JO.callG rfl tx20 rfl (Fg.at2 (l := 110) (k := 140) rfl rfl (tk_fg _ _ [r0] UD.nil (clTx (claim0 aAt aAm 1)) txvN 30 _ _ _ (show (5 : Int) ≠ 2 by decide) (clTx_rs _) (clTx_sm _) hZ hG (fun q hq => by obtain rfl := List.mem_singleton.1 hq; rw [hr0, aX0_bal.2.2.1]; decide) UI.nil (by decide))) ?_
  rintro _ ro _ hl ⟨l28, rfl, hl28, hG, rfl⟩
  refine hKc _ _ _ hl ?_
  replace hZ := hZ.mono hl
  replace hAt := hAt.mono hl
  replace hAm := hAm.mono hl
  replace hH := hH.mono hl
  replace hle := Hp.le_trans hle hl
  rw [hm0, awake_1.2.2] at hl28
  rw [hm0, awake_1.1, awake_1.2.1]
  obtain ⟨r1, rfl, hr1⟩ := map_one hl28
  have hm1 : [r1].map (·.s) = [aX1] := by rw [List.map_cons, List.map_nil, hr1]
  clear hKc Kc
  refine DT.o (by kernel_rfl) (MSub.pull rfl <| MSub.nil) rfl rfl fun Kc hKc => ?_
  refine JO.callG rfl tx20 rfl (Fg.at2 (l := 110) (k := 140) rfl rfl (tk_fg _ _ [r1] aU1 (clTx (claim0 aAt aAm 1)) txvN 31 _ _ _ (show (5 : Int) ≠ 2 by decide) (clTx_rs _) (clTx_sm _) hZ hG (fun q hq => by obtain rfl := List.mem_singleton.1 hq; rw [hr1, aX1_bal.2.2.1]; decide) ⟨by decide, by decide⟩ (by decide))) ?_
  rintro _ ro _ hl ⟨l33, rfl, hl33, hG, rfl⟩
  refine hKc _ _ _ hl ?_
  replace hZ := hZ.mono hl
  replace hAt := hAt.mono hl
  replace hAm := hAm.mono hl
  replace hH := hH.mono hl
  replace hle := Hp.le_trans hle hl
  rw [hm1, awake_2.2.2] at hl33
  rw [hm1, awake_2.1, awake_2.2.1]
  obtain ⟨r3, rfl, hr3⟩ := map_one hl33
  clear hKc Kc
  refine DT.o' (by kernel_rfl) (by kernel_rfl) rfl rfl fun Kc hKc => ?_
  refine JO.q rfl rfl (V.as rfl) (hKc _ _ _ (Hp.le_refl _) ?_)
  clear hKc Kc
  refine DT.o' (by kernel_rfl) (by kernel_rfl) rfl rfl fun Kc hKc => ?_
  refine JO.q rfl rfl (V.as rfl) (hKc _ _ _ (Hp.le_refl _) ?_)
  clear hKc Kc
  refine DT.nil' (by kernel_rfl) ?_
  refine Po.then ?_
  refine C.seq ?_
  refine C.reg ?_
  refine J.q rfl rfl rfl (V.mv rfl) ?_
  refine J.callG rfl tx22 rfl (Fg.at (l := 110) rfl (Side_at _ _ 0 r3 _ _ _ (by decide) rfl hG)) ?_ 
  rintro _ ro _ hl ⟨r36, rfl, hr36, hi36, rfl⟩
  replace hZ := hZ.mono hl
  replace hAt := hAt.mono hl
  replace hAm := hAm.mono hl
  replace hG := hG.mono hl
  replace hH := hH.mono hl
  replace hle := Hp.le_trans hle hl
  rw [hr3] at hr36
  obtain ⟨r36s, r36k, r36o, r36g, r36u⟩ := r36
  obtain rfl : r36s = aX1 := hr36
  obtain ⟨ar36k, cr36k, rfl, _⟩ := (show RS ro r36k 8 (hkR aX1.par.keys) from hi36.rs.k).shape
  obtain ⟨ar36o, cr36o, rfl, _⟩ := (show RS ro r36o 9 (rws OutD.lv aX1.cert.outs) from hi36.rs.o).shape
  obtain ⟨ar36g, cr36g, rfl, _⟩ := (show RS ro r36g 282 (rws SignedD.lv aX1.cert.sigs) from hi36.rs.g).shape
  obtain ⟨ar36u, cr36u, rfl, _⟩ := (show RS ro r36u 1 (intR aX1.used) from hi36.rs.u).shape
  refine J.q rfl rfl rfl (V.mv rfl) ?_
  refine J.q rfl rfl rfl (V.ex rfl rfl) ?_
  refine J.q rfl rfl rfl (V.ex rfl rfl) ?_
  refine J.one rfl (JO.alloc (l := 7) rfl zr68 fun b7 => ?_)
  refine J.one rfl (JO.stS (l := 7) rfl rfl rfl sz68 (by kernel_rfl) (by kernel_rfl) ?_)
  refine J.q rfl rfl rfl (V.as rfl) ?_
  refine J.nil ?_
  refine Po.then ?_
  refine C.seq ?_
  refine C.reg ?_
  refine J.q rfl rfl rfl (V.mv rfl) ?_
  refine J.q rfl rfl rfl (V.eql rfl rfl) ?_
  refine J.q rfl rfl rfl (V.to (V.mv rfl) (show _ = Value.bool true from rfl)) ?_
  refine J.dn rfl rfl rfl rfl rfl rfl (V.mv rfl) ?_
  refine J.dn rfl rfl rfl rfl rfl rfl (V.eql rfl rfl) ?_
  refine J.q rfl rfl rfl (V.pk rfl rfl rfl) ?_
  refine J.q rfl rfl rfl (V.to (V.mv rfl) (show _ = Value.bool true from rfl)) ?_
  refine J.dn rfl rfl rfl rfl rfl rfl (V.mv rfl) ?_
  refine J.q rfl rfl rfl (V.pk rfl rfl rfl) ?_
  refine J.q rfl rfl rfl (V.to (V.mv rfl) (show _ = Value.bool true from rfl)) ?_
  refine J.dn rfl rfl rfl rfl rfl rfl (V.fa rfl fo68_2) ?_
  refine J.dn rfl rfl rfl rfl rfl rfl (V.to (V.ldS (i := 5) 7 rfl rfl sc3 rfl rfl rfl) (congrArg iv aX1_bal.1)) ?_
  refine J.dn rfl rfl rfl rfl rfl rfl (V.eql rfl rfl) ?_
  refine J.q rfl rfl rfl (V.pk rfl rfl rfl) ?_
  refine J.q rfl rfl rfl (V.to (V.mv rfl) (show _ = Value.bool true from rfl)) ?_
  refine J.dn rfl rfl rfl rfl rfl rfl (V.fa rfl fo68_5) ?_
  refine J.dn rfl rfl rfl rfl rfl rfl (V.to (V.ldS (i := 8) 7 rfl rfl sc3 rfl rfl rfl) (congrArg iv aX1_bal.2.1)) ?_
  refine J.dn rfl rfl rfl rfl rfl rfl (V.eql rfl rfl) ?_
  refine J.q rfl rfl rfl (V.pk rfl rfl rfl) ?_
  refine J.q rfl rfl rfl (V.to (V.mv rfl) (show _ = Value.bool true from rfl)) ?_
  refine J.dn rfl rfl rfl rfl rfl rfl (V.mv rfl) ?_
  refine J.gcv rfl rfl rfl rfl tx23 (fun _ => rfl) (fun _ => Pu.at (l := 140) rfl (utTotal_pu _ aU1 _ _ _)) ?_
  refine J.dn rfl rfl rfl rfl rfl rfl (V.eql rfl rfl) ?_
  refine J.q rfl rfl rfl (V.pk rfl rfl rfl) ?_
  refine J.q rfl rfl rfl (V.as rfl) ?_
  refine J.nil ?_
  refine Po.then ?_
  refine C.ret ?_
  exact Po.end1 rfl rfl rfl fun W hI => ⟨rfl, (hI.drop.drop.drop.drop.drop).up hle⟩
end Go.Proofs
