import Derived.Test.YtpcnnjnddnaogaaGreatDoorWc
import Derived.Test.YtpcnnjnddnaogaaGreatDoorEd
import Derived.Test.YtpcnnjnddnaogaaGreatDoorProg
import Derived.Test.YtpcnnjnddnaogaaGreatDoorEc
set_option linter.unusedVariables false
set_option linter.unusedSimpArgs false
set_option linter.unusedSectionVars false
set_option linter.unnecessarySimpa false
set_option exponentiation.threshold 1000
namespace Go.Proofs
open Go Go.Sx Go.Db
set_option maxRecDepth 100000
theorem tx199 : Tx Tryz.prog 199 := ⟨Tryz.f199, Tryz.func199, rfl, by kernel_rfl⟩
theorem tx198 : Tx Tryz.prog 198 := ⟨Tryz.f198, Tryz.func198, rfl, by kernel_rfl⟩
theorem tx200 : Tx Tryz.prog 200 := ⟨Tryz.f200, Tryz.func200, rfl, by kernel_rfl⟩
theorem tx165 : Tx Tryz.prog 165 := ⟨Tryz.f165, Tryz.func165, rfl, by kernel_rfl⟩
theorem tx196 : Tx Tryz.prog 196 := ⟨Tryz.f196, Tryz.func196, rfl, by kernel_rfl⟩
theorem tx195 : Tx Tryz.prog 195 := ⟨Tryz.f195, Tryz.func195, rfl, by kernel_rfl⟩
theorem tx161 : Tx Tryz.prog 161 := ⟨Tryz.f161, Tryz.func161, rfl, by kernel_rfl⟩
theorem tx162 : Tx Tryz.prog 162 := ⟨Tryz.f162, Tryz.func162, rfl, by kernel_rfl⟩

theorem bit_pu (h : Hash) (i : Nat) (hi : i < 64) (w0 : World) (ro : Hp) (M : Res) : Pu Tryz.prog 199 #[hv h, .int .i64 (i : Int)] w0 ro M (.int .i64 ((bitOf h i : Nat) : Int)) := by
  refine Pu.enter Tryz.func199 rfl rfl ?_
  refine C.seq ?_
  refine C.reg ?_
  refine J.one rfl (JO.box1 (l := 2) rfl rfl fun b2 => ?_)
  refine J.q rfl rfl rfl (V.as rfl) ?_
  refine J.nil ?_
  refine Po.then ?_
  refine C.seq ?_
  refine C.reg ?_
  refine J.q rfl rfl rfl (V.mv rfl) ?_
  refine J.q rfl rfl rfl (V.to (V.quo rfl rfl (by omega)) (show _ = Value.int .i64 ((i / 8 : Nat) : Int) from rfl)) ?_
  refine J.q rfl rfl rfl (V.iaA rfl rfl ar29 (by omega)) ?_
  refine J.q rfl rfl rfl (V.ldC (l := 2) rfl rfl sc5 (show (flat [(8, hv h)])[0 + ((i : Int) / 8).toNat * 1]? = some (bv (h.toList.getD (i / 8) 0)) by rw [show 0 + ((i : Int) / 8).toNat * 1 = i / 8 by omega]; exact byte_at h (by omega))) ?_
  refine J.q rfl rfl rfl (V.to (V.cv rfl Tryz.underlying5 Tryz.underlying3) (show _ = Value.int .i64 (((h.toList.getD (i / 8) 0).toNat : Nat) : Int) by have := UInt8.toNat_lt (h.toList.getD (i / 8) 0); rw [wrap_in _ (by omega) (by omega)])) ?_
  refine J.q rfl rfl rfl (V.mv rfl) ?_
  refine J.q rfl rfl rfl (V.to (V.rem rfl rfl (by omega)) (show _ = Value.int .i64 ((i % 8 : Nat) : Int) from rfl)) ?_
  refine J.q rfl rfl rfl (V.to (V.cv rfl Tryz.underlying3 Tryz.underlying84) (amt_u64 (by omega) (by omega))) ?_
  refine J.q rfl rfl rfl (V.to (V.shr rfl rfl (by simp [IntKind.bits]; omega)) (show _ = Value.int .i64 (((h.toList.getD (i / 8) 0).toNat / 2 ^ (i % 8) : Nat) : Int) by rw [show ((i % 8 : Nat) : Int).toNat = i % 8 from rfl]; rfl)) ?_
  refine J.q rfl rfl rfl (V.to (V.andI (b := 1) rfl rfl (by have := UInt8.toNat_lt (h.toList.getD (i / 8) 0); have := Nat.div_le_self (h.toList.getD (i / 8) 0).toNat (2 ^ (i % 8)); omega) (by decide)) (show _ = Value.int .i64 ((bitOf h i : Nat) : Int) by rw [one_and]; rfl)) ?_
  refine J.q rfl rfl rfl (V.as rfl) ?_
  refine J.nil ?_
  refine Po.then ?_
  refine C.ret ?_
  exact Po.end1 rfl rfl rfl fun W hI => ⟨rfl, hI.drop⟩

theorem secret_pu (s : Hash) (x i b : Int) (w0 : World) (ro : Hp) (M : Res) : Pu Tryz.prog 198 #[hv s, iv x, iv i, iv b] w0 ro M (hv (secretOf s x i b)) := by
  refine Pu.enter Tryz.func198 rfl rfl ?_
  refine C.seq ?_
  refine C.reg ?_
  refine J.one rfl (JO.box1 (l := 4) rfl rfl fun b4 => ?_)
  refine J.one rfl (JO.alloc (l := 8) rfl zr29 fun b8 => ?_)
  refine J.nil ?_
  refine Po.then ?_
  refine C.seq ?_
  refine C.reg ?_
  refine J.q rfl rfl rfl (V.slA (lo := 0) (hi := 8) rfl ar29 rfl rfl (by decide) (by decide) (by decide)) ?_
  refine J.q rfl rfl rfl (V.mv rfl) ?_
  refine J.q rfl rfl rfl (V.to (V.cv rfl Tryz.underlying3 Tryz.underlying5) (byteI_of x)) ?_
  refine J.q rfl rfl rfl (V.mv rfl) ?_
  refine J.q rfl rfl rfl (V.to (V.cv rfl Tryz.underlying3 Tryz.underlying5) (byteI_of i)) ?_
  refine J.q rfl rfl rfl (V.mv rfl) ?_
  refine J.q rfl rfl rfl (V.to (V.cv rfl Tryz.underlying3 Tryz.underlying5) (byteI_of b)) ?_
  refine J.one rfl (JO.bslS (l := 16) rfl el73 rfl rfl rfl Cs.all (by decide) fun a16 c16 => ?_)
  refine J.one rfl (JO.bslS (l := 17) rfl el173 rfl rfl rfl Cs.all (by decide) fun a17 c17 => ?_)
  refine J.callP rfl tx45 rfl (Pu.lend (l := 16) rfl fun k16 hA16 hl16 hr16 => Pu.lend (l := 4) rfl fun k4 hA4 hl4 hr4 => Pu.lend (l := 17) rfl fun k17 hA17 hl17 hr17 => Dig_pu 115 _ [s.toList, [byteI x, byteI i, byteI b, 0]] _ _ _ (PS.of (qs := [_, _]) ((hA17.rs hr17)) ⟨((rs_hash (st_ro hA4 hr4)).mono hl17), (((hA16.rs hr16).mono hl4).mono hl17), trivial⟩) (by simp [packed, le4])) ?_ 
  refine J.one rfl (JO.st (i := 0) (l := 8) rfl rfl rfl sz29 rfl rfl ?_)
  refine J.nil ?_
  refine Po.then ?_
  refine C.ret ?_
  exact Po.end1 rfl rfl (RV.cA (l := 8) rfl rfl ag29 rfl) fun W hI => ⟨rfl, hI.drop.drop.drop.drop⟩

theorem mark_pu (s : Hash) (w0 : World) (ro : Hp) (M : Res) : Pu Tryz.prog 200 #[hv s] w0 ro M (hv (markOf s)) := by
  refine Pu.enter Tryz.func200 rfl rfl ?_
  refine C.seq ?_
  refine C.reg ?_
  refine J.one rfl (JO.box1 (l := 1) rfl rfl fun b1 => ?_)
  refine J.one rfl (JO.alloc (l := 2) rfl zr29 fun b2 => ?_)
  refine J.nil ?_
  refine Po.then ?_
  refine C.seq ?_
  refine C.reg ?_
  refine J.q rfl rfl rfl (V.slA (lo := 0) (hi := 8) rfl ar29 rfl rfl (by decide) (by decide) (by decide)) ?_
  refine J.one rfl (JO.bslS (l := 4) rfl el173 rfl rfl rfl Cs.all (by decide) fun a4 c4 => ?_)
  refine J.callP rfl tx45 rfl (Pu.lend (l := 1) rfl fun k1 hA1 hl1 hr1 => Pu.lend (l := 4) rfl fun k4 hA4 hl4 hr4 => Dig_pu 112 _ [s.toList] _ _ _ (PS.of (qs := [_]) ((hA4.rs hr4)) ⟨((rs_hash (st_ro hA1 hr1)).mono hl4), trivial⟩) (by simp [packed, le4])) ?_ 
  refine J.one rfl (JO.st (i := 0) (l := 2) rfl rfl rfl sz29 rfl rfl ?_)
  refine J.nil ?_
  refine Po.then ?_
  refine C.ret ?_
  exact Po.end1 rfl rfl (RV.cA (l := 2) rfl rfl ag29 rfl) fun W hI => ⟨rfl, hI.drop.drop.drop⟩

theorem sign_pu (s m : Hash) (x : Int) (w0 : World) (ro : Hp) (M : Res) : Pu Tryz.prog 165 #[hv s, iv x, hv m] w0 ro M (.tuple #[ag (uni hv 8 (opnTo s x m 16)), ag (uni hv 8 (shutTo s x m 16))]) := by
  refine Pu.enter Tryz.func165 rfl rfl ?_
  refine C.seq ?_
  refine C.reg ?_
  refine J.one rfl (JO.box1 (l := 3) rfl rfl fun b3 => ?_)
  refine J.one rfl (JO.box1 (l := 5) rfl rfl fun b5 => ?_)
  refine J.one rfl (JO.alloc (l := 6) rfl zr44 fun b6 => ?_)
  refine J.one rfl (JO.alloc (l := 7) rfl zr44 fun b7 => ?_)
  refine J.nil ?_
  refine Po.then ?_
  refine C.seq ?_
  refine C.reg ?_
  refine J.one rfl (JO.alloc (l := 8) rfl zr44 fun b8 => ?_)
  refine J.one rfl (JO.alloc (l := 9) rfl zr44 fun b9 => ?_)
  refine J.nil ?_
  refine Po.then ?_
  refine C.seq ?_
  refine C.seq ?_
  refine C.reg ?_
  refine J.q rfl rfl rfl (V.as rfl) ?_
  refine J.nil ?_
  refine Po.then ?_
  refine C.block ?_
  refine C.loopP (fun (k : Nat) => k ≤ 16) (fun (k : Nat) => [(10, .int .i64 (k : Int)), (1, iv x), (9, .pointer (some ⟨b9, 0, none⟩)), (8, .pointer (some ⟨b8, 0, none⟩)), (3, .pointer (some ⟨b3, 0, none⟩)), (5, .pointer (some ⟨b5, 0, none⟩)), (6, .pointer (some ⟨b6, 0, none⟩)), (7, .pointer (some ⟨b7, 0, none⟩))]) (fun (k : Nat) => (9, St b9 (uni hv 8 (fillH (shutTo s x m k))) 44) :: (8, St b8 (uni hv 8 (fillH (opnTo s x m k))) 44) :: (3, St b3 [(8, hv s)] 29) :: (5, St b5 [(8, hv m)] 29) :: (6, St b6 (uni hv 8 (List.replicate 16 h0)) 44) :: (7, St b7 (uni hv 8 (List.replicate 16 h0)) 44) :: M) (fun (k : Nat) => 16 - k) 0 (by first | omega | (dsimp only; omega)) (Sub.cons rfl <| Sub.cons rfl <| Sub.cons rfl <| Sub.cons rfl <| Sub.cons rfl <| Sub.cons rfl <| Sub.cons rfl <| Sub.cons rfl <| Sub.nil) (MSub.pullE rfl (by rfl) <| MSub.pullE rfl (by rfl) <| MSub.pull rfl <| MSub.pull rfl <| MSub.pull rfl <| MSub.pull rfl <| MSub.refl) fun k hok => ?_
  refine C.seq ?_
  refine C.seq ?_
  refine C.reg ?_
  refine J.q rfl rfl rfl (V.mv rfl) ?_
  refine J.q rfl rfl rfl (V.lss rfl rfl) ?_
  refine J.nil ?_
  refine Po.then ?_
  refine C.ifd rfl (fun h12 => ?_) (fun h12 => ?_)
  · have hk : k < 16 := by omega
    refine C.skip ?_
    refine Po.then ?_
    refine C.seq ?_
    refine C.block ?_
    refine C.seq ?_
    refine C.drawM [9] [0, 1, 2, 3, 4, 5, 6, 7, 8] mixed (by kernel_rfl) (by kernel_rfl) ?_
    refine DE.q rfl rfl rfl rfl (V.mv rfl) ?_
    refine DE.q rfl rfl rfl rfl (V.ldA (i := 0) 3 rfl rfl ag29 rfl rfl) ?_
    refine DE.q rfl rfl rfl rfl (V.mv rfl) ?_
    refine DE.q rfl rfl rfl rfl (V.mv rfl) ?_
    refine DE.q rfl rfl rfl rfl (V.ldA (i := 0) 5 rfl rfl ag29 rfl rfl) ?_
    refine DE.q rfl rfl rfl rfl (V.mv rfl) ?_
    refine DE.call rfl rfl rfl rfl tx199 rfl (fun N hN => bit_pu _ _ (by omega) _ _ _) ?_
    refine DE.call rfl rfl rfl rfl tx198 rfl (fun N hN => secret_pu _ _ _ _ _ _ _) ?_
    refine DE.q rfl rfl rfl rfl (V.iaA rfl rfl ar44 (by omega)) ?_
    refine DE.nil ?_
    refine DT.o (by kernel_rfl) (MSub.refl) rfl rfl fun Kc hKc => ?_
    refine JO.stU (lab := 8) rfl rfl rfl sz29 (fillH_at (opnTo_length _ _ _ _) hk) (by omega) (hKc _ _ _ (Hp.le_refl _) ?_)
    clear hKc Kc
    refine DT.nil' (by kernel_rfl) ?_
    refine Po.then ?_
    refine C.drawM [11] [0, 1, 2, 3, 4, 5, 6, 7, 8, 9, 10] mixed (by kernel_rfl) (by kernel_rfl) ?_
    refine DE.q rfl rfl rfl rfl (V.mv rfl) ?_
    refine DE.q rfl rfl rfl rfl (V.ldA (i := 0) 3 rfl rfl ag29 rfl rfl) ?_
    refine DE.q rfl rfl rfl rfl (V.mv rfl) ?_
    refine DE.q rfl rfl rfl rfl (V.mv rfl) ?_
    refine DE.q rfl rfl rfl rfl (V.ldA (i := 0) 5 rfl rfl ag29 rfl rfl) ?_
    refine DE.q rfl rfl rfl rfl (V.mv rfl) ?_
    refine DE.call rfl rfl rfl rfl tx199 rfl (fun N hN => bit_pu _ _ (by omega) _ _ _) ?_
    refine DE.q rfl rfl rfl rfl (V.sub' rfl rfl (by have := bitOf_le m k; omega)) ?_
    refine DE.call rfl rfl rfl rfl tx198 rfl (fun N hN => secret_pu _ _ _ _ _ _ _) ?_
    refine DE.call rfl rfl rfl rfl tx200 rfl (fun N hN => mark_pu _ _ _ _) ?_
    refine DE.q rfl rfl rfl rfl (V.iaA rfl rfl ar44 (by omega)) ?_
    refine DE.nil ?_
    refine DT.o (by kernel_rfl) (MSub.refl) rfl rfl fun Kc hKc => ?_
    refine JO.stU (lab := 9) rfl rfl rfl sz29 (fillH_at (shutTo_length _ _ _ _) hk) (by omega) (hKc _ _ _ (Hp.le_refl _) ?_)
    clear hKc Kc
    refine DT.nil' (by kernel_rfl) ?_
    refine Po.blkN ?_
    refine Po.then ?_
    refine C.reg ?_
    refine J.q rfl rfl rfl (V.mv rfl) ?_
    refine J.q rfl rfl rfl (V.add rfl rfl (by omega)) ?_
    refine J.q rfl rfl rfl (V.as rfl) ?_
    refine J.nil ?_
    exact Po.roundP (k + 1) (by first | omega | (dsimp only; omega)) (Sub.cons rfl <| Sub.cons rfl <| Sub.cons rfl <| Sub.cons rfl <| Sub.cons rfl <| Sub.cons rfl <| Sub.cons rfl <| Sub.cons rfl <| Sub.nil) (MSub.pullE rfl (by rw [shut_set _ _ _ hk]) <| MSub.pullE rfl (by rw [opn_set _ _ _ hk]) <| MSub.pull rfl <| MSub.pull rfl <| MSub.pull rfl <| MSub.pull rfl <| MSub.refl) (by first | omega | (dsimp only; omega))
  · obtain rfl : k = 16 := by omega
    rw [fillH_16 (opnTo_length _ _ _ _), fillH_16 (shutTo_length _ _ _ _)]
    refine C.exit ?_
    refine Po.thenX ?_
    refine Po.thenX ?_
    refine Po.blkX ?_
    refine Po.then ?_
    refine C.seq ?_
    refine C.draw [2, 3] [0, 1] [(8, St b8 (uni hv 8 (opnTo s x m 16)) 44), (9, St b9 (uni hv 8 (shutTo s x m 16)) 44)] mixed (by kernel_rfl) (by kernel_rfl) ?_
    refine DE.q rfl rfl rfl rfl (V.ldW 8 rfl rfl ag44 (by simp [lsz_uni, opnTo_length, shutTo_length, fillH_length, fillH])) ?_
    refine DE.q rfl rfl rfl rfl (V.ldW 9 rfl rfl ag44 (by simp [lsz_uni, opnTo_length, shutTo_length, fillH_length, fillH])) ?_
    refine DE.nil ?_
    refine DT.o (by kernel_rfl) (MSub.pull rfl <| MSub.pull rfl <| MSub.nil) rfl rfl fun Kc hKc => ?_
    refine JO.stS (l := 6) rfl rfl rfl sz44 (by simp [lsz_uni, opnTo_length, shutTo_length, fillH_length, fillH]) (by simp [lsz_uni, opnTo_length, shutTo_length, fillH_length, fillH]) (hKc _ _ _ (Hp.le_refl _) ?_)
    clear hKc Kc
    refine DT.o (by kernel_rfl) (MSub.pull rfl <| MSub.pull rfl <| MSub.nil) rfl rfl fun Kc hKc => ?_
    refine JO.stS (l := 7) rfl rfl rfl sz44 (by simp [lsz_uni, opnTo_length, shutTo_length, fillH_length, fillH]) (by simp [lsz_uni, opnTo_length, shutTo_length, fillH_length, fillH]) (hKc _ _ _ (Hp.le_refl _) ?_)
    clear hKc Kc
    refine DT.nil' (by kernel_rfl) ?_
    refine Po.then ?_
    refine C.ret ?_
    exact Po.end2 rfl rfl (RV.cS (l := 6) rfl rfl ag44 (by simp [lsz_uni, opnTo_length, shutTo_length, fillH_length, fillH])) (RV.cS (l := 7) rfl rfl ag44 (by simp [lsz_uni, opnTo_length, shutTo_length, fillH_length, fillH])) fun W hI => ⟨rfl, hI.drop.drop.drop.drop.drop.drop⟩

theorem public_pu (m : Hash) (o s : List Hash) (ho : o.length = 16) (hs : s.length = 16) (w0 : World) (ro : Hp) (M : Res) : Pu Tryz.prog 196 #[hv m, ag (uni hv 8 o), ag (uni hv 8 s)] w0 ro M (hv (publicOf m o s)) := by
  refine Pu.enter Tryz.func196 rfl rfl ?_
  refine C.seq ?_
  refine C.reg ?_
  refine J.one rfl (JO.box1 (l := 3) rfl rfl fun b3 => ?_)
  refine J.one rfl (JO.boxS (l := 4) rfl rfl fun b4 => ?_)
  refine J.one rfl (JO.boxS (l := 5) rfl rfl fun b5 => ?_)
  refine J.one rfl (JO.alloc (l := 6) rfl zr29 fun b6 => ?_)
  refine J.nil ?_
  refine Po.then ?_
  refine C.seq ?_
  refine C.nilO 7 5 1 ?_
  refine C.reg ?_
  refine J.q rfl rfl rfl (V.as rfl) ?_
  refine J.nil ?_
  refine Po.then ?_
  refine C.seq ?_
  refine C.seq ?_
  refine C.reg ?_
  refine J.q rfl rfl rfl (V.as rfl) ?_
  refine J.nil ?_
  refine Po.then ?_
  refine C.block ?_
  refine C.loopP (fun (x : Nat × Option Addr × Nat) => x.1 ≤ 16) (fun (x : Nat × Option Addr × Nat) => [(8, .int .i64 (x.1 : Int)), (7, .slice x.2.1 (bys (pubTo m o s x.1)).length x.2.2), (3, .pointer (some ⟨b3, 0, none⟩)), (4, .pointer (some ⟨b4, 0, none⟩)), (5, .pointer (some ⟨b5, 0, none⟩)), (6, .pointer (some ⟨b6, 0, none⟩))]) (fun (x : Nat × Option Addr × Nat) => (7, Ow (.slice x.2.1 (bys (pubTo m o s x.1)).length x.2.2) 5 1 (bys (pubTo m o s x.1))) :: (3, St b3 [(8, hv m)] 29) :: (4, St b4 (uni hv 8 o) 44) :: (5, St b5 (uni hv 8 s) 44) :: (6, St b6 [(8, hv h0)] 29) :: M) (fun (x : Nat × Option Addr × Nat) => 16 - x.1) (0, none, 0) (by first | omega | (dsimp only; omega)) (Sub.cons rfl <| Sub.cons rfl <| Sub.cons rfl <| Sub.cons rfl <| Sub.cons rfl <| Sub.cons rfl <| Sub.nil) (MSub.pullE rfl (by rfl) <| MSub.pull rfl <| MSub.pull rfl <| MSub.pull rfl <| MSub.pull rfl <| MSub.refl) fun x hok => ?_
  obtain ⟨k, qa, qc⟩ := x
  dsimp only at hok ⊢
  refine C.seq ?_
  refine C.seq ?_
  refine C.reg ?_
  refine J.q rfl rfl rfl (V.mv rfl) ?_
  refine J.q rfl rfl rfl (V.lss rfl rfl) ?_
  refine J.nil ?_
  refine Po.then ?_
  refine C.ifd rfl (fun h12 => ?_) (fun h12 => ?_)
  · have hk : k < 16 := by omega
    have hpl : (pubTo m o s k).length = 16 * k := pubTo_length k
    refine C.skip ?_
    refine Po.then ?_
    refine C.seq ?_
    refine C.block ?_
    refine C.seq ?_
    refine C.draw [7, 8, 9, 10] [0, 1, 2, 3, 4, 5, 6] [(4, St b4 (uni hv 8 o) 44), (5, St b5 (uni hv 8 s) 44)] mixed (by kernel_rfl) (by kernel_rfl) ?_
    refine DE.q rfl rfl rfl rfl (V.mv rfl) ?_
    refine DE.q rfl rfl rfl rfl (V.iaA rfl rfl ar44 (by omega)) ?_
    refine DE.q rfl rfl rfl rfl (V.ldUA (lab := 4) rfl rfl ag29 (i := k) (getD_some (d := h0) (by omega)) (by omega) rfl) ?_
    refine DE.call rfl rfl rfl rfl tx200 rfl (fun N hN => mark_pu _ _ _ _) ?_
    refine DE.q rfl rfl rfl rfl (V.mv rfl) ?_
    refine DE.q rfl rfl rfl rfl (V.iaA rfl rfl ar44 (by omega)) ?_
    refine DE.q rfl rfl rfl rfl (V.ldUA (lab := 5) rfl rfl ag29 (i := k) (getD_some (d := h0) (by omega)) (by omega) rfl) ?_
    refine DE.nil ?_
    refine DT.o2 (i := 7) (j := 8) (by kernel_rfl) (by decide) (MSub.pull rfl <| MSub.pull rfl <| MSub.nil) ?_ ?_
    · refine DO.o (rest := [8, 9, 10]) (by decide) (by decide) rfl rfl fun Kc hKc => ?_
      refine JO.alloc (l := 9) rfl zr29 fun b9 => (hKc _ _ _ (Hp.le_refl _) ?_)
      clear hKc Kc
      refine DT.o (by kernel_rfl) (MSub.pull rfl <| MSub.pull rfl <| MSub.nil) rfl rfl fun Kc hKc => ?_
      refine JO.alloc (l := 10) rfl zr29 fun b10 => (hKc _ _ _ (Hp.le_refl _) ?_)
      clear hKc Kc
      refine DT.o (by kernel_rfl) (MSub.pull rfl <| MSub.pull rfl <| MSub.nil) rfl rfl fun Kc hKc => ?_
      refine JO.st (i := 0) (l := 9) rfl rfl rfl sz29 rfl rfl (hKc _ _ _ (Hp.le_refl _) ?_)
      clear hKc Kc
      refine DT.o (by kernel_rfl) (MSub.pull rfl <| MSub.pull rfl <| MSub.nil) rfl rfl fun Kc hKc => ?_
      refine JO.st (i := 0) (l := 10) rfl rfl rfl sz29 rfl rfl (hKc _ _ _ (Hp.le_refl _) ?_)
      clear hKc Kc
      refine DT.nil' (by kernel_rfl) ?_
      refine Po.then ?_
      refine C.seq ?_
      refine C.seq ?_
      refine C.reg ?_
      refine J.q rfl rfl rfl (V.ldA (i := 0) 3 rfl rfl ag29 rfl rfl) ?_
      refine J.q rfl rfl rfl (V.mv rfl) ?_
      refine J.callP rfl tx199 rfl (bit_pu _ _ (by omega) _ _ _) ?_ 
      refine J.q rfl rfl rfl (V.eql rfl rfl) ?_
      refine J.nil ?_
      refine Po.then ?_
      refine C.ifd rfl (fun h25 => ?_) (fun h25 => ?_)
      · have h25 : bitOf m k = 1 := by omega
        have hps := pub_step (o := o) (s := s) (s.getD k h0) (markOf (o.getD k h0)) (by rw [if_pos h25]; exact ⟨rfl, rfl⟩)
        refine C.reg ?_
        refine J.q rfl rfl rfl (V.ldA (i := 0) 10 rfl rfl ag29 rfl rfl) ?_
        refine J.q rfl rfl rfl (V.ldA (i := 0) 9 rfl rfl ag29 rfl rfl) ?_
        refine J.one rfl (JO.st (i := 0) (l := 9) rfl rfl rfl sz29 rfl rfl ?_)
        refine J.one rfl (JO.st (i := 0) (l := 10) rfl rfl rfl sz29 rfl rfl ?_)
        refine J.nil ?_
        refine Po.then ?_
        refine C.draw [2, 4, 5] [0, 1, 3] [] mixed (by kernel_rfl) (by kernel_rfl) ?_
        refine DE.q rfl rfl rfl rfl (V.mv rfl) ?_
        refine DE.q rfl rfl rfl rfl (V.slA (lo := 0) (hi := 8) rfl ar29 rfl rfl (by decide) (by decide) (by decide)) ?_
        refine DE.q rfl rfl rfl rfl (V.slA (lo := 0) (hi := 8) rfl ar29 rfl rfl (by decide) (by decide) (by decide)) ?_
        refine DE.nil ?_
        refine DT.o (by kernel_rfl) (MSub.nil) rfl rfl fun Kc hKc => ?_
        refine JO.appH (l := 7) (l2 := 9) rfl rfl rfl el73 rfl rfl (by simp [bys_length]; omega) (by simp [bys_length, maxLen]; omega) fun a30 c30 => (hKc _ _ _ (Hp.le_refl _) ?_)
        clear hKc Kc
        refine DT.o (by kernel_rfl) (MSub.nil) rfl rfl fun Kc hKc => ?_
        refine JO.appH (l := 7) (l2 := 10) rfl rfl rfl el73 rfl rfl (by simp [bys_length]; omega) (by simp [bys_length, maxLen]; omega) fun a32 c32 => (hKc _ _ _ (Hp.le_refl _) ?_)
        clear hKc Kc
        refine DT.o' (by kernel_rfl) (by kernel_rfl) rfl rfl fun Kc hKc => ?_
        refine JO.q rfl rfl (V.as rfl) (hKc _ _ _ (Hp.le_refl _) ?_)
        clear hKc Kc
        refine DT.nil' (by kernel_rfl) ?_
        refine Po.blkN ?_
        refine Po.then ?_
        refine C.reg ?_
        refine J.q rfl rfl rfl (V.mv rfl) ?_
        refine J.q rfl rfl rfl (V.add rfl rfl (by omega)) ?_
        refine J.q rfl rfl rfl (V.as rfl) ?_
        refine J.nil ?_
        exact Po.roundP (k + 1, a32, c32) (by first | omega | (dsimp only; omega)) (Sub.cons rfl <| Sub.cons' rfl (by rw [hps]) <| Sub.cons rfl <| Sub.cons rfl <| Sub.cons rfl <| Sub.cons rfl <| Sub.nil) (MSub.pullE rfl (by rw [hps]) <| MSub.pull rfl <| MSub.pull rfl <| MSub.pull rfl <| MSub.pull rfl <| MSub.drop <| MSub.drop <| MSub.refl) (by first | omega | (dsimp only; omega))
      · have h25 : ¬ bitOf m k = 1 := by omega
        have hps := pub_step (o := o) (s := s) (markOf (o.getD k h0)) (s.getD k h0) (by rw [if_neg h25]; exact ⟨rfl, rfl⟩)
        refine C.skip ?_
        refine Po.then ?_
        refine C.draw [2, 4, 5] [0, 1, 3] [] mixed (by kernel_rfl) (by kernel_rfl) ?_
        refine DE.q rfl rfl rfl rfl (V.mv rfl) ?_
        refine DE.q rfl rfl rfl rfl (V.slA (lo := 0) (hi := 8) rfl ar29 rfl rfl (by decide) (by decide) (by decide)) ?_
        refine DE.q rfl rfl rfl rfl (V.slA (lo := 0) (hi := 8) rfl ar29 rfl rfl (by decide) (by decide) (by decide)) ?_
        refine DE.nil ?_
        refine DT.o (by kernel_rfl) (MSub.nil) rfl rfl fun Kc hKc => ?_
        refine JO.appH (l := 7) (l2 := 9) rfl rfl rfl el73 rfl rfl (by simp [bys_length]; omega) (by simp [bys_length, maxLen]; omega) fun a30 c30 => (hKc _ _ _ (Hp.le_refl _) ?_)
        clear hKc Kc
        refine DT.o (by kernel_rfl) (MSub.nil) rfl rfl fun Kc hKc => ?_
        refine JO.appH (l := 7) (l2 := 10) rfl rfl rfl el73 rfl rfl (by simp [bys_length]; omega) (by simp [bys_length, maxLen]; omega) fun a32 c32 => (hKc _ _ _ (Hp.le_refl _) ?_)
        clear hKc Kc
        refine DT.o' (by kernel_rfl) (by kernel_rfl) rfl rfl fun Kc hKc => ?_
        refine JO.q rfl rfl (V.as rfl) (hKc _ _ _ (Hp.le_refl _) ?_)
        clear hKc Kc
        refine DT.nil' (by kernel_rfl) ?_
        refine Po.blkN ?_
        refine Po.then ?_
        refine C.reg ?_
        refine J.q rfl rfl rfl (V.mv rfl) ?_
        refine J.q rfl rfl rfl (V.add rfl rfl (by omega)) ?_
        refine J.q rfl rfl rfl (V.as rfl) ?_
        refine J.nil ?_
        exact Po.roundP (k + 1, a32, c32) (by first | omega | (dsimp only; omega)) (Sub.cons rfl <| Sub.cons' rfl (by rw [hps]) <| Sub.cons rfl <| Sub.cons rfl <| Sub.cons rfl <| Sub.cons rfl <| Sub.nil) (MSub.pullE rfl (by rw [hps]) <| MSub.pull rfl <| MSub.pull rfl <| MSub.pull rfl <| MSub.pull rfl <| MSub.drop <| MSub.drop <| MSub.refl) (by first | omega | (dsimp only; omega))
    · refine DO.o (rest := [7, 9, 10]) (by decide) (by decide) rfl rfl fun Kc hKc => ?_
      refine JO.alloc (l := 10) rfl zr29 fun b10 => (hKc _ _ _ (Hp.le_refl _) ?_)
      clear hKc Kc
      refine DT.o (by kernel_rfl) (MSub.pull rfl <| MSub.pull rfl <| MSub.nil) rfl rfl fun Kc hKc => ?_
      refine JO.alloc (l := 9) rfl zr29 fun b9 => (hKc _ _ _ (Hp.le_refl _) ?_)
      clear hKc Kc
      refine DT.o (by kernel_rfl) (MSub.pull rfl <| MSub.pull rfl <| MSub.nil) rfl rfl fun Kc hKc => ?_
      refine JO.st (i := 0) (l := 9) rfl rfl rfl sz29 rfl rfl (hKc _ _ _ (Hp.le_refl _) ?_)
      clear hKc Kc
      refine DT.o (by kernel_rfl) (MSub.pull rfl <| MSub.pull rfl <| MSub.nil) rfl rfl fun Kc hKc => ?_
      refine JO.st (i := 0) (l := 10) rfl rfl rfl sz29 rfl rfl (hKc _ _ _ (Hp.le_refl _) ?_)
      clear hKc Kc
      refine DT.nil' (by kernel_rfl) ?_
      refine Po.then ?_
      refine C.seq ?_
      refine C.seq ?_
      refine C.reg ?_
      refine J.q rfl rfl rfl (V.ldA (i := 0) 3 rfl rfl ag29 rfl rfl) ?_
      refine J.q rfl rfl rfl (V.mv rfl) ?_
      refine J.callP rfl tx199 rfl (bit_pu _ _ (by omega) _ _ _) ?_ 
      refine J.q rfl rfl rfl (V.eql rfl rfl) ?_
      refine J.nil ?_
      refine Po.then ?_
      refine C.ifd rfl (fun h25 => ?_) (fun h25 => ?_)
      · have h25 : bitOf m k = 1 := by omega
        have hps := pub_step (o := o) (s := s) (s.getD k h0) (markOf (o.getD k h0)) (by rw [if_pos h25]; exact ⟨rfl, rfl⟩)
        refine C.reg ?_
        refine J.q rfl rfl rfl (V.ldA (i := 0) 10 rfl rfl ag29 rfl rfl) ?_
        refine J.q rfl rfl rfl (V.ldA (i := 0) 9 rfl rfl ag29 rfl rfl) ?_
        refine J.one rfl (JO.st (i := 0) (l := 9) rfl rfl rfl sz29 rfl rfl ?_)
        refine J.one rfl (JO.st (i := 0) (l := 10) rfl rfl rfl sz29 rfl rfl ?_)
        refine J.nil ?_
        refine Po.then ?_
        refine C.draw [2, 4, 5] [0, 1, 3] [] mixed (by kernel_rfl) (by kernel_rfl) ?_
        refine DE.q rfl rfl rfl rfl (V.mv rfl) ?_
        refine DE.q rfl rfl rfl rfl (V.slA (lo := 0) (hi := 8) rfl ar29 rfl rfl (by decide) (by decide) (by decide)) ?_
        refine DE.q rfl rfl rfl rfl (V.slA (lo := 0) (hi := 8) rfl ar29 rfl rfl (by decide) (by decide) (by decide)) ?_
        refine DE.nil ?_
        refine DT.o (by kernel_rfl) (MSub.nil) rfl rfl fun Kc hKc => ?_
        refine JO.appH (l := 7) (l2 := 9) rfl rfl rfl el73 rfl rfl (by simp [bys_length]; omega) (by simp [bys_length, maxLen]; omega) fun a30 c30 => (hKc _ _ _ (Hp.le_refl _) ?_)
        clear hKc Kc
        refine DT.o (by kernel_rfl) (MSub.nil) rfl rfl fun Kc hKc => ?_
        refine JO.appH (l := 7) (l2 := 10) rfl rfl rfl el73 rfl rfl (by simp [bys_length]; omega) (by simp [bys_length, maxLen]; omega) fun a32 c32 => (hKc _ _ _ (Hp.le_refl _) ?_)
        clear hKc Kc
        refine DT.o' (by kernel_rfl) (by kernel_rfl) rfl rfl fun Kc hKc => ?_
        refine JO.q rfl rfl (V.as rfl) (hKc _ _ _ (Hp.le_refl _) ?_)
        clear hKc Kc
        refine DT.nil' (by kernel_rfl) ?_
        refine Po.blkN ?_
        refine Po.then ?_
        refine C.reg ?_
        refine J.q rfl rfl rfl (V.mv rfl) ?_
        refine J.q rfl rfl rfl (V.add rfl rfl (by omega)) ?_
        refine J.q rfl rfl rfl (V.as rfl) ?_
        refine J.nil ?_
        exact Po.roundP (k + 1, a32, c32) (by first | omega | (dsimp only; omega)) (Sub.cons rfl <| Sub.cons' rfl (by rw [hps]) <| Sub.cons rfl <| Sub.cons rfl <| Sub.cons rfl <| Sub.cons rfl <| Sub.nil) (MSub.pullE rfl (by rw [hps]) <| MSub.pull rfl <| MSub.pull rfl <| MSub.pull rfl <| MSub.pull rfl <| MSub.drop <| MSub.drop <| MSub.refl) (by first | omega | (dsimp only; omega))
      · have h25 : ¬ bitOf m k = 1 := by omega
        have hps := pub_step (o := o) (s := s) (markOf (o.getD k h0)) (s.getD k h0) (by rw [if_neg h25]; exact ⟨rfl, rfl⟩)
        refine C.skip ?_
        refine Po.then ?_
        refine C.draw [2, 4, 5] [0, 1, 3] [] mixed (by kernel_rfl) (by kernel_rfl) ?_
        refine DE.q rfl rfl rfl rfl (V.mv rfl) ?_
        refine DE.q rfl rfl rfl rfl (V.slA (lo := 0) (hi := 8) rfl ar29 rfl rfl (by decide) (by decide) (by decide)) ?_
        refine DE.q rfl rfl rfl rfl (V.slA (lo := 0) (hi := 8) rfl ar29 rfl rfl (by decide) (by decide) (by decide)) ?_
        refine DE.nil ?_
        refine DT.o (by kernel_rfl) (MSub.nil) rfl rfl fun Kc hKc => ?_
        refine JO.appH (l := 7) (l2 := 9) rfl rfl rfl el73 rfl rfl (by simp [bys_length]; omega) (by simp [bys_length, maxLen]; omega) fun a30 c30 => (hKc _ _ _ (Hp.le_refl _) ?_)
        clear hKc Kc
        refine DT.o (by kernel_rfl) (MSub.nil) rfl rfl fun Kc hKc => ?_
        refine JO.appH (l := 7) (l2 := 10) rfl rfl rfl el73 rfl rfl (by simp [bys_length]; omega) (by simp [bys_length, maxLen]; omega) fun a32 c32 => (hKc _ _ _ (Hp.le_refl _) ?_)
        clear hKc Kc
        refine DT.o' (by kernel_rfl) (by kernel_rfl) rfl rfl fun Kc hKc => ?_
        refine JO.q rfl rfl (V.as rfl) (hKc _ _ _ (Hp.le_refl _) ?_)
        clear hKc Kc
        refine DT.nil' (by kernel_rfl) ?_
        refine Po.blkN ?_
        refine Po.then ?_
        refine C.reg ?_
        refine J.q rfl rfl rfl (V.mv rfl) ?_
        refine J.q rfl rfl rfl (V.add rfl rfl (by omega)) ?_
        refine J.q rfl rfl rfl (V.as rfl) ?_
        refine J.nil ?_
        exact Po.roundP (k + 1, a32, c32) (by first | omega | (dsimp only; omega)) (Sub.cons rfl <| Sub.cons' rfl (by rw [hps]) <| Sub.cons rfl <| Sub.cons rfl <| Sub.cons rfl <| Sub.cons rfl <| Sub.nil) (MSub.pullE rfl (by rw [hps]) <| MSub.pull rfl <| MSub.pull rfl <| MSub.pull rfl <| MSub.pull rfl <| MSub.drop <| MSub.drop <| MSub.refl) (by first | omega | (dsimp only; omega))
  · obtain rfl : k = 16 := by omega
    refine C.exit ?_
    refine Po.thenX ?_
    refine Po.thenX ?_
    refine Po.blkX ?_
    refine Po.then ?_
    refine C.seq ?_
    refine C.reg ?_
    refine J.q rfl rfl rfl (V.mv rfl) ?_
    refine J.one rfl (JO.bslS (l := 34) rfl el173 rfl rfl rfl Cs.all (by decide) fun a34 c34 => ?_)
    refine J.callP rfl tx45 rfl (Pu.lend (l := 7) rfl fun k7 hA7 hl7 hr7 => Pu.lend (l := 34) rfl fun k34 hA34 hl34 hr34 => Dig_pu 107 _ [pubTo m o s 16] _ _ _ (PS.of (qs := [_]) ((hA34.rs hr34)) ⟨((hA7.rs hr7).mono hl34), trivial⟩) (by simp [packed, le4, pubTo_length])) ?_ 
    refine J.one rfl (JO.st (i := 0) (l := 6) rfl rfl rfl sz29 rfl rfl ?_)
    refine J.nil ?_
    refine Po.then ?_
    refine C.ret ?_
    exact Po.end1 rfl rfl (RV.cA (l := 6) rfl rfl ag29 rfl) fun W hI => ⟨rfl, hI.drop.drop.drop.drop.drop.drop⟩

theorem publics_fn (s : Hash) (w0 : World) (ro : Hp) (M : Res) : Sx.Fn Tryz.prog 162 #[hv s] w0 ro M (fun u M1 => ∃ a c, u = .slice a (hkR (publicsOf s)).length c ∧ M1 = (116, Ow (.slice a (hkR (publicsOf s)).length c) 29 8 (hkR (publicsOf s))) :: M) := by
  refine Sx.Fn.enter Tryz.func162 rfl rfl ?_
  refine C.seq ?_
  refine C.reg ?_
  refine J.one rfl (JO.box1 (l := 1) rfl rfl fun b1 => ?_)
  refine J.q rfl rfl rfl (V.as rfl) ?_
  refine J.nil ?_
  refine Po.then ?_
  refine C.seq ?_
  refine C.nilO 116 29 8 ?_
  refine C.reg ?_
  refine J.q rfl rfl rfl (V.as rfl) ?_
  refine J.nil ?_
  refine Po.then ?_
  refine C.seq ?_
  refine C.seq ?_
  refine C.reg ?_
  refine J.q rfl rfl rfl (V.as rfl) ?_
  refine J.nil ?_
  refine Po.then ?_
  refine C.block ?_
  refine C.loopP (fun (x : Nat × Option Addr × Nat) => x.1 ≤ 8) (fun (x : Nat × Option Addr × Nat) => [(4, .int .i64 (x.1 : Int)), (3, .slice x.2.1 (hkR (publicsTo s x.1)).length x.2.2), (1, .pointer (some ⟨b1, 0, none⟩))]) (fun (x : Nat × Option Addr × Nat) => (116, Ow (.slice x.2.1 (hkR (publicsTo s x.1)).length x.2.2) 29 8 (hkR (publicsTo s x.1))) :: (1, St b1 [(8, hv s)] 29) :: M) (fun (x : Nat × Option Addr × Nat) => 8 - x.1) (0, none, 0) (by first | omega | (dsimp only; omega)) (Sub.cons rfl <| Sub.cons rfl <| Sub.cons rfl <| Sub.nil) (MSub.pullE rfl (by rfl) <| MSub.pull rfl <| MSub.refl) fun x hok => ?_
  obtain ⟨k, qa, qc⟩ := x
  dsimp only at hok ⊢
  refine C.seq ?_
  refine C.seq ?_
  refine C.reg ?_
  refine J.q rfl rfl rfl (V.mv rfl) ?_
  refine J.q rfl rfl rfl (V.lss rfl rfl) ?_
  refine J.nil ?_
  refine Po.then ?_
  refine C.ifd rfl (fun h8 => ?_) (fun h8 => ?_)
  · have hk : k < 8 := by omega
    refine C.skip ?_
    refine Po.then ?_
    refine C.seq ?_
    refine C.block ?_
    refine C.seq ?_
    refine C.reg ?_
    refine J.q rfl rfl rfl (V.ldA (i := 0) 1 rfl rfl ag29 rfl rfl) ?_
    refine J.q rfl rfl rfl (V.mv rfl) ?_
    refine J.q rfl rfl rfl (V.bldH0 rfl ar29 zr29) ?_
    refine J.callP rfl tx165 rfl (sign_pu _ _ _ _ _ _) ?_ 
    refine J.q rfl rfl rfl (V.mv rfl) ?_
    refine J.q rfl rfl rfl (V.ex rfl rfl) ?_
    refine J.q rfl rfl rfl (V.ex rfl rfl) ?_
    refine J.one rfl (JO.alloc (l := 5) rfl zr44 fun b5 => ?_)
    refine J.one rfl (JO.alloc (l := 6) rfl zr44 fun b6 => ?_)
    refine J.one rfl (JO.stS (l := 5) rfl rfl rfl sz44 (by simp [lsz_uni, opnTo_length, shutTo_length]) (by simp [lsz_uni, opnTo_length, shutTo_length]) ?_)
    refine J.one rfl (JO.stS (l := 6) rfl rfl rfl sz44 (by simp [lsz_uni, opnTo_length, shutTo_length]) (by simp [lsz_uni, opnTo_length, shutTo_length]) ?_)
    refine J.nil ?_
    refine Po.then ?_
    refine C.reg ?_
    refine J.q rfl rfl rfl (V.mv rfl) ?_
    refine J.q rfl rfl rfl (V.bldH0 rfl ar29 zr29) ?_
    refine J.q rfl rfl rfl (V.ldW 5 rfl rfl ag44 (by simp [lsz_uni, opnTo_length, shutTo_length])) ?_
    refine J.q rfl rfl rfl (V.ldW 6 rfl rfl ag44 (by simp [lsz_uni, opnTo_length, shutTo_length])) ?_
    refine J.callP rfl tx196 rfl (public_pu _ _ _ (opnTo_length _ _ _ _) (shutTo_length _ _ _ _) _ _ _) ?_ 
    refine J.one rfl (JO.bslS (l := 23) rfl el38 rfl rfl rfl Cs.all (by decide) fun a23 c23 => ?_)
    refine J.one rfl (JO.appOS (l := 116) (l2 := 23) rfl rfl rfl el38 rfl rfl (by rw [hkR_length, publicsTo_length]; simp; omega) (by rw [hkR_length, publicsTo_length]; simp [maxLen]; omega) fun a24 c24 => ?_)
    refine J.q rfl rfl rfl (V.as rfl) ?_
    refine J.nil ?_
    refine Po.blkN ?_
    refine Po.then ?_
    refine C.reg ?_
    refine J.q rfl rfl rfl (V.mv rfl) ?_
    refine J.q rfl rfl rfl (V.add rfl rfl (by omega)) ?_
    refine J.q rfl rfl rfl (V.as rfl) ?_
    refine J.nil ?_
    exact Po.roundP (k + 1, a24, c24) (by first | omega | (dsimp only; omega)) (Sub.cons rfl <| Sub.cons' rfl (by rw [← publicsTo_succ s k]; rfl) <| Sub.cons rfl <| Sub.nil) (MSub.pullE rfl (by rw [← publicsTo_succ s k]; rfl) <| MSub.pull rfl <| MSub.drop <| MSub.drop <| MSub.drop <| MSub.refl) (by first | omega | (dsimp only; omega))
  · obtain rfl : k = 8 := by omega
    refine C.exit ?_
    refine Po.thenX ?_
    refine Po.thenX ?_
    refine Po.blkX ?_
    refine Po.then ?_
    refine C.seq ?_
    refine C.reg ?_
    refine J.q rfl rfl rfl (V.mv rfl) ?_
    refine J.q rfl rfl rfl (V.as rfl) ?_
    refine J.nil ?_
    refine Po.then ?_
    refine C.ret ?_
    exact Po.end1 rfl rfl rfl fun W hI => ⟨_, _, rfl, ⟨_, _, rfl, rfl⟩, (hI.sub (MSub.pull rfl <| MSub.drop <| MSub.refl))⟩

theorem cut_pu (m : Nat) (hm : 0 < m) (hb : m ≤ 65536) (w0 : World) (ro : Hp) (M : Res) : Pu Tryz.prog 195 #[.int .i64 (m : Int)] w0 ro M (.int .i64 ((cutN m : Nat) : Int)) := by
  refine Pu.enter Tryz.func195 rfl rfl ?_
  refine C.seq ?_
  refine C.reg ?_
  refine J.q rfl rfl rfl (V.as rfl) ?_
  refine J.nil ?_
  refine Po.then ?_
  refine C.seq ?_
  refine C.reg ?_
  refine J.q rfl rfl rfl (V.as rfl) ?_
  refine J.nil ?_
  refine Po.then ?_
  refine C.seq ?_
  refine C.block ?_
  refine C.loopP (fun (k : Nat) => 0 < k ∧ k ≤ m ∧ cutF m k m = cutN m) (fun (k : Nat) => [(3, .int .i64 (k : Int)), (0, .int .i64 (m : Int))]) (fun (k : Nat) => M) (fun (k : Nat) => m - k) 1 ⟨by decide, hm, rfl⟩ (Sub.cons rfl <| Sub.cons rfl <| Sub.nil) (MSub.refl) fun k hok => ?_
  refine C.seq ?_
  refine C.seq ?_
  refine C.reg ?_
  refine J.q rfl rfl rfl (V.mv rfl) ?_
  refine J.q rfl rfl rfl (V.mul rfl rfl (by omega)) ?_
  refine J.q rfl rfl rfl (V.mv rfl) ?_
  refine J.q rfl rfl rfl (V.lss rfl rfl) ?_
  refine J.nil ?_
  refine Po.then ?_
  refine C.ifd rfl (fun h7 => ?_) (fun h7 => ?_)
  · refine C.skip ?_
    refine Po.then ?_
    refine C.block ?_
    refine C.reg ?_
    refine J.q rfl rfl rfl (V.mv rfl) ?_
    refine J.q rfl rfl rfl (V.mul rfl rfl (by omega)) ?_
    refine J.q rfl rfl rfl (V.as rfl) ?_
    refine J.nil ?_
    refine Po.blkN ?_
    exact Po.roundP (2 * k) ⟨by omega, by omega, (cut_step hok.1 (by omega)).trans hok.2.2⟩ (Sub.cons' rfl (by rfl) <| Sub.cons rfl <| Sub.nil) (MSub.refl) (by have := hok.1; omega)
  · rw [← hok.2.2, cut_end hm (by omega)]
    refine C.exit ?_
    refine Po.thenX ?_
    refine Po.thenX ?_
    refine Po.blkX ?_
    refine Po.then ?_
    refine C.seq ?_
    refine C.reg ?_
    refine J.q rfl rfl rfl (V.mv rfl) ?_
    refine J.q rfl rfl rfl (V.as rfl) ?_
    refine J.nil ?_
    refine Po.then ?_
    refine C.ret ?_
    exact Po.end1 rfl rfl rfl fun W hI => ⟨rfl, hI⟩

theorem Root_step (v : Value) (l : List Hash) (w0 : World) (ro : Hp) (M : Res) (hR : RS ro v 8 (hkR l)) (ih : ∀ (v : Value) (l1 : List Hash), l1.length < l.length → RS ro v 8 (hkR l1) → ∀ M : Res, Pu Tryz.prog 161 #[v] w0 ro M (hv (rootOf l1))) : Pu Tryz.prog 161 #[v] w0 ro M (hv (rootOf l)) := by
  obtain ⟨aV, cV, rfl, _⟩ := hR.shape
  refine Pu.enter Tryz.func161 rfl rfl ?_
  refine C.seq ?_
  refine C.reg ?_
  refine J.one rfl (JO.alloc (l := 2) rfl zr29 fun b2 => ?_)
  refine J.nil ?_
  refine Po.then ?_
  refine C.seq ?_
  refine C.block ?_
  refine C.seq ?_
  refine C.reg ?_
  refine J.q rfl rfl rfl (V.mv rfl) ?_
  refine J.q rfl rfl rfl (V.to (V.lenR rfl hR Tryz.underlying38) (by rw [hkR_length])) ?_
  refine J.q rfl rfl rfl (V.eql rfl rfl) ?_
  refine J.mvB rfl rfl fun gb8 hgb8 => ?_
  refine J.gv rfl rfl rfl rfl rfl rfl (fun hg => by subst hg; exact V.mv rfl) ?_
  refine J.gv rfl rfl rfl rfl rfl rfl (fun hg => by subst hg; exact V.to (V.lenR rfl hR Tryz.underlying38) (by rw [hkR_length])) ?_
  refine J.gv rfl rfl rfl rfl rfl rfl (fun hg => by subst hg; exact V.gtr rfl rfl) ?_
  refine J.q rfl rfl rfl (V.or rfl rfl rfl) ?_
  refine J.q rfl rfl rfl (V.as rfl) ?_
  refine J.nil ?_
  refine Po.then ?_
  refine C.ite rfl (fun h4 => ?_) (fun h4 => ?_)
  · subst hgb8
    try simp only [Bool.and_eq_true, Bool.or_eq_true, Bool.and_eq_false_iff, Bool.or_eq_false_iff, Bool.not_eq_true', Bool.not_eq_false', decide_eq_true_eq, decide_eq_false_iff_not] at h4
    rw [rootOf_none (l := l) (by omega)]
    refine C.seq ?_
    refine C.reg ?_
    refine J.q rfl rfl rfl (V.bldH0 rfl ar29 zr29) ?_
    refine J.one rfl (JO.st (i := 0) (l := 2) rfl rfl rfl sz29 rfl rfl ?_)
    refine J.nil ?_
    refine Po.then ?_
    refine C.ret ?_
    refine Po.blkR ?_
    refine Po.thenR ?_
    exact Po.end1 rfl rfl (RV.cA (l := 2) rfl rfl ag29 rfl) fun W hI => ⟨rfl, hI.drop⟩
  · subst hgb8
    try simp only [Bool.and_eq_true, Bool.or_eq_true, Bool.and_eq_false_iff, Bool.or_eq_false_iff, Bool.not_eq_true', Bool.not_eq_false', decide_eq_true_eq, decide_eq_false_iff_not] at h4
    refine C.seq ?_
    refine C.reg ?_
    refine J.q rfl rfl rfl (V.mv rfl) ?_
    refine J.q rfl rfl rfl (V.to (V.lenR rfl hR Tryz.underlying38) (by rw [hkR_length])) ?_
    refine J.q rfl rfl rfl (V.eql rfl rfl) ?_
    refine J.q rfl rfl rfl (V.as rfl) ?_
    refine J.nil ?_
    refine Po.then ?_
    refine C.ite rfl (fun h14 => ?_) (fun h14 => ?_)
    · have h14 : l.length = 1 := by simp at h14; omega
      obtain ⟨x, hx⟩ : ∃ x, l[0]? = some x := ⟨_, List.getElem?_eq_getElem (by omega)⟩
      have hx0 : l.getD 0 h0 = x := by rw [List.getD_eq_getElem?_getD, hx]; rfl
      rw [rootOf_one h14, hx0]
      refine C.seq ?_
      refine C.reg ?_
      refine J.q rfl rfl rfl (V.mv rfl) ?_
      refine J.q rfl rfl rfl (V.iaR rfl hR rfl sl38 (by rw [hkR_length]; simp; omega)) ?_
      refine J.q rfl rfl rfl (V.slA (lo := 0) (hi := 8) rfl ar29 rfl rfl (by decide) (by decide) (by decide)) ?_
      refine J.one rfl (JO.bslS (l := 21) rfl el173 rfl rfl rfl Cs.all (by decide) fun a21 c21 => ?_)
      refine J.callP rfl tx45 rfl (Pu.lend (l := 21) rfl fun k21 hA21 hl21 hr21 => Dig_pu 108 _ [x.toList] _ _ _ (PS.of (qs := [_]) ((hA21.rs hr21)) ⟨((rs_elem hR hx).mono hl21), trivial⟩) (by simp [packed, le4])) ?_ 
      refine J.one rfl (JO.st (i := 0) (l := 2) rfl rfl rfl sz29 rfl rfl ?_)
      refine J.nil ?_
      refine Po.then ?_
      refine C.ret ?_
      refine Po.blkR ?_
      refine Po.thenR ?_
      exact Po.end1 rfl rfl (RV.cA (l := 2) rfl rfl ag29 rfl) fun W hI => ⟨rfl, hI.drop.drop⟩
    · have h14 : ¬ l.length = 1 := by simp at h14; omega
      have hl1 : 1 < l.length := by omega
      have hl2 : l.length ≤ 65536 := by omega
      rw [rootOf_two hl1 hl2]
      have hc := cutN_bd hl1
      have hR1 := hR.sub (lo := 0) (hi := cutN l.length) (by omega) (by rw [hkR_length]; omega)
      rw [hkR_take] at hR1
      have hR2 := hR.sub (lo := cutN l.length) (hi := (hkR l).length) (by rw [hkR_length]; omega) (by omega)
      rw [hkR_drop] at hR2
      refine C.skip ?_
      refine Po.blkN ?_
      refine Po.then ?_
      refine C.seq ?_
      refine C.reg ?_
      refine J.q rfl rfl rfl (V.mv rfl) ?_
      refine J.q rfl rfl rfl (V.to (V.lenR rfl hR Tryz.underlying38) (by rw [hkR_length])) ?_
      refine J.callP rfl tx195 rfl (cut_pu _ (by omega) (by omega) _ _ _) ?_ 
      refine J.q rfl rfl rfl (V.as rfl) ?_
      refine J.nil ?_
      refine Po.then ?_
      refine C.seq ?_
      refine C.drawM [9] [0, 1, 2, 3, 4, 5, 6, 7, 8] mixed (by kernel_rfl) (by kernel_rfl) ?_
      refine DE.q rfl rfl rfl rfl (V.mv rfl) ?_
      refine DE.q rfl rfl rfl rfl (V.mv rfl) ?_
      refine DE.q rfl rfl rfl rfl (V.slR (lo := 0) (hi := cutN l.length) rfl hR sl38 rfl ⟨_, rfl⟩ (by omega) (by rw [hkR_length]; omega)) ?_
      refine DE.call rfl rfl rfl rfl tx161 rfl (fun N hN => ih _ _ (by rw [List.length_take]; omega) hR1 _) ?_
      refine DE.q rfl rfl rfl rfl (V.mv rfl) ?_
      refine DE.q rfl rfl rfl rfl (V.mv rfl) ?_
      refine DE.q rfl rfl rfl rfl (V.slR (lo := cutN l.length) (hi := (hkR l).length) rfl hR sl38 ⟨_, rfl⟩ rfl (by rw [hkR_length]; omega) (by omega)) ?_
      refine DE.call rfl rfl rfl rfl tx161 rfl (fun N hN => ih _ _ (by rw [List.length_drop]; omega) hR2 _) ?_
      refine DE.call rfl rfl rfl rfl tx182 rfl (fun N hN => rTwo_pu 109 _ _ _ _ _) ?_
      refine DE.nil ?_
      refine DT.o (by kernel_rfl) (MSub.refl) rfl rfl fun Kc hKc => ?_
      refine JO.st (i := 0) (l := 2) rfl rfl rfl sz29 rfl rfl (hKc _ _ _ (Hp.le_refl _) ?_)
      clear hKc Kc
      refine DT.nil' (by kernel_rfl) ?_
      refine Po.then ?_
      refine C.ret ?_
      exact Po.end1 rfl rfl (RV.cA (l := 2) rfl rfl ag29 rfl) fun W hI => ⟨rfl, hI.drop⟩

theorem Root_pu (w0 : World) (ro : Hp) : ∀ (n : Nat) (v : Value) (l : List Hash), l.length ≤ n → RS ro v 8 (hkR l) → ∀ M : Res, Pu Tryz.prog 161 #[v] w0 ro M (hv (rootOf l))
  | 0, v, l, h, hR, M => Root_step v l w0 ro M hR (fun v l1 h1 _ _ => by omega)
  | n + 1, v, l, h, hR, M => Root_step v l w0 ro M hR (fun v l1 h1 hR1 M => Root_pu w0 ro n v l1 (by omega) hR1 M)

theorem rTree_pu (s : Hash) (w0 : World) (ro : Hp) (M : Res) : Pu Tryz.prog 117 #[hv s] w0 ro M (hv (treeOf s)) := by
  refine Pu.enter Tryz.func117 rfl rfl ?_
  refine C.seq ?_
  refine C.reg ?_
  refine J.one rfl (JO.box1 (l := 1) rfl rfl fun b1 => ?_)
  refine J.one rfl (JO.alloc (l := 2) rfl zr29 fun b2 => ?_)
  refine J.nil ?_
  refine Po.then ?_
  refine C.seq ?_
  refine C.reg ?_
  refine J.q rfl rfl rfl (V.ldA (i := 0) 1 rfl rfl ag29 rfl rfl) ?_
  refine J.call rfl tx162 rfl (publics_fn _ _ _ _) ?_ 
  rintro _ _ ⟨a4, c4, rfl, rfl⟩
  refine J.callP rfl tx161 rfl (Pu.lend (l := 116) rfl fun k116 hA116 hl116 hr116 => Root_pu _ _ _ _ (publicsOf s) (Nat.le_refl _) ((hA116.rs hr116)) _) ?_ 
  refine J.one rfl (JO.st (i := 0) (l := 2) rfl rfl rfl sz29 rfl rfl ?_)
  refine J.nil ?_
  refine Po.then ?_
  refine C.ret ?_
  exact Po.end1 rfl rfl (RV.cA (l := 2) rfl rfl ag29 rfl) fun W hI => ⟨rfl, hI.drop.drop.drop⟩
end Go.Proofs
namespace Go.Proofs
open Go Go.Sx Go.Db
set_option maxRecDepth 100000
theorem zr40 : Zr Tryz.prog 40 [(1, .int .i64 0), (1, .int .i64 0), (1, .int .i64 0), (1, .slice none 0 0)] := by unfold Zr; kernel_rfl
theorem pl40 : Pls Tryz.prog 40 [(0, 1), (1, 1), (2, 1), (3, 1)] := ⟨_, Tryz.underlying40, by kernel_rfl⟩
theorem sz40 : (Tryz.prog.info? 40).map (·.size) = some 4 := by kernel_rfl
theorem tx118 : Tx Tryz.prog 118 := ⟨Tryz.f118, Tryz.func118, rfl, by kernel_rfl⟩
theorem tx117 : Tx Tryz.prog 117 := ⟨Tryz.f117, Tryz.func117, rfl, by kernel_rfl⟩
theorem fo109_0 : Fo Tryz.prog 109 0 0 := ⟨_, _, 3, Tryz.underlying109, rfl, rfl, by kernel_rfl⟩
theorem fo109_1 : Fo Tryz.prog 109 1 4 := ⟨_, _, 0, Tryz.underlying109, rfl, rfl, by kernel_rfl⟩
theorem fo109_4 : Fo Tryz.prog 109 4 7 := ⟨_, _, 0, Tryz.underlying109, rfl, rfl, by kernel_rfl⟩
theorem fo109_5 : Fo Tryz.prog 109 5 8 := ⟨_, _, 0, Tryz.underlying109, rfl, rfl, by kernel_rfl⟩
theorem fo109_7 : Fo Tryz.prog 109 7 10 := ⟨_, _, 0, Tryz.underlying109, rfl, rfl, by kernel_rfl⟩
theorem fo109_8 : Fo Tryz.prog 109 8 11 := ⟨_, _, 7, Tryz.underlying109, rfl, rfl, by kernel_rfl⟩
theorem fo109_9 : Fo Tryz.prog 109 9 19 := ⟨_, _, 0, Tryz.underlying109, rfl, rfl, by kernel_rfl⟩
theorem fo109_10 : Fo Tryz.prog 109 10 20 := ⟨_, _, 20, Tryz.underlying109, rfl, rfl, by kernel_rfl⟩
theorem ag43 : Ag Tryz.prog 43 21 := ⟨⟨_, Tryz.underlying43, rfl⟩, by kernel_rfl⟩
theorem fo109_11 : Fo Tryz.prog 109 11 41 := ⟨_, _, 0, Tryz.underlying109, rfl, rfl, by kernel_rfl⟩
theorem tx62 : Tx Tryz.prog 62 := ⟨Tryz.f62, Tryz.func62, rfl, by kernel_rfl⟩
theorem zr108 : Zr Tryz.prog 108 [(1, .slice none 0 0)] := by unfold Zr; kernel_rfl
theorem pl108 : Pls Tryz.prog 108 [(0, 1)] := ⟨_, Tryz.underlying108, by kernel_rfl⟩
theorem tx64 : Tx Tryz.prog 64 := ⟨Tryz.f64, Tryz.func64, rfl, by kernel_rfl⟩
theorem tx63 : Tx Tryz.prog 63 := ⟨Tryz.f63, Tryz.func63, rfl, by kernel_rfl⟩
theorem tx65 : Tx Tryz.prog 65 := ⟨Tryz.f65, Tryz.func65, rfl, by kernel_rfl⟩
theorem zr150 : Zr Tryz.prog 150 [(1, .int .i64 0), (1, .int .i64 0), (8, hv h0), (1, .int .i64 0)] := by unfold Zr; kernel_rfl
theorem pl150 : Pls Tryz.prog 150 [(0, 1), (1, 1), (2, 8), (10, 1)] := ⟨_, Tryz.underlying150, by kernel_rfl⟩
theorem sz150 : (Tryz.prog.info? 150).map (·.size) = some 11 := by kernel_rfl
theorem ag150 : Ag Tryz.prog 150 11 := ⟨⟨_, Tryz.underlying150, rfl⟩, by kernel_rfl⟩
theorem tx66 : Tx Tryz.prog 66 := ⟨Tryz.f66, Tryz.func66, rfl, by kernel_rfl⟩
theorem tx67 : Tx Tryz.prog 67 := ⟨Tryz.f67, Tryz.func67, rfl, by kernel_rfl⟩

theorem Seed_pu (k : Int) (w0 : World) (ro : Hp) (M : Res) : Pu Tryz.prog 118 #[iv k] w0 ro M (hv (seedOf k)) := by
  refine Pu.enter Tryz.func118 rfl rfl ?_
  refine C.seq ?_
  refine C.reg ?_
  refine J.one rfl (JO.alloc (l := 2) rfl zr29 fun b2 => ?_)
  refine J.nil ?_
  refine Po.then ?_
  refine C.seq ?_
  refine C.reg ?_
  refine J.q rfl rfl rfl (V.mv rfl) ?_
  refine J.q rfl rfl rfl (V.to (V.cv rfl Tryz.underlying3 Tryz.underlying5) (byteI_of k)) ?_
  refine J.q rfl rfl rfl (V.bldA (cs := flat [(8, hv h0)]) (cs' := hc (seedOf k)) ar29 rfl zr29 rfl (seed_parts k) (seed_fill k)) ?_
  refine J.one rfl (JO.st (i := 0) (l := 2) rfl rfl rfl sz29 rfl rfl ?_)
  refine J.nil ?_
  refine Po.then ?_
  refine C.ret ?_
  exact Po.end1 rfl rfl (RV.cA (l := 2) rfl rfl ag29 rfl) fun W hI => ⟨rfl, hI.drop⟩

theorem Made_fg (m : Nat) (d : Int) (hm : m ≤ 8) (w0 : World) (ro : Hp) (M : Res) : Fg Tryz.prog 64 #[.int .i64 (m : Int), iv d] w0 ro M (fun u ro1 M1 => ∃ a c, u = ag ((madeP m d).lv (.slice a (hkR (keysM m)).length c)) ∧ RS ro1 (.slice a (hkR (keysM m)).length c) 8 (hkR (keysM m)) ∧ M1 = M) := by
  refine Fg.enter Tryz.func64 rfl rfl ?_
  have hle : Hp.le ro ro := Hp.le_refl _
  refine C.seq ?_
  refine C.reg ?_
  refine J.one rfl (JO.alloc (l := 4) rfl zr40 fun b4 => ?_)
  refine J.nil ?_
  refine Po.then ?_
  refine C.seq ?_
  refine C.reg ?_
  refine J.q rfl rfl rfl (V.mv rfl) ?_
  refine J.q rfl rfl rfl (V.bld rfl zr40 pl40 (Put.one (i := 0) rfl rfl rfl <| Put.one (i := 1) rfl rfl rfl <| Put.one (i := 2) rfl rfl rfl <| Put.nil)) ?_
  refine J.one rfl (JO.alloc (l := 5) rfl zr40 fun b5 => ?_)
  refine J.one rfl (JO.stS (l := 5) rfl rfl rfl sz40 rfl rfl ?_)
  refine J.nil ?_
  refine Po.then ?_
  refine C.seq ?_
  refine C.seq ?_
  refine C.nilO 117 29 8 ?_
  refine C.reg ?_
  refine J.q rfl rfl rfl (V.as rfl) ?_
  refine J.nil ?_
  refine Po.then ?_
  refine C.block ?_
  refine C.loopP (fun (x : Nat × Option Addr × Nat) => x.1 ≤ m) (fun (x : Nat × Option Addr × Nat) => [(6, .int .i64 (x.1 : Int)), (0, .int .i64 (m : Int)), (5, .pointer (some ⟨b5, 0, none⟩)), (4, .pointer (some ⟨b4, 0, none⟩))]) (fun (x : Nat × Option Addr × Nat) => (117, Ow (.slice x.2.1 (hkR (keysM x.1)).length x.2.2) 29 8 (hkR (keysM x.1))) :: (5, St b5 (Par.lv ⟨4, 2, d, keysM x.1⟩ (.slice x.2.1 (hkR (keysM x.1)).length x.2.2)) 40) :: (4, St b4 [(1, .int .i64 0), (1, .int .i64 0), (1, .int .i64 0), (1, .slice none 0 0)] 40) :: M) (fun (x : Nat × Option Addr × Nat) => m - x.1) (0, none, 0) (by first | omega | (dsimp only; omega)) (Sub.cons rfl <| Sub.cons rfl <| Sub.cons rfl <| Sub.cons rfl <| Sub.nil) (MSub.pullE rfl (by rfl) <| MSub.pullE rfl (by rfl) <| MSub.pull rfl <| MSub.refl) fun x hok => ?_
  obtain ⟨k, qa, qc⟩ := x
  dsimp only at hok ⊢
  refine C.seq ?_
  refine C.seq ?_
  refine C.reg ?_
  refine J.q rfl rfl rfl (V.mv rfl) ?_
  refine J.q rfl rfl rfl (V.mv rfl) ?_
  refine J.q rfl rfl rfl (V.lss rfl rfl) ?_
  refine J.mvB rfl rfl fun gb12 hgb12 => ?_
  refine J.gv rfl rfl rfl rfl rfl rfl (fun hg => by subst hg; exact V.mv rfl) ?_
  refine J.gv rfl rfl rfl rfl rfl rfl (fun hg => by subst hg; exact V.lss rfl rfl) ?_
  refine J.q rfl rfl rfl (V.and rfl rfl rfl) ?_
  refine J.nil ?_
  refine Po.then ?_
  refine C.ite rfl (fun h15 => ?_) (fun h15 => ?_)
  · subst hgb12
    try simp only [Bool.and_eq_true, Bool.or_eq_true, Bool.and_eq_false_iff, Bool.or_eq_false_iff, Bool.not_eq_true', Bool.not_eq_false', decide_eq_true_eq, decide_eq_false_iff_not] at h15
    have hk : k < m := by simp at h15; omega
    refine C.skip ?_
    refine Po.then ?_
    refine C.seq ?_
    refine C.block ?_
    refine C.draw [5, 6, 8] [0, 1, 2, 3, 4, 7] [(5, St b5 (Par.lv ⟨4, 2, d, keysM k⟩ (.slice qa (hkR (keysM k)).length qc)) 40)] mixed (by kernel_rfl) (by kernel_rfl) ?_
    refine DE.q rfl rfl rfl rfl (V.fa rfl fo40_3) ?_
    refine DE.q rfl rfl rfl rfl (V.ldS (i := 3) 5 rfl rfl sc38 rfl rfl rfl) ?_
    refine DE.q rfl rfl rfl rfl (V.mv rfl) ?_
    refine DE.call rfl rfl rfl rfl tx118 rfl (fun N hN => Seed_pu _ _ _ _) ?_
    refine DE.call rfl rfl rfl rfl tx117 rfl (fun N hN => rTree_pu _ _ _ _) ?_
    refine DE.q rfl rfl rfl rfl (V.fa rfl fo40_3) ?_
    refine DE.nil ?_
    refine DT.o (by kernel_rfl) (MSub.pull rfl <| MSub.nil) rfl rfl fun Kc hKc => ?_
    refine JO.bslS (l := 23) rfl el38 rfl rfl rfl Cs.all (by decide) fun a23 c23 => (hKc _ _ _ (Hp.le_refl _) ?_)
    clear hKc Kc
    refine DT.o (by kernel_rfl) (MSub.pull rfl <| MSub.nil) rfl rfl fun Kc hKc => ?_
    refine JO.appOS (l := 117) (l2 := 23) rfl rfl rfl el38 rfl rfl (by rw [hkR_length, keysM_length]; simp; omega) (by rw [hkR_length, keysM_length]; simp [maxLen]; omega) fun a24 c24 => (hKc _ _ _ (Hp.le_refl _) ?_)
    clear hKc Kc
    refine DT.o (by kernel_rfl) (MSub.pull rfl <| MSub.nil) rfl rfl fun Kc hKc => ?_
    refine JO.st (i := 3) (l := 5) rfl rfl rfl sz38 rfl rfl (hKc _ _ _ (Hp.le_refl _) ?_)
    clear hKc Kc
    refine DT.nil' (by kernel_rfl) ?_
    refine Po.blkN ?_
    refine Po.then ?_
    refine C.reg ?_
    refine J.q rfl rfl rfl (V.mv rfl) ?_
    refine J.q rfl rfl rfl (V.add rfl rfl (by omega)) ?_
    refine J.q rfl rfl rfl (V.as rfl) ?_
    refine J.nil ?_
    exact Po.roundP (k + 1, a24, c24) (by first | omega | (dsimp only; omega)) (Sub.cons rfl <| Sub.cons rfl <| Sub.cons rfl <| Sub.cons rfl <| Sub.nil) (MSub.pullE rfl (by rw [← keysM_succ k]; rfl) <| MSub.pullE rfl (by rw [← keysM_succ k]; rfl) <| MSub.pull rfl <| MSub.drop <| MSub.refl) (by first | omega | (dsimp only; omega))
  · subst hgb12
    try simp only [Bool.and_eq_true, Bool.or_eq_true, Bool.and_eq_false_iff, Bool.or_eq_false_iff, Bool.not_eq_true', Bool.not_eq_false', decide_eq_true_eq, decide_eq_false_iff_not] at h15
    obtain rfl : k = m := by simp at h15; omega
    refine C.exit ?_
    refine Po.thenX ?_
    refine Po.thenX ?_
    refine Po.blkX ?_
    refine Po.then ?_
    refine C.seq ?_
    refine C.freezeG (l := 117) rfl (fun _ _ hA hr => hA.rs hr) fun ro hl hk1 => ?_
    replace hle := Hp.le_trans hle hl
    refine C.reg ?_
    refine J.q rfl rfl rfl (V.ldW 5 rfl rfl ag40 rfl) ?_
    refine J.one rfl (JO.stS (l := 4) rfl rfl rfl sz40 rfl rfl ?_)
    refine J.nil ?_
    refine Po.then ?_
    refine C.ret ?_
    exact Po.end1 rfl rfl (RV.cS (l := 4) rfl rfl ag40 rfl) fun W hI => ⟨_, _, _, rfl, hle, ⟨_, _, rfl, hk1, rfl⟩, (hI.sub (MSub.drop <| MSub.drop <| MSub.refl))⟩

theorem lSide_fg (s : SideR) (vk vo vs vu : Value) (w0 : World) (ro : Hp) (M : Res) (hS : SideRS ro s vk vo vs vu) (hm : SideSm s) : Fg Tryz.prog 50 #[ag (s.lv vk vo vs vu)] w0 ro M (fun u ro1 M1 => ∃ a c, u = ag (s.lv vk vo vs (.slice a (intR s.used).length c)) ∧ RS ro1 (.slice a (intR s.used).length c) 1 (intR s.used) ∧ M1 = M) := by
  obtain ⟨aK, cK, rfl, _⟩ := hS.k.shape
  obtain ⟨aO, cO, rfl, _⟩ := hS.o.shape
  obtain ⟨aS, cS, rfl, _⟩ := hS.g.shape
  obtain ⟨aU, cU, rfl, _⟩ := hS.u.shape
  have hU := hS.u
  refine Fg.enter Tryz.func50 rfl rfl ?_
  have hle : Hp.le ro ro := Hp.le_refl _
  refine C.seq ?_
  refine C.reg ?_
  refine J.one rfl (JO.boxS (l := 1) rfl rfl fun b1 => ?_)
  refine J.one rfl (JO.alloc (l := 2) rfl zr68 fun b2 => ?_)
  refine J.nil ?_
  refine Po.then ?_
  refine C.seq ?_
  refine C.nilO 114 3 1 ?_
  refine C.draw [24, 25, 26] [0, 1, 2, 3, 4, 5, 6, 7, 8, 9, 10, 11, 12, 13, 14, 15, 16, 17, 18, 19, 20, 21, 22, 23] [(1, St b1 (s.lv (.slice aK (hkR s.par.keys).length cK) (.slice aO (rws OutD.lv s.cert.outs).length cO) (.slice aS (rws SignedD.lv s.cert.sigs).length cS) (.slice aU (intR s.used).length cU)) 109)] mixed (by kernel_rfl) (by kernel_rfl) ?_
  refine DE.q rfl rfl rfl rfl (V.fa rfl fo109_0) ?_
  refine DE.q rfl rfl rfl rfl (V.to (V.ldP (i := 0) (k := 4) 1 rfl rfl ag40 rfl rfl rfl) (show _ = ag (s.par.lv (.slice aK (hkR s.par.keys).length cK)) from rfl)) ?_
  refine DE.q rfl rfl rfl rfl (V.fa rfl fo109_1) ?_
  refine DE.q rfl rfl rfl rfl (V.ldS (i := 4) 1 rfl rfl sc3 rfl rfl rfl) ?_
  refine DE.q rfl rfl rfl rfl (V.fa rfl fo109_2) ?_
  refine DE.q rfl rfl rfl rfl (V.ldS (i := 5) 1 rfl rfl sc3 rfl (by kernel_rfl) rfl) ?_
  refine DE.q rfl rfl rfl rfl (V.fa rfl fo109_3) ?_
  refine DE.q rfl rfl rfl rfl (V.ldS (i := 6) 1 rfl rfl sc3 rfl (by kernel_rfl) rfl) ?_
  refine DE.q rfl rfl rfl rfl (V.fa rfl fo109_4) ?_
  refine DE.q rfl rfl rfl rfl (V.ldS (i := 7) 1 rfl rfl sc3 rfl (by kernel_rfl) rfl) ?_
  refine DE.q rfl rfl rfl rfl (V.fa rfl fo109_5) ?_
  refine DE.q rfl rfl rfl rfl (V.ldS (i := 8) 1 rfl rfl sc3 rfl (by kernel_rfl) rfl) ?_
  refine DE.q rfl rfl rfl rfl (V.fa rfl fo109_6) ?_
  refine DE.q rfl rfl rfl rfl (V.ldS (i := 9) 1 rfl rfl sc4 rfl (by kernel_rfl) rfl) ?_
  refine DE.q rfl rfl rfl rfl (V.fa rfl fo109_7) ?_
  refine DE.q rfl rfl rfl rfl (V.ldS (i := 10) 1 rfl rfl sc3 rfl (by kernel_rfl) rfl) ?_
  refine DE.q rfl rfl rfl rfl (V.fa rfl fo109_8) ?_
  refine DE.q rfl rfl rfl rfl (V.ldA (i := 11) 1 rfl rfl ag29 rfl (by kernel_rfl)) ?_
  refine DE.q rfl rfl rfl rfl (V.fa rfl fo109_9) ?_
  refine DE.q rfl rfl rfl rfl (V.ldS (i := 12) 1 rfl rfl sc4 rfl (by kernel_rfl) rfl) ?_
  refine DE.q rfl rfl rfl rfl (V.fa rfl fo109_10) ?_
  refine DE.q rfl rfl rfl rfl (V.to (V.ldP (i := 13) (k := 7) 1 rfl rfl ag43 rfl (by kernel_rfl) (by kernel_rfl)) (show _ = ag (s.cert.lv (.slice aO (rws OutD.lv s.cert.outs).length cO) (.slice aS (rws SignedD.lv s.cert.sigs).length cS)) from rfl)) ?_
  refine DE.q rfl rfl rfl rfl (V.fa rfl fo109_11) ?_
  refine DE.q rfl rfl rfl rfl (V.ldS (i := 20) 1 rfl rfl sc66 rfl (by kernel_rfl) rfl) ?_
  refine DE.nil ?_
  refine DT.o (by kernel_rfl) (MSub.pull rfl <| MSub.nil) rfl rfl fun Kc hKc => ?_
  refine JO.appRS (l := 114) rfl rfl rfl el66 rfl (by assumption) (by have := hm.u; rw [intR_length]; simp; omega) (by have := hm.u; rw [intR_length]; simp [maxLen]; omega) fun a27 c27 => (hKc _ _ _ (Hp.le_refl _) ?_)
  clear hKc Kc
  refine DT.o (by kernel_rfl) (MSub.pull rfl <| MSub.nil) rfl rfl fun Kc hKc => ?_
  refine JO.q rfl rfl (V.to (V.bldF rfl zr68 pl68 (Full.ags rfl rfl <| Full.one rfl <| Full.one rfl <| Full.one rfl <| Full.one rfl <| Full.one rfl <| Full.one rfl <| Full.one rfl <| Full.one rfl <| Full.one rfl <| Full.ags rfl (by kernel_rfl) <| Full.one rfl <| Full.nil) (by kernel_rfl) Wc.wl.flat_length) (show _ = ag (s.lv (.slice aK (hkR s.par.keys).length cK) (.slice aO (rws OutD.lv s.cert.outs).length cO) (.slice aS (rws SignedD.lv s.cert.sigs).length cS) (.slice a27 (intR s.used).length c27)) by kernel_rfl)) (hKc _ _ _ (Hp.le_refl _) ?_)
  clear hKc Kc
  refine DT.o' (by kernel_rfl) (by kernel_rfl) rfl rfl fun Kc hKc => ?_
  refine JO.stS (l := 2) rfl rfl rfl sz68 (by kernel_rfl) (by kernel_rfl) (hKc _ _ _ (Hp.le_refl _) ?_)
  clear hKc Kc
  refine DT.nil' (by kernel_rfl) ?_
  refine Po.then ?_
  refine C.freezeG (l := 114) rfl (fun _ _ hA hr => hA.rs hr) fun ro hl hu1 => ?_
  replace hS := hS.mono hl
  replace hle := Hp.le_trans hle hl
  refine C.ret ?_
  exact Po.end1 rfl rfl (RV.cS (l := 2) rfl rfl ag68 (by kernel_rfl)) fun W hI => ⟨_, _, _, rfl, hle, ⟨a27, c27, rfl, hu1, rfl⟩, (hI.sub (MSub.drop <| MSub.drop <| MSub.refl))⟩

theorem lFill_fg (vm : Value) (money : List Int) (w0 : World) (ro : Hp) (M : Res) (hM : RS ro vm 1 (intR money)) : Fg Tryz.prog 29 #[vm] w0 ro M (fun u ro1 M1 => ∃ b l b2 l2, u = .tuple #[.pointer (some ⟨b, 0, none⟩), .pointer (some ⟨b2, 0, none⟩)] ∧ l.map (·.s) = fillS money ∧ l2.map (·.s) = fillS money ∧ RegI ro1 l ∧ RegI ro1 l2 ∧ M1 = (110, Rg 139 68 b l) :: (130, Rg 108 109 b2 l2) :: M) := by
  obtain ⟨aM, cM, rfl, _⟩ := hM.shape
  refine Fg.enter Tryz.func29 rfl rfl ?_
  have hle : Hp.le ro ro := Hp.le_refl _
  refine C.seq ?_
  refine C.reg ?_
  refine J.q rfl rfl rfl (V.as rfl) ?_
  refine J.q rfl rfl rfl (V.as rfl) ?_
  refine J.nil ?_
  refine Po.then ?_
  refine C.seq ?_
  refine C.reg ?_
  refine J.call rfl tx62 rfl (regNew_fn _ _ _) ?_ 
  rintro _ _ ⟨b8, rfl, rfl⟩
  refine J.q rfl rfl rfl (V.bld rfl zr108 pl108 (Put.nil)) ?_
  refine J.one rfl (JO.boxS (l := 10) rfl rfl fun b10 => ?_)
  refine J.q rfl rfl rfl (V.as rfl) ?_
  refine J.q rfl rfl rfl (V.as rfl) ?_
  refine J.nil ?_
  refine Po.then ?_
  refine C.seq ?_
  refine C.seq ?_
  refine C.nilO 102 109 42 ?_
  refine C.reg ?_
  refine J.q rfl rfl rfl (V.as rfl) ?_
  refine J.nil ?_
  refine Po.then ?_
  refine C.block ?_
  refine C.loopG (fun (ro : Hp) (x : Nat × List RecV × List RecV) => x.1 ≤ min money.length 8 ∧ x.2.1.map (·.s) = fillTo money x.1 ∧ x.2.2.map (·.s) = fillTo money x.1 ∧ RegI ro x.2.1 ∧ RegI ro x.2.2) (fun (x : Nat × List RecV × List RecV) => [(6, .int .i64 (x.1 : Int)), (0, .slice aM (intR money).length cM), (4, .pointer (some ⟨b8, 0, none⟩)), (5, .pointer (some ⟨b10, 0, none⟩))]) (fun (x : Nat × List RecV × List RecV) => (110, Rg 139 68 b8 x.2.1) :: (130, Rg 108 109 b10 x.2.2) :: M) (fun (x : Nat × List RecV × List RecV) => 8 - x.1) (0, [], []) ⟨by omega, rfl, rfl, RegI.nil, RegI.nil⟩ (Sub.cons rfl <| Sub.cons rfl <| Sub.cons rfl <| Sub.cons rfl <| Sub.nil) (MSub.pull rfl <| MSub.fold Rg.mk <| MSub.pullL (l := 10) rfl <| MSub.pull rfl <| MSub.refl) fun ro x hl hok => ?_
  replace hM := hM.mono hl
  replace hle := Hp.le_trans hle hl
  have hlr3 : Hp.le ro ro := Hp.le_refl _
  obtain ⟨k, l, l2⟩ := x
  obtain ⟨hk, hls, hls2, hG, hH⟩ := hok
  dsimp only at hk hls hls2 hG hH ⊢
  have hln := congrArg List.length hls
  have hln2 := congrArg List.length hls2
  have hlt := fillTo_length money k
  rw [List.length_map] at hln hln2
  refine C.seq ?_
  refine C.seq ?_
  refine C.reg ?_
  refine J.q rfl rfl rfl (V.mv rfl) ?_
  refine J.q rfl rfl rfl (V.mv rfl) ?_
  refine J.q rfl rfl rfl (V.to (V.lenR rfl hM Tryz.underlying66) (by rw [intR_length])) ?_
  refine J.q rfl rfl rfl (V.lss rfl rfl) ?_
  refine J.mvB rfl rfl fun gb15 hgb15 => ?_
  refine J.gv rfl rfl rfl rfl rfl rfl (fun hg => by subst hg; exact V.mv rfl) ?_
  refine J.gv rfl rfl rfl rfl rfl rfl (fun hg => by subst hg; exact V.lss rfl rfl) ?_
  refine J.q rfl rfl rfl (V.and rfl rfl rfl) ?_
  refine J.mvB rfl rfl fun gb19 hgb19 => ?_
  refine J.gv rfl rfl rfl rfl rfl rfl (fun hg => by subst hg; exact V.mv rfl) ?_
  refine J.gv rfl rfl rfl rfl rfl rfl (fun hg => by subst hg; exact V.ptrNe rfl Tryz.underlying50) ?_
  refine J.q rfl rfl rfl (V.and rfl rfl rfl) ?_
  refine J.nil ?_
  refine Po.then ?_
  refine C.ite rfl (fun h22 => ?_) (fun h22 => ?_)
  · subst hgb15 hgb19
    try simp only [Bool.and_eq_true, Bool.or_eq_true, Bool.and_eq_false_iff, Bool.or_eq_false_iff, Bool.not_eq_true', Bool.not_eq_false', decide_eq_true_eq, decide_eq_false_iff_not] at h22
    have hk8 : k < money.length ∧ k < 8 := by simp [intR_length] at h22; omega
    obtain ⟨m, hm⟩ : ∃ m, money[k]? = some m := ⟨_, List.getElem?_eq_getElem hk8.1⟩
    have hmd : money.getD k 0 = m := by rw [List.getD_eq_getElem?_getD, hm]; rfl
    refine C.skip ?_
    refine Po.then ?_
    refine C.seq ?_
    refine C.block ?_
    refine C.seq ?_
    refine C.reg ?_
    refine J.q rfl rfl rfl (V.mv rfl) ?_
    refine J.callG rfl tx64 rfl (Made_fg _ _ (by decide) _ _ _) ?_ 
    rintro _ ro _ hl ⟨a26, c26, rfl, hk26, rfl⟩
    replace hM := hM.mono hl
    replace hG := hG.mono hl
    replace hH := hH.mono hl
    replace hle := Hp.le_trans hle hl
    replace hlr3 := Hp.le_trans hlr3 hl
    refine J.callG rfl tx63 rfl (Fg.at (l := 110) rfl (Create_fg _ _ (madeP 3 2) _ _ _ _ _ hk26 (by decide) hG)) ?_ 
    rintro _ ro _ hl ⟨l27, rfl, hl27, hG, rfl⟩
    replace hM := hM.mono hl
    replace hH := hH.mono hl
    replace hk26 := hk26.mono hl
    replace hle := Hp.le_trans hle hl
    replace hlr3 := Hp.le_trans hlr3 hl
    rw [hls] at hl27
    refine J.nil ?_
    refine Po.then ?_
    refine C.seq ?_
    refine C.reg ?_
    refine J.q rfl rfl rfl (V.mv rfl) ?_
    refine J.callG rfl tx64 rfl (Made_fg _ _ (by decide) _ _ _) ?_ 
    rintro _ ro _ hl ⟨a29, c29, rfl, hk29, rfl⟩
    replace hM := hM.mono hl
    replace hG := hG.mono hl
    replace hH := hH.mono hl
    replace hk26 := hk26.mono hl
    replace hle := Hp.le_trans hle hl
    replace hlr3 := Hp.le_trans hlr3 hl
    refine J.callG rfl tx65 rfl (Fg.at (l := 130) rfl (rCreate_fg _ _ (madeP 3 2) _ _ _ _ _ hk29 (by decide) hH)) ?_ 
    rintro _ ro _ hl ⟨l30, rfl, hl30, hH, rfl⟩
    replace hM := hM.mono hl
    replace hG := hG.mono hl
    replace hk26 := hk26.mono hl
    replace hk29 := hk29.mono hl
    replace hle := Hp.le_trans hle hl
    replace hlr3 := Hp.le_trans hlr3 hl
    rw [hls2] at hl30
    refine J.nil ?_
    refine Po.then ?_
    refine C.seq ?_
    refine C.reg ?_
    refine J.q rfl rfl rfl (V.mv rfl) ?_
    refine J.q rfl rfl rfl (V.bldA (cs := flat [(8, hv h0)]) (cs' := hc oneH) ar29 rfl zr29 rfl one_parts one_fill) ?_
    refine J.q rfl rfl rfl (V.mv rfl) ?_
    refine J.q rfl rfl rfl (V.mv rfl) ?_
    refine J.q rfl rfl rfl (V.iaR rfl hM rfl sl66 (by rw [intR_length]; omega)) ?_
    refine J.q rfl rfl rfl (V.to (V.ldRs rfl hM (intR_get hm) sc3) (congrArg iv hmd.symm)) ?_
    refine J.q rfl rfl rfl (V.to (V.bldF rfl zr150 pl150 (Full.one rfl <| Full.one rfl <| Full.one rfl <| Full.one rfl <| Full.nil) (by kernel_rfl) Wc.wl.flat_length) (show _ = ag (fillF money k).lv by kernel_rfl)) ?_
    refine J.one rfl (JO.alloc (l := 7) rfl zr150 fun b7 => ?_)
    refine J.one rfl (JO.stS (l := 7) rfl rfl rfl sz150 rfl rfl ?_)
    refine J.nil ?_
    refine Po.then ?_
    refine C.seq ?_
    refine C.reg ?_
    refine J.q rfl rfl rfl (V.mv rfl) ?_
    refine J.q rfl rfl rfl (V.ldW 7 rfl rfl ag150 rfl) ?_
    refine J.call rfl tx66 rfl (Fn.at (l := 110) rfl (Forward_fn _ _ (fillF money k) _ _ _ hG)) ?_ 
    rintro _ _ ⟨l40, rfl, hl40, hG, rfl⟩
    refine J.nil ?_
    refine Po.then ?_
    refine C.reg ?_
    refine J.q rfl rfl rfl (V.mv rfl) ?_
    refine J.q rfl rfl rfl (V.ldW 7 rfl rfl ag150 rfl) ?_
    refine J.call rfl tx67 rfl (Fn.at (l := 130) rfl (rForward_fn _ _ (fillF money k) _ _ _ hH (by have h1 := congrArg List.length hl30; rw [List.length_map] at h1; have h2 := crS_length (fillTo money k) (madeP 3 2) 3; omega))) ?_ 
    rintro _ _ ⟨l43, rfl, hl43, hH, rfl⟩
    refine J.nil ?_
    refine Po.blkN ?_
    refine Po.then ?_
    refine C.reg ?_
    refine J.q rfl rfl rfl (V.mv rfl) ?_
    refine J.q rfl rfl rfl (V.add rfl rfl (by omega)) ?_
    refine J.q rfl rfl rfl (V.as rfl) ?_
    refine J.nil ?_
    exact Po.roundG hlr3 (k + 1, l40, l43) ⟨by omega, by rw [fillTo, ← hl27]; exact hl40, by rw [fillTo, ← hl30]; exact hl43, hG, hH⟩ (Sub.cons rfl <| Sub.cons rfl <| Sub.cons rfl <| Sub.cons rfl <| Sub.nil) (MSub.pull rfl <| MSub.pull rfl <| MSub.drop <| MSub.refl) (by first | omega | (dsimp only; omega))
  · subst hgb15 hgb19
    try simp only [Bool.and_eq_true, Bool.or_eq_true, Bool.and_eq_false_iff, Bool.or_eq_false_iff, Bool.not_eq_true', Bool.not_eq_false', decide_eq_true_eq, decide_eq_false_iff_not] at h22
    obtain rfl : k = min money.length 8 := by simp [intR_length] at h22; omega
    refine C.exit ?_
    refine Po.thenX ?_
    refine Po.thenX ?_
    refine Po.blkX ?_
    refine Po.then ?_
    refine C.seq ?_
    refine C.reg ?_
    refine J.q rfl rfl rfl (V.mv rfl) ?_
    refine J.q rfl rfl rfl (V.mv rfl) ?_
    refine J.q rfl rfl rfl (V.as rfl) ?_
    refine J.q rfl rfl rfl (V.as rfl) ?_
    refine J.nil ?_
    refine Po.then ?_
    refine C.ret ?_
    exact Po.end2 rfl rfl rfl rfl fun W hI => ⟨_, _, _, rfl, hle, ⟨_, _, _, _, rfl, hls, hls2, hG, hH, rfl⟩, (hI.sub (MSub.pull rfl <| MSub.pull rfl <| MSub.refl))⟩
end Go.Proofs
namespace Go.Proofs
open Go Go.Sx Go.Db
set_option maxRecDepth 100000
theorem zrow8 : ((Tryz.prog.info? 5).bind (·.zero)).map (·.cells.toList) = some [.int .u8 0] := by kernel_rfl
theorem fo258_1 : Fo Tryz.prog 258 1 1 := ⟨_, _, 0, Tryz.underlying258, rfl, rfl, by kernel_rfl⟩
theorem sc56 : Sc Tryz.prog 56 := ⟨⟨_, Tryz.underlying56, rfl⟩, by kernel_rfl⟩
theorem fo258_0 : Fo Tryz.prog 258 0 0 := ⟨_, _, 0, Tryz.underlying258, rfl, rfl, by kernel_rfl⟩
theorem sz73 : (Tryz.prog.info? 73).map (·.size) = some 1 := by kernel_rfl
theorem tx212 : Tx Tryz.prog 212 := ⟨Tryz.f212, Tryz.func212, rfl, by kernel_rfl⟩
theorem tx211 : Tx Tryz.prog 211 := ⟨Tryz.f211, Tryz.func211, rfl, by kernel_rfl⟩
theorem fo260_0 : Fo Tryz.prog 260 0 0 := ⟨_, _, 1, Tryz.underlying260, rfl, rfl, by kernel_rfl⟩
theorem tx213 : Tx Tryz.prog 213 := ⟨Tryz.f213, Tryz.func213, rfl, by kernel_rfl⟩
theorem fo190_0 : Fo Tryz.prog 190 0 0 := ⟨_, _, 0, Tryz.underlying190, rfl, rfl, by kernel_rfl⟩
theorem tx183 : Tx Tryz.prog 183 := ⟨Tryz.f183, Tryz.func183, rfl, by kernel_rfl⟩
theorem fo190_1 : Fo Tryz.prog 190 1 1 := ⟨_, _, 127, Tryz.underlying190, rfl, rfl, by kernel_rfl⟩
theorem tx215 : Tx Tryz.prog 215 := ⟨Tryz.f215, Tryz.func215, rfl, by kernel_rfl⟩
theorem fo190_2 : Fo Tryz.prog 190 2 129 := ⟨_, _, 127, Tryz.underlying190, rfl, rfl, by kernel_rfl⟩
theorem fo190_3 : Fo Tryz.prog 190 3 257 := ⟨_, _, 23, Tryz.underlying190, rfl, rfl, by kernel_rfl⟩
theorem ar188 : Ar Tryz.prog 188 3 29 8 := ⟨Tryz.underlying188, by kernel_rfl⟩
theorem sl36 : Sl Tryz.prog 36 59 9 := ⟨Tryz.underlying36, by kernel_rfl⟩
theorem ag59 : Ag Tryz.prog 59 9 := ⟨⟨_, Tryz.underlying59, rfl⟩, by kernel_rfl⟩
theorem zr59 : Zr Tryz.prog 59 [(8, hv h0), (1, .int .i64 0)] := by unfold Zr; kernel_rfl
theorem sz59 : (Tryz.prog.info? 59).map (·.size) = some 9 := by kernel_rfl
theorem fo59_0 : Fo Tryz.prog 59 0 0 := ⟨_, _, 7, Tryz.underlying59, rfl, rfl, by kernel_rfl⟩
theorem fo59_1 : Fo Tryz.prog 59 1 8 := ⟨_, _, 0, Tryz.underlying59, rfl, rfl, by kernel_rfl⟩
theorem sl35 : Sl Tryz.prog 35 223 298 := ⟨Tryz.underlying35, by kernel_rfl⟩
theorem ag223 : Ag Tryz.prog 223 298 := ⟨⟨_, Tryz.underlying223, rfl⟩, by kernel_rfl⟩
theorem zr223 : Zr Tryz.prog 223 [(8, hv h0), (1, .int .i64 0), (8, hv h0), (1, .int .i64 0), (128, hvs z16), (128, hvs z16), (24, hvs z3)] := by unfold Zr; kernel_rfl
theorem sz223 : (Tryz.prog.info? 223).map (·.size) = some 298 := by kernel_rfl
theorem fo223_0 : Fo Tryz.prog 223 0 0 := ⟨_, _, 8, Tryz.underlying223, rfl, rfl, by kernel_rfl⟩
theorem fo65_0 : Fo Tryz.prog 65 0 0 := ⟨_, _, 7, Tryz.underlying65, rfl, rfl, by kernel_rfl⟩
theorem fo65_1 : Fo Tryz.prog 65 1 8 := ⟨_, _, 0, Tryz.underlying65, rfl, rfl, by kernel_rfl⟩
theorem fo223_1 : Fo Tryz.prog 223 1 9 := ⟨_, _, 7, Tryz.underlying223, rfl, rfl, by kernel_rfl⟩
theorem fo223_2 : Fo Tryz.prog 223 2 17 := ⟨_, _, 280, Tryz.underlying223, rfl, rfl, by kernel_rfl⟩
theorem ag190 : Ag Tryz.prog 190 281 := ⟨⟨_, Tryz.underlying190, rfl⟩, by kernel_rfl⟩
theorem tx214 : Tx Tryz.prog 214 := ⟨Tryz.f214, Tryz.func214, rfl, by kernel_rfl⟩
theorem sl37 : Sl Tryz.prog 37 150 11 := ⟨Tryz.underlying37, by kernel_rfl⟩
theorem fo150_1 : Fo Tryz.prog 150 1 1 := ⟨_, _, 0, Tryz.underlying150, rfl, rfl, by kernel_rfl⟩
theorem fo150_2 : Fo Tryz.prog 150 2 2 := ⟨_, _, 7, Tryz.underlying150, rfl, rfl, by kernel_rfl⟩
theorem fo46_0 : Fo Tryz.prog 46 0 0 := ⟨_, _, 0, Tryz.underlying46, rfl, rfl, by kernel_rfl⟩
theorem fo46_1 : Fo Tryz.prog 46 1 1 := ⟨_, _, 0, Tryz.underlying46, rfl, rfl, by kernel_rfl⟩
theorem fo46_2 : Fo Tryz.prog 46 2 2 := ⟨_, _, 9, Tryz.underlying46, rfl, rfl, by kernel_rfl⟩
theorem fo46_3 : Fo Tryz.prog 46 3 12 := ⟨_, _, 127, Tryz.underlying46, rfl, rfl, by kernel_rfl⟩
theorem sl41 : Sl Tryz.prog 41 192 282 := ⟨Tryz.underlying41, by kernel_rfl⟩
theorem ag192 : Ag Tryz.prog 192 282 := ⟨⟨_, Tryz.underlying192, rfl⟩, by kernel_rfl⟩
theorem fo43_0 : Fo Tryz.prog 43 0 0 := ⟨_, _, 0, Tryz.underlying43, rfl, rfl, by kernel_rfl⟩
theorem fo43_1 : Fo Tryz.prog 43 1 1 := ⟨_, _, 0, Tryz.underlying43, rfl, rfl, by kernel_rfl⟩
theorem fo43_2 : Fo Tryz.prog 43 2 2 := ⟨_, _, 0, Tryz.underlying43, rfl, rfl, by kernel_rfl⟩
theorem fo43_3 : Fo Tryz.prog 43 3 3 := ⟨_, _, 7, Tryz.underlying43, rfl, rfl, by kernel_rfl⟩
theorem fo43_4 : Fo Tryz.prog 43 4 11 := ⟨_, _, 7, Tryz.underlying43, rfl, rfl, by kernel_rfl⟩
theorem tx184 : Tx Tryz.prog 184 := ⟨Tryz.f184, Tryz.func184, rfl, by kernel_rfl⟩
theorem zr192 : Zr Tryz.prog 192 [(1, .int .i64 0), (1, .int .i64 0), (128, hvs z16), (128, hvs z16), (24, hvs z3)] := by unfold Zr; kernel_rfl
theorem sz192 : (Tryz.prog.info? 192).map (·.size) = some 282 := by kernel_rfl
theorem fo192_0 : Fo Tryz.prog 192 0 0 := ⟨_, _, 0, Tryz.underlying192, rfl, rfl, by kernel_rfl⟩
theorem fo192_1 : Fo Tryz.prog 192 1 1 := ⟨_, _, 280, Tryz.underlying192, rfl, rfl, by kernel_rfl⟩

theorem digits_fn (x : Int) (m : Nat) (hm : m ≤ 7) (w0 : World) (ro : Hp) (M : Res) : Sx.Fn Tryz.prog 212 #[iv x, .int .i64 (m : Int)] w0 ro M (fun u M1 => ∃ a c, u = .slice a (bys (numB x m)).length c ∧ M1 = (118, Ow (.slice a (bys (numB x m)).length c) 5 1 (bys (numB x m))) :: M) := by
  refine Sx.Fn.enter Tryz.func212 rfl rfl ?_
  refine C.seq ?_
  refine C.reg ?_
  refine J.q rfl rfl rfl (V.as rfl) ?_
  refine J.nil ?_
  refine Po.then ?_
  refine C.seq ?_
  refine C.reg ?_
  refine J.q rfl rfl rfl (V.mv rfl) ?_
  refine J.one rfl (JO.mkS (l := 118) rfl rfl rfl el73 zrow8 (by intro v hv; simp at hv; subst hv; rfl) (by omega) (by simp [maxLen]; omega) fun a8 c8 => ?_)
  refine J.q rfl rfl rfl (V.as rfl) ?_
  refine J.nil ?_
  refine Po.then ?_
  refine C.seq ?_
  refine C.seq ?_
  skip
  refine C.reg ?_
  refine J.q rfl rfl rfl (V.mv rfl) ?_
  refine J.q rfl rfl rfl (V.to (V.lenO (l := 118) rfl rfl Tryz.underlying73) (by rw [List.length_replicate])) ?_
  refine J.q rfl rfl rfl (V.mv rfl) ?_
  refine J.nil ?_
  refine Po.then ?_
  refine C.block ?_
  refine C.loopP (fun (k : Nat) => k ≤ m) (fun (k : Nat) => [(11, .int .i64 (k : Int)), (10, .int .i64 (m : Int)), (5, .slice a8 (List.replicate m [Value.int .u8 0]).length c8), (0, iv x)]) (fun (k : Nat) => (118, Ow (.slice a8 (List.replicate m [Value.int .u8 0]).length c8) 5 1 (bys (numB x k ++ List.replicate (m - k) 0))) :: M) (fun (k : Nat) => m - k) 0 (by first | omega | (dsimp only; omega)) (Sub.cons rfl <| Sub.cons rfl <| Sub.cons rfl <| Sub.cons rfl <| Sub.nil) (MSub.pullE rfl (by exact congrArg _ (dig0 x m)) <| MSub.refl) fun k hok => ?_
  refine C.seq ?_
  refine C.reg ?_
  refine J.q rfl rfl rfl (V.lss rfl rfl) ?_
  refine J.nil ?_
  refine Po.then ?_
  refine C.seq ?_
  refine C.ifd rfl (fun h12 => ?_) (fun h12 => ?_)
  · have hk : k < m := by simp at h12; omega
    refine C.skip ?_
    refine Po.then ?_
    refine C.seq ?_
    refine C.block ?_
    refine C.seq ?_
    refine C.reg ?_
    refine J.q rfl rfl rfl (V.mv rfl) ?_
    refine J.q rfl rfl rfl (V.as rfl) ?_
    refine J.nil ?_
    refine Po.then ?_
    refine C.reg ?_
    refine J.q rfl rfl rfl (V.mv rfl) ?_
    refine J.q rfl rfl rfl (V.mv rfl) ?_
    refine J.q rfl rfl rfl (V.mv rfl) ?_
    refine J.q rfl rfl rfl (V.mv rfl) ?_
    refine J.q rfl rfl rfl (V.mul rfl rfl (by omega)) ?_
    refine J.q rfl rfl rfl (V.shr rfl rfl (by simp [IntKind.bits]; omega)) ?_
    refine J.q rfl rfl rfl (V.to (V.cv rfl Tryz.underlying3 Tryz.underlying5) (num_byte x k)) ?_
    refine J.q rfl rfl rfl (V.ofO (l := 118) rfl fun _ hRS => V.iaR rfl hRS rfl sl73 (by rw [bys_length, List.length_append, numB_length, List.length_replicate]; omega)) ?_
    refine J.one rfl (JO.stO (l := 118) rfl rfl rfl sz5 (by rw [bys_length, List.length_append, numB_length, List.length_replicate]; omega) ?_)
    refine J.nil ?_
    refine Po.blkN ?_
    refine Po.then ?_
    refine C.reg ?_
    refine J.q rfl rfl rfl (V.add rfl rfl (by omega)) ?_
    refine J.q rfl rfl rfl (V.mv rfl) ?_
    refine J.nil ?_
    exact Po.roundP (k + 1) (by first | omega | (dsimp only; omega)) (Sub.cons rfl <| Sub.cons rfl <| Sub.cons rfl <| Sub.cons rfl <| Sub.nil) (MSub.pullE rfl (by exact congrArg _ (dig_set x hk)) <| MSub.refl) (by first | omega | (dsimp only; omega))
  · obtain rfl : k = m := by simp at h12; omega
    rw [show numB x k ++ List.replicate (k - k) 0 = numB x k by simp]
    refine C.exit ?_
    refine Po.thenX ?_
    refine Po.thenX ?_
    refine Po.blkX ?_
    refine Po.then ?_
    refine C.seq ?_
    refine C.reg ?_
    refine J.q rfl rfl rfl (V.mv rfl) ?_
    refine J.q rfl rfl rfl (V.as rfl) ?_
    refine J.nil ?_
    refine Po.then ?_
    refine C.ret ?_
    exact Po.end1 rfl rfl rfl fun W hI => ⟨_, _, rfl, ⟨a8, c8, by rw [bys_length, numB_length, List.length_replicate], rfl⟩, (hI.sub (MSub.pullE rfl (by rw [bys_length, numB_length, List.length_replicate]) <| MSub.refl))⟩

theorem put_fn (tw b : Nat) (bs xs : List UInt8) (v : Value) (w0 : World) (ro : Hp) (M : Res) (hx : RS ro v 1 (bys xs)) (hL : (bs ++ xs).length ≤ 131072) : Sx.Fn Tryz.prog 211 #[.pointer (some ⟨b, 0, none⟩), v] w0 ro ((160, Wr tw 5 b (bs)) :: M) (fun u M1 => u = .tuple #[] ∧ M1 = (160, Wr tw 5 b (bs ++ xs)) :: M) := by
  obtain ⟨aX, cX, rfl, _⟩ := hx.shape
  rw [List.length_append] at hL
  refine Sx.Fn.enter Tryz.func211 rfl rfl ?_
  refine C.block ?_
  refine C.seq ?_
  refine C.opnWr (l := 160) rfl fun aW cW => ?_
  refine C.reg ?_
  refine J.q rfl rfl rfl (V.mv rfl) ?_
  refine J.q rfl rfl rfl (V.ptrEq rfl Tryz.underlying286) ?_
  refine J.q rfl rfl rfl (V.to (V.mv rfl) (show _ = Value.bool false from rfl)) ?_
  refine J.dn rfl rfl rfl rfl rfl rfl (V.mv rfl) ?_
  refine J.dn rfl rfl rfl rfl rfl rfl (V.nc rfl) ?_
  refine J.dn rfl rfl rfl rfl rfl rfl (V.fa rfl fo258_1) ?_
  refine J.dn rfl rfl rfl rfl rfl rfl (V.ldS (i := 1) 106 rfl rfl sc56 rfl rfl rfl) ?_
  refine J.dn rfl rfl rfl rfl rfl rfl (V.neq rfl rfl) ?_
  refine J.q rfl rfl rfl (V.pk rfl rfl rfl) ?_
  refine J.q rfl rfl rfl (V.as rfl) ?_
  refine J.nil ?_
  refine Po.then ?_
  refine C.ite rfl (fun h13 => ?_) (fun h13 => ?_)
  · exfalso; simp at h13
  · refine C.seq ?_
    refine C.reg ?_
    refine J.q rfl rfl rfl (V.mv rfl) ?_
    refine J.q rfl rfl rfl (V.to (V.lenR rfl hx Tryz.underlying73) (by rw [bys_length])) ?_
    refine J.q rfl rfl rfl (V.mv rfl) ?_
    refine J.q rfl rfl rfl (V.nc rfl) ?_
    refine J.q rfl rfl rfl (V.fa rfl fo258_0) ?_
    refine J.q rfl rfl rfl (V.ldS (i := 0) 106 rfl rfl sc73 rfl rfl rfl) ?_
    refine J.q rfl rfl rfl (V.to (V.lenO (l := 107) rfl rfl Tryz.underlying73) (by rw [bys_length])) ?_
    refine J.q rfl rfl rfl (V.sub' rfl rfl (by omega)) ?_
    refine J.q rfl rfl rfl (V.gtr rfl rfl) ?_
    refine J.q rfl rfl rfl (V.as rfl) ?_
    refine J.nil ?_
    refine Po.then ?_
    refine C.ifd rfl (fun h23 => ?_) (fun h23 => ?_)
    · exfalso; omega
    · refine C.reg ?_
      refine J.q rfl rfl rfl (V.mv rfl) ?_
      refine J.q rfl rfl rfl (V.mv rfl) ?_
      refine J.q rfl rfl rfl (V.nc rfl) ?_
      refine J.q rfl rfl rfl (V.fa rfl fo258_0) ?_
      refine J.q rfl rfl rfl (V.ldS (i := 0) 106 rfl rfl sc73 rfl rfl rfl) ?_
      refine J.q rfl rfl rfl (V.mv rfl) ?_
      refine J.one rfl (JO.appRS (l := 107) rfl rfl rfl el73 rfl (by assumption) (by rw [bys_length, bys_length]; simp; omega) (by rw [bys_length, bys_length]; simp [maxLen]; omega) fun a10 c10 => ?_)
      refine J.q rfl rfl rfl (V.nc rfl) ?_
      refine J.q rfl rfl rfl (V.fa rfl fo258_0) ?_
      refine J.one rfl (JO.st (i := 0) (l := 106) rfl rfl rfl sz73 rfl rfl ?_)
      refine J.nil ?_
      refine Po.blkN ?_
      exact Po.end0 rfl rfl fun W hI => ⟨_, _, rfl, ⟨rfl, rfl⟩, (hI.sub (MSub.fold Wr.mk <| MSub.pull rfl <| MSub.pullE rfl (by rw [bys_append]) <| MSub.refl))⟩

theorem wNum_fn (tw b : Nat) (bs : List UInt8) (x : Int) (m : Nat) (h1 : 1 ≤ m) (h7 : m ≤ 7) (hf : fitN x m) (hL : (bs ++ numB x m).length ≤ 131072) (w0 : World) (ro : Hp) (M : Res) : Sx.Fn Tryz.prog 183 #[.pointer (some ⟨b, 0, none⟩), iv x, .int .i64 (m : Int)] w0 ro ((160, Wr tw 5 b (bs)) :: M) (fun u M1 => u = .tuple #[] ∧ M1 = (160, Wr tw 5 b (bs ++ numB x m)) :: M) := by
  refine Sx.Fn.enter Tryz.func183 rfl rfl ?_
  have hle : Hp.le ro ro := Hp.le_refl _
  refine C.block ?_
  refine C.seq ?_
  refine C.opnWr (l := 160) rfl fun aW cW => ?_
  refine C.reg ?_
  refine J.q rfl rfl rfl (V.mv rfl) ?_
  refine J.q rfl rfl rfl (V.ptrEq rfl Tryz.underlying286) ?_
  refine J.q rfl rfl rfl (V.to (V.mv rfl) (show _ = Value.bool false from rfl)) ?_
  refine J.dn rfl rfl rfl rfl rfl rfl (V.mv rfl) ?_
  refine J.dn rfl rfl rfl rfl rfl rfl (V.nc rfl) ?_
  refine J.dn rfl rfl rfl rfl rfl rfl (V.fa rfl fo258_1) ?_
  refine J.dn rfl rfl rfl rfl rfl rfl (V.ldS (i := 1) 106 rfl rfl sc56 rfl rfl rfl) ?_
  refine J.dn rfl rfl rfl rfl rfl rfl (V.neq rfl rfl) ?_
  refine J.q rfl rfl rfl (V.pk rfl rfl rfl) ?_
  refine J.q rfl rfl rfl (V.as rfl) ?_
  refine J.nil ?_
  refine Po.then ?_
  refine C.ite rfl (fun h11 => ?_) (fun h11 => ?_)
  · exfalso; simp at h11
  · refine C.seq ?_
    refine C.reg ?_
    refine J.q rfl rfl rfl (V.mv rfl) ?_
    refine J.q rfl rfl rfl (V.lss rfl rfl) ?_
    refine J.mvB rfl rfl fun gb24 hgb24 => ?_
    refine J.gv rfl rfl rfl rfl rfl rfl (fun hg => by subst hg; exact V.mv rfl) ?_
    refine J.gv rfl rfl rfl rfl rfl rfl (fun hg => by subst hg; exact V.gtr rfl rfl) ?_
    refine J.q rfl rfl rfl (V.or rfl rfl rfl) ?_
    refine J.mvB rfl rfl fun gb28 hgb28 => ?_
    refine J.gv rfl rfl rfl rfl rfl rfl (fun hg => by subst hg; exact V.mv rfl) ?_
    refine J.gv rfl rfl rfl rfl rfl rfl (fun hg => by subst hg; exact V.lss rfl rfl) ?_
    refine J.q rfl rfl rfl (V.or rfl rfl rfl) ?_
    refine J.mvB rfl rfl fun gb32 hgb32 => ?_
    refine J.gv rfl rfl rfl rfl rfl rfl (fun hg => by subst hg; exact V.mv rfl) ?_
    refine J.gv rfl rfl rfl rfl rfl rfl (fun hg => by subst hg; exact V.mv rfl) ?_
    refine J.gv rfl rfl rfl rfl rfl rfl (fun hg => by subst hg; exact V.mul rfl rfl (by omega)) ?_
    refine J.gv rfl rfl rfl rfl rfl rfl (fun hg => by subst hg; exact V.shr rfl rfl (by simp [IntKind.bits]; omega)) ?_
    refine J.gv rfl rfl rfl rfl rfl rfl (fun hg => by subst hg; exact V.neq rfl rfl) ?_
    refine J.q rfl rfl rfl (V.or rfl rfl rfl) ?_
    refine J.q rfl rfl rfl (V.as rfl) ?_
    refine J.nil ?_
    refine Po.then ?_
    refine C.ite rfl (fun h21 => ?_) (fun h21 => ?_)
    · subst hgb24 hgb28 hgb32
      try simp only [Bool.and_eq_true, Bool.or_eq_true, Bool.and_eq_false_iff, Bool.or_eq_false_iff, Bool.not_eq_true', Bool.not_eq_false', decide_eq_true_eq, decide_eq_false_iff_not] at h21
      exfalso; simp only [show (8 * (m : Int)).toNat = 8 * m by omega] at h21; simp at h21; obtain ⟨hf1, hf2⟩ := hf; have := Int.ediv_eq_zero_of_lt hf1 hf2; omega
    · subst hgb24 hgb28 hgb32
      try simp only [Bool.and_eq_true, Bool.or_eq_true, Bool.and_eq_false_iff, Bool.or_eq_false_iff, Bool.not_eq_true', Bool.not_eq_false', decide_eq_true_eq, decide_eq_false_iff_not] at h21
      refine C.reg ?_
      refine J.q rfl rfl rfl (V.mv rfl) ?_
      refine J.q rfl rfl rfl (V.mv rfl) ?_
      refine J.q rfl rfl rfl (V.mv rfl) ?_
      refine J.call rfl tx212 rfl (digits_fn _ _ (by omega) _ _ _) ?_ 
      rintro _ _ ⟨a9, c9, rfl, rfl⟩
      refine Kp.freezeG (l := 118) rfl (fun _ _ hA hr => hA.rs hr) fun ro hl hd9 => ?_
      replace hle := Hp.le_trans hle hl
      refine J.call rfl tx211 rfl ((put_fn _ _ _ _ _ _ _ _ hd9 hL).sub (MSub.fold Wr.mk (MSub.pull rfl (MSub.pull rfl MSub.refl)))) ?_ 
      rintro _ _ ⟨rfl, rfl⟩
      refine J.nil ?_
      refine Po.blkN ?_
      exact Po.end0 rfl rfl fun W hI => ⟨_, _, rfl, ⟨rfl, rfl⟩, (hI.sub (MSub.pull rfl <| MSub.refl)).up hle⟩

theorem wHash_fn (tw b : Nat) (bs : List UInt8) (h : Hash) (hL : (bs ++ h.toList).length ≤ 131072) (w0 : World) (ro : Hp) (M : Res) : Sx.Fn Tryz.prog 213 #[.pointer (some ⟨b, 0, none⟩), hv h] w0 ro ((160, Wr tw 5 b (bs)) :: M) (fun u M1 => u = .tuple #[] ∧ M1 = (160, Wr tw 5 b (bs ++ h.toList)) :: M) := by
  refine Sx.Fn.enter Tryz.func213 rfl rfl ?_
  have hle : Hp.le ro ro := Hp.le_refl _
  refine C.seq ?_
  refine C.reg ?_
  refine J.one rfl (JO.box1 (l := 3) rfl rfl fun b3 => ?_)
  refine J.nil ?_
  refine Po.then ?_
  refine C.freezeG (l := 3) rfl (fun _ _ hA hr => st_ro hA hr) fun ro hl hB3 => ?_
  replace hle := Hp.le_trans hle hl
  refine C.reg ?_
  refine J.q rfl rfl rfl (V.mv rfl) ?_
  refine J.q rfl rfl rfl (V.slA (lo := 0) (hi := 8) rfl ar29 rfl rfl (by decide) (by decide) (by decide)) ?_
  refine J.call rfl tx211 rfl (Fn.at (l := 160) rfl (put_fn _ _ _ h.toList _ _ _ _ (rs_hash hB3) hL)) ?_ 
  rintro _ _ ⟨rfl, rfl⟩
  refine J.nil ?_
  exact Po.end0 rfl rfl fun W hI => ⟨_, _, rfl, ⟨rfl, rfl⟩, (hI.sub (MSub.pull rfl <| MSub.refl)).up hle⟩

theorem row_fn (tw b : Nat) (bs : List UInt8) (l : List Hash) (v : Value) (w0 : World) (ro : Hp) (M : Res) (hR : RS ro v 8 (hkR l)) (hL : (bs ++ rowB l).length ≤ 131072) : Sx.Fn Tryz.prog 215 #[.pointer (some ⟨b, 0, none⟩), v] w0 ro ((160, Wr tw 5 b (bs)) :: M) (fun u M1 => u = .tuple #[] ∧ M1 = (160, Wr tw 5 b (bs ++ rowB l)) :: M) := by
  obtain ⟨aV, cV, rfl, _⟩ := hR.shape
  have hL1 : bs.length + 8 * l.length ≤ 131072 := by simpa [rowB_length] using hL
  refine Sx.Fn.enter Tryz.func215 rfl rfl ?_
  have hle : Hp.le ro ro := Hp.le_refl _
  refine C.seq ?_
  refine C.reg ?_
  refine J.q rfl rfl rfl (V.mv rfl) ?_
  refine J.q rfl rfl rfl (V.to (V.lenR rfl hR Tryz.underlying38) (by rw [hkR_length])) ?_
  refine J.q rfl rfl rfl (V.mv rfl) ?_
  refine J.nil ?_
  refine Po.then ?_
  refine C.block ?_
  refine C.loopP (fun (k : Nat) => k ≤ l.length) (fun (k : Nat) => [(8, .int .i64 (k : Int)), (7, .int .i64 (l.length : Int)), (6, .slice aV (hkR l).length cV), (0, .pointer (some ⟨b, 0, none⟩))]) (fun (k : Nat) => (160, Wr tw 5 b (bs ++ rowB (l.take k))) :: M) (fun (k : Nat) => l.length - k) 0 (by first | omega | (dsimp only; omega)) (Sub.cons rfl <| Sub.cons rfl <| Sub.cons rfl <| Sub.cons rfl <| Sub.nil) (MSub.pullE rfl (by simp [rowB]) <| MSub.refl) fun k hok => ?_
  refine C.seq ?_
  refine C.reg ?_
  refine J.q rfl rfl rfl (V.lss rfl rfl) ?_
  refine J.nil ?_
  refine Po.then ?_
  refine C.seq ?_
  refine C.ifd rfl (fun h9 => ?_) (fun h9 => ?_)
  · have hk : k < l.length := by simp at h9; omega
    obtain ⟨x, hx⟩ : ∃ x, l[k]? = some x := ⟨_, List.getElem?_eq_getElem hk⟩
    refine C.skip ?_
    refine Po.then ?_
    refine C.seq ?_
    refine C.block ?_
    refine C.seq ?_
    refine C.reg ?_
    refine J.q rfl rfl rfl (V.iaR rfl hR rfl sl38 (by rw [hkR_length]; omega)) ?_
    refine J.q rfl rfl rfl (V.ldR rfl hR (hkR_get hx) ag29) ?_
    refine J.one rfl (JO.alloc (l := 5) rfl zr29 fun b5 => ?_)
    refine J.one rfl (JO.st (i := 0) (l := 5) rfl rfl rfl sz29 rfl rfl ?_)
    refine J.nil ?_
    refine Po.then ?_
    refine C.drawM [4] [0, 1, 2, 3] mixed (by kernel_rfl) (by kernel_rfl) ?_
    refine DE.q rfl rfl rfl rfl (V.mv rfl) ?_
    refine DE.q rfl rfl rfl rfl (V.nc rfl) ?_
    refine DE.q rfl rfl rfl rfl (V.fa rfl fo260_0) ?_
    refine DE.q rfl rfl rfl rfl (V.ldA (i := 0) 5 rfl rfl ag29 rfl rfl) ?_
    refine DE.nil ?_
    refine DT.o (by kernel_rfl) (MSub.refl) rfl rfl fun Kc hKc => ?_
    refine JO.call rfl tx213 rfl (Fn.at (l := 160) rfl (wHash_fn _ _ _ x (by simp [rowB_length]; omega) _ _ _)) ?_
    rintro _ _ ⟨rfl, rfl⟩
    refine hKc _ _ _ (Hp.le_refl _) ?_
    clear hKc Kc
    refine DT.nil' (by kernel_rfl) ?_
    refine Po.blkN ?_
    refine Po.then ?_
    refine C.reg ?_
    refine J.q rfl rfl rfl (V.add rfl rfl (by omega)) ?_
    refine J.q rfl rfl rfl (V.mv rfl) ?_
    refine J.nil ?_
    exact Po.roundP (k + 1) (by first | omega | (dsimp only; omega)) (Sub.cons rfl <| Sub.cons rfl <| Sub.cons rfl <| Sub.cons rfl <| Sub.nil) (MSub.pullE rfl (by rw [rowB, rowB, fm_succ _ hx, ← List.append_assoc]) <| MSub.drop <| MSub.refl) (by first | omega | (dsimp only; omega))
  · obtain rfl : k = l.length := by simp at h9; omega
    rw [List.take_length]
    refine C.exit ?_
    refine Po.thenX ?_
    refine Po.thenX ?_
    refine Po.blkX ?_
    exact Po.end0 rfl rfl fun W hI => ⟨_, _, rfl, ⟨rfl, rfl⟩, (hI.sub (MSub.pull rfl <| MSub.refl)).up hle⟩

theorem sig_fn (tw b : Nat) (bs : List UInt8) (s : SigD) (w0 : World) (ro : Hp) (M : Res) (hf : fitN s.index 1) (hL : (bs ++ encSig s).length ≤ 131072) : Sx.Fn Tryz.prog 214 #[.pointer (some ⟨b, 0, none⟩), ag s.lv] w0 ro ((160, Wr tw 5 b (bs)) :: M) (fun u M1 => u = .tuple #[] ∧ M1 = (160, Wr tw 5 b (bs ++ encSig s)) :: M) := by
  refine Sx.Fn.enter Tryz.func214 rfl rfl ?_
  have hle : Hp.le ro ro := Hp.le_refl _
  refine C.seq ?_
  refine C.reg ?_
  refine J.one rfl (JO.boxS (l := 3) rfl rfl fun b3 => ?_)
  refine J.nil ?_
  refine Po.then ?_
  refine C.seq ?_
  refine C.freezeG (l := 3) rfl (fun _ _ hA hr => Bx.of hA hr) fun ro hl hB3 => ?_
  replace hle := Hp.le_trans hle hl
  refine C.drawM [5] [0, 1, 2, 3, 4] mixed (by kernel_rfl) (by kernel_rfl) ?_
  refine DE.q rfl rfl rfl rfl (V.mv rfl) ?_
  refine DE.q rfl rfl rfl rfl (V.nc rfl) ?_
  refine DE.q rfl rfl rfl rfl (V.fa rfl fo260_0) ?_
  refine DE.q rfl rfl rfl rfl (V.fa rfl fo190_0) ?_
  refine DE.q rfl rfl rfl rfl (V.rldS (i := 0) hB3 rfl sc3 rfl rfl rfl) ?_
  refine DE.nil ?_
  refine DT.o (by kernel_rfl) (MSub.refl) rfl rfl fun Kc hKc => ?_
  refine JO.call rfl tx183 rfl (Fn.at (l := 160) rfl (wNum_fn _ _ _ _ 1 (by decide) (by decide) (by assumption) (by simp only [List.length_append, numB_length, rowB_length, encSig_length, encOut_length, encIn_length, encFwd_length, encSigned_length, encOuts_length, encIns_length, encFwds_length, encPar_length, encCert_length, encClaim_length, Vector.length_toList, fm_const encOut_length, fm_const encIn_length, fm_const encFwd_length, fm_const encSigned_length, List.length_take] at hL ⊢; omega) _ _ _)) ?_
  rintro _ _ ⟨rfl, rfl⟩
  refine hKc _ _ _ (Hp.le_refl _) ?_
  clear hKc Kc
  refine DT.nil' (by kernel_rfl) ?_
  refine Po.then ?_
  refine C.seq ?_
  refine C.reg ?_
  refine J.q rfl rfl rfl (V.mv rfl) ?_
  refine J.q rfl rfl rfl (V.fa rfl fo190_1) ?_
  refine J.q rfl rfl rfl (V.slA (lo := 0) (hi := 16) rfl ar44 rfl rfl (by decide) (by decide) (by decide)) ?_
  refine J.call rfl tx215 rfl (Fn.at (l := 160) rfl (row_fn _ _ _ s.opn.toList _ _ _ _ (rs_arr (i := 1) (off := 0 + 1) hB3 rfl rfl) (by simp only [List.length_append, numB_length, rowB_length, encSig_length, encOut_length, encIn_length, encFwd_length, encSigned_length, encOuts_length, encIns_length, encFwds_length, encPar_length, encCert_length, encClaim_length, Vector.length_toList, fm_const encOut_length, fm_const encIn_length, fm_const encFwd_length, fm_const encSigned_length, List.length_take] at hL ⊢; omega))) ?_ 
  rintro _ _ ⟨rfl, rfl⟩
  refine J.nil ?_
  refine Po.then ?_
  refine C.seq ?_
  refine C.reg ?_
  refine J.q rfl rfl rfl (V.mv rfl) ?_
  refine J.q rfl rfl rfl (V.fa rfl fo190_2) ?_
  refine J.q rfl rfl rfl (V.slA (lo := 0) (hi := 16) rfl ar44 rfl rfl (by decide) (by decide) (by decide)) ?_
  refine J.call rfl tx215 rfl (Fn.at (l := 160) rfl (row_fn _ _ _ s.shut.toList _ _ _ _ (rs_arr (i := 2) (off := 0 + 129) hB3 rfl rfl) (by simp only [List.length_append, numB_length, rowB_length, encSig_length, encOut_length, encIn_length, encFwd_length, encSigned_length, encOuts_length, encIns_length, encFwds_length, encPar_length, encCert_length, encClaim_length, Vector.length_toList, fm_const encOut_length, fm_const encIn_length, fm_const encFwd_length, fm_const encSigned_length, List.length_take] at hL ⊢; omega))) ?_ 
  rintro _ _ ⟨rfl, rfl⟩
  refine J.nil ?_
  refine Po.then ?_
  refine C.reg ?_
  refine J.q rfl rfl rfl (V.mv rfl) ?_
  refine J.q rfl rfl rfl (V.fa rfl fo190_3) ?_
  refine J.q rfl rfl rfl (V.slA (lo := 0) (hi := 3) rfl ar188 rfl rfl (by decide) (by decide) (by decide)) ?_
  refine J.call rfl tx215 rfl (Fn.at (l := 160) rfl (row_fn _ _ _ s.path.toList _ _ _ _ (rs_arr (i := 3) (off := 0 + 257) hB3 rfl rfl) (by simp only [List.length_append, numB_length, rowB_length, encSig_length, encOut_length, encIn_length, encFwd_length, encSigned_length, encOuts_length, encIns_length, encFwds_length, encPar_length, encCert_length, encClaim_length, Vector.length_toList, fm_const encOut_length, fm_const encIn_length, fm_const encFwd_length, fm_const encSigned_length, List.length_take] at hL ⊢; omega))) ?_ 
  rintro _ _ ⟨rfl, rfl⟩
  refine J.nil ?_
  exact Po.end0 rfl rfl fun W hI => ⟨_, _, rfl, ⟨rfl, rfl⟩, (hI.sub (MSub.pullE rfl (by simp only [encSig, List.append_assoc]) <| MSub.refl)).up hle⟩

theorem outs_fn (tw b : Nat) (bs : List UInt8) (l : List OutD) (v : Value) (w0 : World) (ro : Hp) (M : Res) (hR : RS ro v 9 (rws OutD.lv l)) (hn : l.length ≤ 255) (hf : ∀ x ∈ l, fitN x.amount 7) (hL : (bs ++ encOuts l).length ≤ 131072) : Sx.Fn Tryz.prog 184 #[.pointer (some ⟨b, 0, none⟩), v] w0 ro ((160, Wr tw 5 b (bs)) :: M) (fun u M1 => u = .tuple #[] ∧ M1 = (160, Wr tw 5 b (bs ++ encOuts l)) :: M) := by
  obtain ⟨aV, cV, rfl, _⟩ := hR.shape
  have hL0 := hL
  refine Sx.Fn.enter Tryz.func184 rfl rfl ?_
  have hle : Hp.le ro ro := Hp.le_refl _
  refine C.seq ?_
  refine C.reg ?_
  refine J.q rfl rfl rfl (V.mv rfl) ?_
  refine J.q rfl rfl rfl (V.nc rfl) ?_
  refine J.q rfl rfl rfl (V.fa rfl fo260_0) ?_
  refine J.q rfl rfl rfl (V.mv rfl) ?_
  refine J.q rfl rfl rfl (V.to (V.lenR rfl hR Tryz.underlying36) (by rw [rws_length])) ?_
  refine J.call rfl tx183 rfl (Fn.at (l := 160) rfl (wNum_fn _ _ _ l.length 1 (by decide) (by decide) (fit_len hn) (by simp only [List.length_append, numB_length, rowB_length, encSig_length, encOut_length, encIn_length, encFwd_length, encSigned_length, encOuts_length, encIns_length, encFwds_length, encPar_length, encCert_length, encClaim_length, Vector.length_toList, fm_const encOut_length, fm_const encIn_length, fm_const encFwd_length, fm_const encSigned_length, List.length_take] at hL ⊢; omega) _ _ _)) ?_ 
  rintro _ _ ⟨rfl, rfl⟩
  refine J.nil ?_
  refine Po.then ?_
  refine C.seq ?_
  refine C.reg ?_
  refine J.q rfl rfl rfl (V.mv rfl) ?_
  refine J.q rfl rfl rfl (V.to (V.lenR rfl hR Tryz.underlying36) (by rw [rws_length])) ?_
  refine J.q rfl rfl rfl (V.mv rfl) ?_
  refine J.nil ?_
  refine Po.then ?_
  refine C.block ?_
  refine C.loopP (fun (k : Nat) => k ≤ l.length) (fun (k : Nat) => [(14, .int .i64 (k : Int)), (13, .int .i64 (l.length : Int)), (12, .slice aV (rws OutD.lv l).length cV), (0, .pointer (some ⟨b, 0, none⟩))]) (fun (k : Nat) => (160, Wr tw 5 b (bs ++ numB l.length 1 ++ (l.take k).flatMap encOut)) :: M) (fun (k : Nat) => l.length - k) 0 (by first | omega | (dsimp only; omega)) (Sub.cons rfl <| Sub.cons rfl <| Sub.cons rfl <| Sub.cons rfl <| Sub.nil) (MSub.pullE rfl (by simp) <| MSub.refl) fun k hok => ?_
  refine C.seq ?_
  refine C.reg ?_
  refine J.q rfl rfl rfl (V.lss rfl rfl) ?_
  refine J.nil ?_
  refine Po.then ?_
  refine C.seq ?_
  refine C.ifd rfl (fun h15 => ?_) (fun h15 => ?_)
  · have hk : k < l.length := by simp at h15; omega
    obtain ⟨x, hx⟩ : ∃ x, l[k]? = some x := ⟨_, List.getElem?_eq_getElem hk⟩
    have hfx := hf x (List.mem_of_getElem? hx)
    refine C.skip ?_
    refine Po.then ?_
    refine C.seq ?_
    refine C.block ?_
    refine C.seq ?_
    refine C.reg ?_
    refine J.q rfl rfl rfl (V.iaR rfl hR rfl sl36 (by rw [rws_length]; omega)) ?_
    refine J.q rfl rfl rfl (V.to (V.ldR rfl hR (rws_get hx) ag59) (show _ = ag x.lv from rfl)) ?_
    refine J.one rfl (JO.alloc (l := 5) rfl zr59 fun b5 => ?_)
    refine J.one rfl (JO.stS (l := 5) rfl rfl rfl sz59 rfl rfl ?_)
    refine J.nil ?_
    refine Po.then ?_
    refine C.seq ?_
    refine C.drawM [5] [0, 1, 2, 3, 4] mixed (by kernel_rfl) (by kernel_rfl) ?_
    refine DE.q rfl rfl rfl rfl (V.mv rfl) ?_
    refine DE.q rfl rfl rfl rfl (V.nc rfl) ?_
    refine DE.q rfl rfl rfl rfl (V.fa rfl fo260_0) ?_
    refine DE.q rfl rfl rfl rfl (V.fa rfl fo59_0) ?_
    refine DE.q rfl rfl rfl rfl (V.ldA (i := 0) 5 rfl rfl ag29 rfl rfl) ?_
    refine DE.nil ?_
    refine DT.o (by kernel_rfl) (MSub.refl) rfl rfl fun Kc hKc => ?_
    refine JO.call rfl tx213 rfl (Fn.at (l := 160) rfl (wHash_fn _ _ _ x.to_ (by simp only [List.length_append, numB_length, rowB_length, encSig_length, encOut_length, encIn_length, encFwd_length, encSigned_length, encOuts_length, encIns_length, encFwds_length, encPar_length, encCert_length, encClaim_length, Vector.length_toList, fm_const encOut_length, fm_const encIn_length, fm_const encFwd_length, fm_const encSigned_length, List.length_take] at hL ⊢; omega) _ _ _)) ?_
    rintro _ _ ⟨rfl, rfl⟩
    refine hKc _ _ _ (Hp.le_refl _) ?_
    clear hKc Kc
    refine DT.nil' (by kernel_rfl) ?_
    refine Po.then ?_
    refine C.drawM [5] [0, 1, 2, 3, 4] mixed (by kernel_rfl) (by kernel_rfl) ?_
    refine DE.q rfl rfl rfl rfl (V.mv rfl) ?_
    refine DE.q rfl rfl rfl rfl (V.nc rfl) ?_
    refine DE.q rfl rfl rfl rfl (V.fa rfl fo260_0) ?_
    refine DE.q rfl rfl rfl rfl (V.fa rfl fo59_1) ?_
    refine DE.q rfl rfl rfl rfl (V.ldS (i := 1) 5 rfl rfl sc3 rfl rfl rfl) ?_
    refine DE.nil ?_
    refine DT.o (by kernel_rfl) (MSub.refl) rfl rfl fun Kc hKc => ?_
    refine JO.call rfl tx183 rfl (Fn.at (l := 160) rfl (wNum_fn _ _ _ x.amount 7 (by decide) (by decide) hfx (by simp only [List.length_append, numB_length, rowB_length, encSig_length, encOut_length, encIn_length, encFwd_length, encSigned_length, encOuts_length, encIns_length, encFwds_length, encPar_length, encCert_length, encClaim_length, Vector.length_toList, fm_const encOut_length, fm_const encIn_length, fm_const encFwd_length, fm_const encSigned_length, List.length_take] at hL ⊢; omega) _ _ _)) ?_
    rintro _ _ ⟨rfl, rfl⟩
    refine hKc _ _ _ (Hp.le_refl _) ?_
    clear hKc Kc
    refine DT.nil' (by kernel_rfl) ?_
    refine Po.blkN ?_
    refine Po.then ?_
    refine C.reg ?_
    refine J.q rfl rfl rfl (V.add rfl rfl (by omega)) ?_
    refine J.q rfl rfl rfl (V.mv rfl) ?_
    refine J.nil ?_
    exact Po.roundP (k + 1) (by first | omega | (dsimp only; omega)) (Sub.cons rfl <| Sub.cons rfl <| Sub.cons rfl <| Sub.cons rfl <| Sub.nil) (MSub.pullE rfl (by rw [fm_succ _ hx]; simp only [encOut, List.append_assoc]) <| MSub.drop <| MSub.refl) (by first | omega | (dsimp only; omega))
  · obtain rfl : k = l.length := by simp at h15; omega
    rw [List.take_length]
    refine C.exit ?_
    refine Po.thenX ?_
    refine Po.thenX ?_
    refine Po.blkX ?_
    exact Po.end0 rfl rfl fun W hI => ⟨_, _, rfl, ⟨rfl, rfl⟩, (hI.sub (MSub.pullE rfl (by simp only [encOuts, List.append_assoc]) <| MSub.refl)).up hle⟩

theorem ins_fn (tw b : Nat) (bs : List UInt8) (l : List InD) (v : Value) (w0 : World) (ro : Hp) (M : Res) (hR : RS ro v 298 (rws InD.lv l)) (hn : l.length ≤ 255) (hf : ∀ x ∈ l, fitN x.frm.at_ 1 ∧ fitN x.sig.index 1) (hL : (bs ++ encIns l).length ≤ 131072) : Sx.Fn Tryz.prog 185 #[.pointer (some ⟨b, 0, none⟩), v] w0 ro ((160, Wr tw 5 b (bs)) :: M) (fun u M1 => u = .tuple #[] ∧ M1 = (160, Wr tw 5 b (bs ++ encIns l)) :: M) := by
  obtain ⟨aV, cV, rfl, _⟩ := hR.shape
  have hL0 := hL
  refine Sx.Fn.enter Tryz.func185 rfl rfl ?_
  have hle : Hp.le ro ro := Hp.le_refl _
  refine C.seq ?_
  refine C.reg ?_
  refine J.q rfl rfl rfl (V.mv rfl) ?_
  refine J.q rfl rfl rfl (V.nc rfl) ?_
  refine J.q rfl rfl rfl (V.fa rfl fo260_0) ?_
  refine J.q rfl rfl rfl (V.mv rfl) ?_
  refine J.q rfl rfl rfl (V.to (V.lenR rfl hR Tryz.underlying35) (by rw [rws_length])) ?_
  refine J.call rfl tx183 rfl (Fn.at (l := 160) rfl (wNum_fn _ _ _ l.length 1 (by decide) (by decide) (fit_len hn) (by simp only [List.length_append, numB_length, rowB_length, encSig_length, encOut_length, encIn_length, encFwd_length, encSigned_length, encOuts_length, encIns_length, encFwds_length, encPar_length, encCert_length, encClaim_length, Vector.length_toList, fm_const encOut_length, fm_const encIn_length, fm_const encFwd_length, fm_const encSigned_length, List.length_take] at hL ⊢; omega) _ _ _)) ?_ 
  rintro _ _ ⟨rfl, rfl⟩
  refine J.nil ?_
  refine Po.then ?_
  refine C.seq ?_
  refine C.reg ?_
  refine J.q rfl rfl rfl (V.mv rfl) ?_
  refine J.q rfl rfl rfl (V.to (V.lenR rfl hR Tryz.underlying35) (by rw [rws_length])) ?_
  refine J.q rfl rfl rfl (V.mv rfl) ?_
  refine J.nil ?_
  refine Po.then ?_
  refine C.block ?_
  refine C.loopP (fun (k : Nat) => k ≤ l.length) (fun (k : Nat) => [(14, .int .i64 (k : Int)), (13, .int .i64 (l.length : Int)), (12, .slice aV (rws InD.lv l).length cV), (0, .pointer (some ⟨b, 0, none⟩))]) (fun (k : Nat) => (160, Wr tw 5 b (bs ++ numB l.length 1 ++ (l.take k).flatMap encIn)) :: M) (fun (k : Nat) => l.length - k) 0 (by first | omega | (dsimp only; omega)) (Sub.cons rfl <| Sub.cons rfl <| Sub.cons rfl <| Sub.cons rfl <| Sub.nil) (MSub.pullE rfl (by simp) <| MSub.refl) fun k hok => ?_
  refine C.seq ?_
  refine C.reg ?_
  refine J.q rfl rfl rfl (V.lss rfl rfl) ?_
  refine J.nil ?_
  refine Po.then ?_
  refine C.seq ?_
  refine C.ifd rfl (fun h15 => ?_) (fun h15 => ?_)
  · have hk : k < l.length := by simp at h15; omega
    obtain ⟨x, hx⟩ : ∃ x, l[k]? = some x := ⟨_, List.getElem?_eq_getElem hk⟩
    have hfx := hf x (List.mem_of_getElem? hx)
    refine C.skip ?_
    refine Po.then ?_
    refine C.seq ?_
    refine C.block ?_
    refine C.seq ?_
    refine C.reg ?_
    refine J.q rfl rfl rfl (V.iaR rfl hR rfl sl35 (by rw [rws_length]; omega)) ?_
    refine J.q rfl rfl rfl (V.to (V.ldR rfl hR (rws_get hx) ag223) (show _ = ag x.lv from rfl)) ?_
    refine J.one rfl (JO.alloc (l := 5) rfl zr223 fun b5 => ?_)
    refine J.one rfl (JO.stS (l := 5) rfl rfl rfl sz223 (by kernel_rfl) (by kernel_rfl) ?_)
    refine J.nil ?_
    refine Po.then ?_
    refine C.seq ?_
    refine C.drawM [6] [0, 1, 2, 3, 4, 5] mixed (by kernel_rfl) (by kernel_rfl) ?_
    refine DE.q rfl rfl rfl rfl (V.mv rfl) ?_
    refine DE.q rfl rfl rfl rfl (V.nc rfl) ?_
    refine DE.q rfl rfl rfl rfl (V.fa rfl fo260_0) ?_
    refine DE.q rfl rfl rfl rfl (V.fa rfl fo223_0) ?_
    refine DE.q rfl rfl rfl rfl (V.fa rfl fo65_0) ?_
    refine DE.q rfl rfl rfl rfl (V.ldA (i := 0) 5 rfl rfl ag29 rfl rfl) ?_
    refine DE.nil ?_
    refine DT.o (by kernel_rfl) (MSub.refl) rfl rfl fun Kc hKc => ?_
    refine JO.call rfl tx213 rfl (Fn.at (l := 160) rfl (wHash_fn _ _ _ x.frm.tx (by simp only [List.length_append, numB_length, rowB_length, encSig_length, encOut_length, encIn_length, encFwd_length, encSigned_length, encOuts_length, encIns_length, encFwds_length, encPar_length, encCert_length, encClaim_length, Vector.length_toList, fm_const encOut_length, fm_const encIn_length, fm_const encFwd_length, fm_const encSigned_length, List.length_take] at hL ⊢; omega) _ _ _)) ?_
    rintro _ _ ⟨rfl, rfl⟩
    refine hKc _ _ _ (Hp.le_refl _) ?_
    clear hKc Kc
    refine DT.nil' (by kernel_rfl) ?_
    refine Po.then ?_
    refine C.seq ?_
    refine C.drawM [6] [0, 1, 2, 3, 4, 5] mixed (by kernel_rfl) (by kernel_rfl) ?_
    refine DE.q rfl rfl rfl rfl (V.mv rfl) ?_
    refine DE.q rfl rfl rfl rfl (V.nc rfl) ?_
    refine DE.q rfl rfl rfl rfl (V.fa rfl fo260_0) ?_
    refine DE.q rfl rfl rfl rfl (V.fa rfl fo223_0) ?_
    refine DE.q rfl rfl rfl rfl (V.fa rfl fo65_1) ?_
    refine DE.q rfl rfl rfl rfl (V.ldS (i := 1) 5 rfl rfl sc3 rfl rfl rfl) ?_
    refine DE.nil ?_
    refine DT.o (by kernel_rfl) (MSub.refl) rfl rfl fun Kc hKc => ?_
    refine JO.call rfl tx183 rfl (Fn.at (l := 160) rfl (wNum_fn _ _ _ x.frm.at_ 1 (by decide) (by decide) hfx.1 (by simp only [List.length_append, numB_length, rowB_length, encSig_length, encOut_length, encIn_length, encFwd_length, encSigned_length, encOuts_length, encIns_length, encFwds_length, encPar_length, encCert_length, encClaim_length, Vector.length_toList, fm_const encOut_length, fm_const encIn_length, fm_const encFwd_length, fm_const encSigned_length, List.length_take] at hL ⊢; omega) _ _ _)) ?_
    rintro _ _ ⟨rfl, rfl⟩
    refine hKc _ _ _ (Hp.le_refl _) ?_
    clear hKc Kc
    refine DT.nil' (by kernel_rfl) ?_
    refine Po.then ?_
    refine C.seq ?_
    refine C.drawM [5] [0, 1, 2, 3, 4] mixed (by kernel_rfl) (by kernel_rfl) ?_
    refine DE.q rfl rfl rfl rfl (V.mv rfl) ?_
    refine DE.q rfl rfl rfl rfl (V.nc rfl) ?_
    refine DE.q rfl rfl rfl rfl (V.fa rfl fo260_0) ?_
    refine DE.q rfl rfl rfl rfl (V.fa rfl fo223_1) ?_
    refine DE.q rfl rfl rfl rfl (V.ldA (i := 2) 5 rfl rfl ag29 rfl rfl) ?_
    refine DE.nil ?_
    refine DT.o (by kernel_rfl) (MSub.refl) rfl rfl fun Kc hKc => ?_
    refine JO.call rfl tx213 rfl (Fn.at (l := 160) rfl (wHash_fn _ _ _ x.key (by simp only [List.length_append, numB_length, rowB_length, encSig_length, encOut_length, encIn_length, encFwd_length, encSigned_length, encOuts_length, encIns_length, encFwds_length, encPar_length, encCert_length, encClaim_length, Vector.length_toList, fm_const encOut_length, fm_const encIn_length, fm_const encFwd_length, fm_const encSigned_length, List.length_take] at hL ⊢; omega) _ _ _)) ?_
    rintro _ _ ⟨rfl, rfl⟩
    refine hKc _ _ _ (Hp.le_refl _) ?_
    clear hKc Kc
    refine DT.nil' (by kernel_rfl) ?_
    refine Po.then ?_
    refine C.reg ?_
    refine J.q rfl rfl rfl (V.mv rfl) ?_
    refine J.q rfl rfl rfl (V.fa rfl fo223_2) ?_
    refine J.q rfl rfl rfl (V.ldP (i := 3) (k := 4) 5 rfl rfl ag190 rfl (by kernel_rfl) (by kernel_rfl)) ?_
    refine J.call rfl tx214 rfl (Fn.at (l := 160) rfl (sig_fn _ _ _ x.sig _ _ _ hfx.2 (by simp only [List.length_append, numB_length, rowB_length, encSig_length, encOut_length, encIn_length, encFwd_length, encSigned_length, encOuts_length, encIns_length, encFwds_length, encPar_length, encCert_length, encClaim_length, Vector.length_toList, fm_const encOut_length, fm_const encIn_length, fm_const encFwd_length, fm_const encSigned_length, List.length_take] at hL ⊢; omega))) ?_ 
    rintro _ _ ⟨rfl, rfl⟩
    refine J.nil ?_
    refine Po.blkN ?_
    refine Po.then ?_
    refine C.reg ?_
    refine J.q rfl rfl rfl (V.add rfl rfl (by omega)) ?_
    refine J.q rfl rfl rfl (V.mv rfl) ?_
    refine J.nil ?_
    exact Po.roundP (k + 1) (by first | omega | (dsimp only; omega)) (Sub.cons rfl <| Sub.cons rfl <| Sub.cons rfl <| Sub.cons rfl <| Sub.nil) (MSub.pullE rfl (by rw [fm_succ _ hx]; simp only [encIn, List.append_assoc]) <| MSub.drop <| MSub.refl) (by first | omega | (dsimp only; omega))
  · obtain rfl : k = l.length := by simp at h15; omega
    rw [List.take_length]
    refine C.exit ?_
    refine Po.thenX ?_
    refine Po.thenX ?_
    refine Po.blkX ?_
    exact Po.end0 rfl rfl fun W hI => ⟨_, _, rfl, ⟨rfl, rfl⟩, (hI.sub (MSub.pullE rfl (by simp only [encIns, List.append_assoc]) <| MSub.refl)).up hle⟩

theorem fwds_fn (tw b : Nat) (bs : List UInt8) (l : List FwdD) (v : Value) (w0 : World) (ro : Hp) (M : Res) (hR : RS ro v 11 (rws FwdD.lv l)) (hn : l.length ≤ 255) (hf : ∀ x ∈ l, fitN x.side 1 ∧ fitN x.account 2 ∧ fitN x.amount 7) (hL : (bs ++ encFwds l).length ≤ 131072) : Sx.Fn Tryz.prog 186 #[.pointer (some ⟨b, 0, none⟩), v] w0 ro ((160, Wr tw 5 b (bs)) :: M) (fun u M1 => u = .tuple #[] ∧ M1 = (160, Wr tw 5 b (bs ++ encFwds l)) :: M) := by
  obtain ⟨aV, cV, rfl, _⟩ := hR.shape
  have hL0 := hL
  refine Sx.Fn.enter Tryz.func186 rfl rfl ?_
  have hle : Hp.le ro ro := Hp.le_refl _
  refine C.seq ?_
  refine C.reg ?_
  refine J.q rfl rfl rfl (V.mv rfl) ?_
  refine J.q rfl rfl rfl (V.nc rfl) ?_
  refine J.q rfl rfl rfl (V.fa rfl fo260_0) ?_
  refine J.q rfl rfl rfl (V.mv rfl) ?_
  refine J.q rfl rfl rfl (V.to (V.lenR rfl hR Tryz.underlying37) (by rw [rws_length])) ?_
  refine J.call rfl tx183 rfl (Fn.at (l := 160) rfl (wNum_fn _ _ _ l.length 1 (by decide) (by decide) (fit_len hn) (by simp only [List.length_append, numB_length, rowB_length, encSig_length, encOut_length, encIn_length, encFwd_length, encSigned_length, encOuts_length, encIns_length, encFwds_length, encPar_length, encCert_length, encClaim_length, Vector.length_toList, fm_const encOut_length, fm_const encIn_length, fm_const encFwd_length, fm_const encSigned_length, List.length_take] at hL ⊢; omega) _ _ _)) ?_ 
  rintro _ _ ⟨rfl, rfl⟩
  refine J.nil ?_
  refine Po.then ?_
  refine C.seq ?_
  refine C.reg ?_
  refine J.q rfl rfl rfl (V.mv rfl) ?_
  refine J.q rfl rfl rfl (V.to (V.lenR rfl hR Tryz.underlying37) (by rw [rws_length])) ?_
  refine J.q rfl rfl rfl (V.mv rfl) ?_
  refine J.nil ?_
  refine Po.then ?_
  refine C.block ?_
  refine C.loopP (fun (k : Nat) => k ≤ l.length) (fun (k : Nat) => [(14, .int .i64 (k : Int)), (13, .int .i64 (l.length : Int)), (12, .slice aV (rws FwdD.lv l).length cV), (0, .pointer (some ⟨b, 0, none⟩))]) (fun (k : Nat) => (160, Wr tw 5 b (bs ++ numB l.length 1 ++ (l.take k).flatMap encFwd)) :: M) (fun (k : Nat) => l.length - k) 0 (by first | omega | (dsimp only; omega)) (Sub.cons rfl <| Sub.cons rfl <| Sub.cons rfl <| Sub.cons rfl <| Sub.nil) (MSub.pullE rfl (by simp) <| MSub.refl) fun k hok => ?_
  refine C.seq ?_
  refine C.reg ?_
  refine J.q rfl rfl rfl (V.lss rfl rfl) ?_
  refine J.nil ?_
  refine Po.then ?_
  refine C.seq ?_
  refine C.ifd rfl (fun h15 => ?_) (fun h15 => ?_)
  · have hk : k < l.length := by simp at h15; omega
    obtain ⟨x, hx⟩ : ∃ x, l[k]? = some x := ⟨_, List.getElem?_eq_getElem hk⟩
    have hfx := hf x (List.mem_of_getElem? hx)
    refine C.skip ?_
    refine Po.then ?_
    refine C.seq ?_
    refine C.block ?_
    refine C.seq ?_
    refine C.reg ?_
    refine J.q rfl rfl rfl (V.iaR rfl hR rfl sl37 (by rw [rws_length]; omega)) ?_
    refine J.q rfl rfl rfl (V.to (V.ldR rfl hR (rws_get hx) ag150) (show _ = ag x.lv from rfl)) ?_
    refine J.one rfl (JO.alloc (l := 5) rfl zr150 fun b5 => ?_)
    refine J.one rfl (JO.stS (l := 5) rfl rfl rfl sz150 rfl rfl ?_)
    refine J.nil ?_
    refine Po.then ?_
    refine C.seq ?_
    refine C.drawM [5] [0, 1, 2, 3, 4] mixed (by kernel_rfl) (by kernel_rfl) ?_
    refine DE.q rfl rfl rfl rfl (V.mv rfl) ?_
    refine DE.q rfl rfl rfl rfl (V.nc rfl) ?_
    refine DE.q rfl rfl rfl rfl (V.fa rfl fo260_0) ?_
    refine DE.q rfl rfl rfl rfl (V.fa rfl fo150_0) ?_
    refine DE.q rfl rfl rfl rfl (V.ldS (i := 0) 5 rfl rfl sc3 rfl rfl rfl) ?_
    refine DE.nil ?_
    refine DT.o (by kernel_rfl) (MSub.refl) rfl rfl fun Kc hKc => ?_
    refine JO.call rfl tx183 rfl (Fn.at (l := 160) rfl (wNum_fn _ _ _ x.side 1 (by decide) (by decide) hfx.1 (by simp only [List.length_append, numB_length, rowB_length, encSig_length, encOut_length, encIn_length, encFwd_length, encSigned_length, encOuts_length, encIns_length, encFwds_length, encPar_length, encCert_length, encClaim_length, Vector.length_toList, fm_const encOut_length, fm_const encIn_length, fm_const encFwd_length, fm_const encSigned_length, List.length_take] at hL ⊢; omega) _ _ _)) ?_
    rintro _ _ ⟨rfl, rfl⟩
    refine hKc _ _ _ (Hp.le_refl _) ?_
    clear hKc Kc
    refine DT.nil' (by kernel_rfl) ?_
    refine Po.then ?_
    refine C.seq ?_
    refine C.drawM [5] [0, 1, 2, 3, 4] mixed (by kernel_rfl) (by kernel_rfl) ?_
    refine DE.q rfl rfl rfl rfl (V.mv rfl) ?_
    refine DE.q rfl rfl rfl rfl (V.nc rfl) ?_
    refine DE.q rfl rfl rfl rfl (V.fa rfl fo260_0) ?_
    refine DE.q rfl rfl rfl rfl (V.fa rfl fo150_1) ?_
    refine DE.q rfl rfl rfl rfl (V.ldS (i := 1) 5 rfl rfl sc3 rfl rfl rfl) ?_
    refine DE.nil ?_
    refine DT.o (by kernel_rfl) (MSub.refl) rfl rfl fun Kc hKc => ?_
    refine JO.call rfl tx183 rfl (Fn.at (l := 160) rfl (wNum_fn _ _ _ x.account 2 (by decide) (by decide) hfx.2.1 (by simp only [List.length_append, numB_length, rowB_length, encSig_length, encOut_length, encIn_length, encFwd_length, encSigned_length, encOuts_length, encIns_length, encFwds_length, encPar_length, encCert_length, encClaim_length, Vector.length_toList, fm_const encOut_length, fm_const encIn_length, fm_const encFwd_length, fm_const encSigned_length, List.length_take] at hL ⊢; omega) _ _ _)) ?_
    rintro _ _ ⟨rfl, rfl⟩
    refine hKc _ _ _ (Hp.le_refl _) ?_
    clear hKc Kc
    refine DT.nil' (by kernel_rfl) ?_
    refine Po.then ?_
    refine C.seq ?_
    refine C.drawM [5] [0, 1, 2, 3, 4] mixed (by kernel_rfl) (by kernel_rfl) ?_
    refine DE.q rfl rfl rfl rfl (V.mv rfl) ?_
    refine DE.q rfl rfl rfl rfl (V.nc rfl) ?_
    refine DE.q rfl rfl rfl rfl (V.fa rfl fo260_0) ?_
    refine DE.q rfl rfl rfl rfl (V.fa rfl fo150_2) ?_
    refine DE.q rfl rfl rfl rfl (V.ldA (i := 2) 5 rfl rfl ag29 rfl rfl) ?_
    refine DE.nil ?_
    refine DT.o (by kernel_rfl) (MSub.refl) rfl rfl fun Kc hKc => ?_
    refine JO.call rfl tx213 rfl (Fn.at (l := 160) rfl (wHash_fn _ _ _ x.owner (by simp only [List.length_append, numB_length, rowB_length, encSig_length, encOut_length, encIn_length, encFwd_length, encSigned_length, encOuts_length, encIns_length, encFwds_length, encPar_length, encCert_length, encClaim_length, Vector.length_toList, fm_const encOut_length, fm_const encIn_length, fm_const encFwd_length, fm_const encSigned_length, List.length_take] at hL ⊢; omega) _ _ _)) ?_
    rintro _ _ ⟨rfl, rfl⟩
    refine hKc _ _ _ (Hp.le_refl _) ?_
    clear hKc Kc
    refine DT.nil' (by kernel_rfl) ?_
    refine Po.then ?_
    refine C.drawM [5] [0, 1, 2, 3, 4] mixed (by kernel_rfl) (by kernel_rfl) ?_
    refine DE.q rfl rfl rfl rfl (V.mv rfl) ?_
    refine DE.q rfl rfl rfl rfl (V.nc rfl) ?_
    refine DE.q rfl rfl rfl rfl (V.fa rfl fo260_0) ?_
    refine DE.q rfl rfl rfl rfl (V.fa rfl fo150_3) ?_
    refine DE.q rfl rfl rfl rfl (V.ldS (i := 3) 5 rfl rfl sc3 rfl rfl rfl) ?_
    refine DE.nil ?_
    refine DT.o (by kernel_rfl) (MSub.refl) rfl rfl fun Kc hKc => ?_
    refine JO.call rfl tx183 rfl (Fn.at (l := 160) rfl (wNum_fn _ _ _ x.amount 7 (by decide) (by decide) hfx.2.2 (by simp only [List.length_append, numB_length, rowB_length, encSig_length, encOut_length, encIn_length, encFwd_length, encSigned_length, encOuts_length, encIns_length, encFwds_length, encPar_length, encCert_length, encClaim_length, Vector.length_toList, fm_const encOut_length, fm_const encIn_length, fm_const encFwd_length, fm_const encSigned_length, List.length_take] at hL ⊢; omega) _ _ _)) ?_
    rintro _ _ ⟨rfl, rfl⟩
    refine hKc _ _ _ (Hp.le_refl _) ?_
    clear hKc Kc
    refine DT.nil' (by kernel_rfl) ?_
    refine Po.blkN ?_
    refine Po.then ?_
    refine C.reg ?_
    refine J.q rfl rfl rfl (V.add rfl rfl (by omega)) ?_
    refine J.q rfl rfl rfl (V.mv rfl) ?_
    refine J.nil ?_
    exact Po.roundP (k + 1) (by first | omega | (dsimp only; omega)) (Sub.cons rfl <| Sub.cons rfl <| Sub.cons rfl <| Sub.cons rfl <| Sub.nil) (MSub.pullE rfl (by rw [fm_succ _ hx]; simp only [encFwd, List.append_assoc]) <| MSub.drop <| MSub.refl) (by first | omega | (dsimp only; omega))
  · obtain rfl : k = l.length := by simp at h15; omega
    rw [List.take_length]
    refine C.exit ?_
    refine Po.thenX ?_
    refine Po.thenX ?_
    refine Po.blkX ?_
    exact Po.end0 rfl rfl fun W hI => ⟨_, _, rfl, ⟨rfl, rfl⟩, (hI.sub (MSub.pullE rfl (by simp only [encFwds, List.append_assoc]) <| MSub.refl)).up hle⟩

theorem par_fn (tw b : Nat) (bs : List UInt8) (p : Par) (v : Value) (w0 : World) (ro : Hp) (M : Res) (hR : RS ro v 8 (hkR p.keys)) (hf : fitN p.length 1 ∧ fitN p.window 1 ∧ fitN p.need 1) (hn : p.keys.length ≤ 255) (hL : (bs ++ encPar p).length ≤ 131072) : Sx.Fn Tryz.prog 187 #[.pointer (some ⟨b, 0, none⟩), ag (p.lv v)] w0 ro ((160, Wr tw 5 b (bs)) :: M) (fun u M1 => u = .tuple #[] ∧ M1 = (160, Wr tw 5 b (bs ++ encPar p)) :: M) := by
  obtain ⟨aV, cV, rfl, _⟩ := hR.shape
  refine Sx.Fn.enter Tryz.func187 rfl rfl ?_
  have hle : Hp.le ro ro := Hp.le_refl _
  refine C.seq ?_
  refine C.reg ?_
  refine J.one rfl (JO.boxS (l := 3) rfl rfl fun b3 => ?_)
  refine J.nil ?_
  refine Po.then ?_
  refine C.seq ?_
  refine C.drawM [5] [0, 1, 2, 3, 4] mixed (by kernel_rfl) (by kernel_rfl) ?_
  refine DE.q rfl rfl rfl rfl (V.mv rfl) ?_
  refine DE.q rfl rfl rfl rfl (V.nc rfl) ?_
  refine DE.q rfl rfl rfl rfl (V.fa rfl fo260_0) ?_
  refine DE.q rfl rfl rfl rfl (V.fa rfl fo40_0) ?_
  refine DE.q rfl rfl rfl rfl (V.ldS (i := 0) 3 rfl rfl sc3 rfl rfl rfl) ?_
  refine DE.nil ?_
  refine DT.o (by kernel_rfl) (MSub.refl) rfl rfl fun Kc hKc => ?_
  refine JO.call rfl tx183 rfl (Fn.at (l := 160) rfl (wNum_fn _ _ _ p.length 1 (by decide) (by decide) hf.1 (by simp only [List.length_append, numB_length, rowB_length, encSig_length, encOut_length, encIn_length, encFwd_length, encSigned_length, encOuts_length, encIns_length, encFwds_length, encPar_length, encCert_length, encClaim_length, Vector.length_toList, fm_const encOut_length, fm_const encIn_length, fm_const encFwd_length, fm_const encSigned_length, List.length_take] at hL ⊢; omega) _ _ _)) ?_
  rintro _ _ ⟨rfl, rfl⟩
  refine hKc _ _ _ (Hp.le_refl _) ?_
  clear hKc Kc
  refine DT.nil' (by kernel_rfl) ?_
  refine Po.then ?_
  refine C.seq ?_
  refine C.drawM [5] [0, 1, 2, 3, 4] mixed (by kernel_rfl) (by kernel_rfl) ?_
  refine DE.q rfl rfl rfl rfl (V.mv rfl) ?_
  refine DE.q rfl rfl rfl rfl (V.nc rfl) ?_
  refine DE.q rfl rfl rfl rfl (V.fa rfl fo260_0) ?_
  refine DE.q rfl rfl rfl rfl (V.fa rfl fo40_1) ?_
  refine DE.q rfl rfl rfl rfl (V.ldS (i := 1) 3 rfl rfl sc3 rfl rfl rfl) ?_
  refine DE.nil ?_
  refine DT.o (by kernel_rfl) (MSub.refl) rfl rfl fun Kc hKc => ?_
  refine JO.call rfl tx183 rfl (Fn.at (l := 160) rfl (wNum_fn _ _ _ p.window 1 (by decide) (by decide) hf.2.1 (by simp only [List.length_append, numB_length, rowB_length, encSig_length, encOut_length, encIn_length, encFwd_length, encSigned_length, encOuts_length, encIns_length, encFwds_length, encPar_length, encCert_length, encClaim_length, Vector.length_toList, fm_const encOut_length, fm_const encIn_length, fm_const encFwd_length, fm_const encSigned_length, List.length_take] at hL ⊢; omega) _ _ _)) ?_
  rintro _ _ ⟨rfl, rfl⟩
  refine hKc _ _ _ (Hp.le_refl _) ?_
  clear hKc Kc
  refine DT.nil' (by kernel_rfl) ?_
  refine Po.then ?_
  refine C.seq ?_
  refine C.drawM [5] [0, 1, 2, 3, 4] mixed (by kernel_rfl) (by kernel_rfl) ?_
  refine DE.q rfl rfl rfl rfl (V.mv rfl) ?_
  refine DE.q rfl rfl rfl rfl (V.nc rfl) ?_
  refine DE.q rfl rfl rfl rfl (V.fa rfl fo260_0) ?_
  refine DE.q rfl rfl rfl rfl (V.fa rfl fo40_2) ?_
  refine DE.q rfl rfl rfl rfl (V.ldS (i := 2) 3 rfl rfl sc3 rfl rfl rfl) ?_
  refine DE.nil ?_
  refine DT.o (by kernel_rfl) (MSub.refl) rfl rfl fun Kc hKc => ?_
  refine JO.call rfl tx183 rfl (Fn.at (l := 160) rfl (wNum_fn _ _ _ p.need 1 (by decide) (by decide) hf.2.2 (by simp only [List.length_append, numB_length, rowB_length, encSig_length, encOut_length, encIn_length, encFwd_length, encSigned_length, encOuts_length, encIns_length, encFwds_length, encPar_length, encCert_length, encClaim_length, Vector.length_toList, fm_const encOut_length, fm_const encIn_length, fm_const encFwd_length, fm_const encSigned_length, List.length_take] at hL ⊢; omega) _ _ _)) ?_
  rintro _ _ ⟨rfl, rfl⟩
  refine hKc _ _ _ (Hp.le_refl _) ?_
  clear hKc Kc
  refine DT.nil' (by kernel_rfl) ?_
  refine Po.then ?_
  refine C.seq ?_
  refine C.drawM [6] [0, 1, 2, 3, 4, 5] mixed (by kernel_rfl) (by kernel_rfl) ?_
  refine DE.q rfl rfl rfl rfl (V.mv rfl) ?_
  refine DE.q rfl rfl rfl rfl (V.nc rfl) ?_
  refine DE.q rfl rfl rfl rfl (V.fa rfl fo260_0) ?_
  refine DE.q rfl rfl rfl rfl (V.fa rfl fo40_3) ?_
  refine DE.q rfl rfl rfl rfl (V.ldS (i := 3) 3 rfl rfl sc38 rfl rfl rfl) ?_
  refine DE.q rfl rfl rfl rfl (V.to (V.lenR rfl hR Tryz.underlying38) (by rw [hkR_length])) ?_
  refine DE.nil ?_
  refine DT.o (by kernel_rfl) (MSub.refl) rfl rfl fun Kc hKc => ?_
  refine JO.call rfl tx183 rfl (Fn.at (l := 160) rfl (wNum_fn _ _ _ p.keys.length 1 (by decide) (by decide) (fit_len hn) (by simp only [List.length_append, numB_length, rowB_length, encSig_length, encOut_length, encIn_length, encFwd_length, encSigned_length, encOuts_length, encIns_length, encFwds_length, encPar_length, encCert_length, encClaim_length, Vector.length_toList, fm_const encOut_length, fm_const encIn_length, fm_const encFwd_length, fm_const encSigned_length, List.length_take] at hL ⊢; omega) _ _ _)) ?_
  rintro _ _ ⟨rfl, rfl⟩
  refine hKc _ _ _ (Hp.le_refl _) ?_
  clear hKc Kc
  refine DT.nil' (by kernel_rfl) ?_
  refine Po.then ?_
  refine C.reg ?_
  refine J.q rfl rfl rfl (V.mv rfl) ?_
  refine J.q rfl rfl rfl (V.fa rfl fo40_3) ?_
  refine J.q rfl rfl rfl (V.ldS (i := 3) 3 rfl rfl sc38 rfl rfl rfl) ?_
  refine J.call rfl tx215 rfl (Fn.at (l := 160) rfl (row_fn _ _ _ p.keys _ _ _ _ hR (by simp only [List.length_append, numB_length, rowB_length, encSig_length, encOut_length, encIn_length, encFwd_length, encSigned_length, encOuts_length, encIns_length, encFwds_length, encPar_length, encCert_length, encClaim_length, Vector.length_toList, fm_const encOut_length, fm_const encIn_length, fm_const encFwd_length, fm_const encSigned_length, List.length_take] at hL ⊢; omega))) ?_ 
  rintro _ _ ⟨rfl, rfl⟩
  refine J.nil ?_
  exact Po.end0 rfl rfl fun W hI => ⟨_, _, rfl, ⟨rfl, rfl⟩, (hI.sub (MSub.pullE rfl (by simp only [encPar, List.append_assoc]) <| MSub.drop <| MSub.refl)).up hle⟩

theorem claim_fn (tw b : Nat) (bs : List UInt8) (c : ClaimD) (w0 : World) (ro : Hp) (M : Res) (hf : fitN c.side 1 ∧ fitN c.account 2 ∧ fitN c.state.amount 7 ∧ fitN c.state.nonce 1) (hL : (bs ++ encClaim c).length ≤ 131072) : Sx.Fn Tryz.prog 189 #[.pointer (some ⟨b, 0, none⟩), ag c.lv] w0 ro ((160, Wr tw 5 b (bs)) :: M) (fun u M1 => u = .tuple #[] ∧ M1 = (160, Wr tw 5 b (bs ++ encClaim c)) :: M) := by
  refine Sx.Fn.enter Tryz.func189 rfl rfl ?_
  have hle : Hp.le ro ro := Hp.le_refl _
  refine C.seq ?_
  refine C.reg ?_
  refine J.one rfl (JO.boxS (l := 3) rfl rfl fun b3 => ?_)
  refine J.nil ?_
  refine Po.then ?_
  refine C.seq ?_
  refine C.freezeG (l := 3) rfl (fun _ _ hA hr => Bx.of hA hr) fun ro hl hB3 => ?_
  replace hle := Hp.le_trans hle hl
  refine C.drawM [5] [0, 1, 2, 3, 4] mixed (by kernel_rfl) (by kernel_rfl) ?_
  refine DE.q rfl rfl rfl rfl (V.mv rfl) ?_
  refine DE.q rfl rfl rfl rfl (V.nc rfl) ?_
  refine DE.q rfl rfl rfl rfl (V.fa rfl fo260_0) ?_
  refine DE.q rfl rfl rfl rfl (V.fa rfl fo46_0) ?_
  refine DE.q rfl rfl rfl rfl (V.rldS (i := 0) hB3 rfl sc3 rfl rfl rfl) ?_
  refine DE.nil ?_
  refine DT.o (by kernel_rfl) (MSub.refl) rfl rfl fun Kc hKc => ?_
  refine JO.call rfl tx183 rfl (Fn.at (l := 160) rfl (wNum_fn _ _ _ c.side 1 (by decide) (by decide) hf.1 (by simp only [List.length_append, numB_length, rowB_length, encSig_length, encOut_length, encIn_length, encFwd_length, encSigned_length, encOuts_length, encIns_length, encFwds_length, encPar_length, encCert_length, encClaim_length, Vector.length_toList, fm_const encOut_length, fm_const encIn_length, fm_const encFwd_length, fm_const encSigned_length, List.length_take] at hL ⊢; omega) _ _ _)) ?_
  rintro _ _ ⟨rfl, rfl⟩
  refine hKc _ _ _ (Hp.le_refl _) ?_
  clear hKc Kc
  refine DT.nil' (by kernel_rfl) ?_
  refine Po.then ?_
  refine C.seq ?_
  refine C.drawM [5] [0, 1, 2, 3, 4] mixed (by kernel_rfl) (by kernel_rfl) ?_
  refine DE.q rfl rfl rfl rfl (V.mv rfl) ?_
  refine DE.q rfl rfl rfl rfl (V.nc rfl) ?_
  refine DE.q rfl rfl rfl rfl (V.fa rfl fo260_0) ?_
  refine DE.q rfl rfl rfl rfl (V.fa rfl fo46_1) ?_
  refine DE.q rfl rfl rfl rfl (V.rldS (i := 1) hB3 rfl sc3 rfl rfl rfl) ?_
  refine DE.nil ?_
  refine DT.o (by kernel_rfl) (MSub.refl) rfl rfl fun Kc hKc => ?_
  refine JO.call rfl tx183 rfl (Fn.at (l := 160) rfl (wNum_fn _ _ _ c.account 2 (by decide) (by decide) hf.2.1 (by simp only [List.length_append, numB_length, rowB_length, encSig_length, encOut_length, encIn_length, encFwd_length, encSigned_length, encOuts_length, encIns_length, encFwds_length, encPar_length, encCert_length, encClaim_length, Vector.length_toList, fm_const encOut_length, fm_const encIn_length, fm_const encFwd_length, fm_const encSigned_length, List.length_take] at hL ⊢; omega) _ _ _)) ?_
  rintro _ _ ⟨rfl, rfl⟩
  refine hKc _ _ _ (Hp.le_refl _) ?_
  clear hKc Kc
  refine DT.nil' (by kernel_rfl) ?_
  refine Po.then ?_
  refine C.seq ?_
  refine C.drawM [6] [0, 1, 2, 3, 4, 5] mixed (by kernel_rfl) (by kernel_rfl) ?_
  refine DE.q rfl rfl rfl rfl (V.mv rfl) ?_
  refine DE.q rfl rfl rfl rfl (V.nc rfl) ?_
  refine DE.q rfl rfl rfl rfl (V.fa rfl fo260_0) ?_
  refine DE.q rfl rfl rfl rfl (V.fa rfl fo46_2) ?_
  refine DE.q rfl rfl rfl rfl (V.fa rfl fo31_0) ?_
  refine DE.q rfl rfl rfl rfl (V.rldA (i := 2) hB3 rfl ag29 rfl rfl) ?_
  refine DE.nil ?_
  refine DT.o (by kernel_rfl) (MSub.refl) rfl rfl fun Kc hKc => ?_
  refine JO.call rfl tx213 rfl (Fn.at (l := 160) rfl (wHash_fn _ _ _ c.state.owner (by simp only [List.length_append, numB_length, rowB_length, encSig_length, encOut_length, encIn_length, encFwd_length, encSigned_length, encOuts_length, encIns_length, encFwds_length, encPar_length, encCert_length, encClaim_length, Vector.length_toList, fm_const encOut_length, fm_const encIn_length, fm_const encFwd_length, fm_const encSigned_length, List.length_take] at hL ⊢; omega) _ _ _)) ?_
  rintro _ _ ⟨rfl, rfl⟩
  refine hKc _ _ _ (Hp.le_refl _) ?_
  clear hKc Kc
  refine DT.nil' (by kernel_rfl) ?_
  refine Po.then ?_
  refine C.seq ?_
  refine C.drawM [6] [0, 1, 2, 3, 4, 5] mixed (by kernel_rfl) (by kernel_rfl) ?_
  refine DE.q rfl rfl rfl rfl (V.mv rfl) ?_
  refine DE.q rfl rfl rfl rfl (V.nc rfl) ?_
  refine DE.q rfl rfl rfl rfl (V.fa rfl fo260_0) ?_
  refine DE.q rfl rfl rfl rfl (V.fa rfl fo46_2) ?_
  refine DE.q rfl rfl rfl rfl (V.fa rfl fo31_1) ?_
  refine DE.q rfl rfl rfl rfl (V.rldS (i := 3) hB3 rfl sc3 rfl rfl rfl) ?_
  refine DE.nil ?_
  refine DT.o (by kernel_rfl) (MSub.refl) rfl rfl fun Kc hKc => ?_
  refine JO.call rfl tx183 rfl (Fn.at (l := 160) rfl (wNum_fn _ _ _ c.state.amount 7 (by decide) (by decide) hf.2.2.1 (by simp only [List.length_append, numB_length, rowB_length, encSig_length, encOut_length, encIn_length, encFwd_length, encSigned_length, encOuts_length, encIns_length, encFwds_length, encPar_length, encCert_length, encClaim_length, Vector.length_toList, fm_const encOut_length, fm_const encIn_length, fm_const encFwd_length, fm_const encSigned_length, List.length_take] at hL ⊢; omega) _ _ _)) ?_
  rintro _ _ ⟨rfl, rfl⟩
  refine hKc _ _ _ (Hp.le_refl _) ?_
  clear hKc Kc
  refine DT.nil' (by kernel_rfl) ?_
  refine Po.then ?_
  refine C.seq ?_
  refine C.drawM [6] [0, 1, 2, 3, 4, 5] mixed (by kernel_rfl) (by kernel_rfl) ?_
  refine DE.q rfl rfl rfl rfl (V.mv rfl) ?_
  refine DE.q rfl rfl rfl rfl (V.nc rfl) ?_
  refine DE.q rfl rfl rfl rfl (V.fa rfl fo260_0) ?_
  refine DE.q rfl rfl rfl rfl (V.fa rfl fo46_2) ?_
  refine DE.q rfl rfl rfl rfl (V.fa rfl fo31_2) ?_
  refine DE.q rfl rfl rfl rfl (V.rldS (i := 4) hB3 rfl sc3 rfl rfl rfl) ?_
  refine DE.nil ?_
  refine DT.o (by kernel_rfl) (MSub.refl) rfl rfl fun Kc hKc => ?_
  refine JO.call rfl tx183 rfl (Fn.at (l := 160) rfl (wNum_fn _ _ _ c.state.nonce 1 (by decide) (by decide) hf.2.2.2 (by simp only [List.length_append, numB_length, rowB_length, encSig_length, encOut_length, encIn_length, encFwd_length, encSigned_length, encOuts_length, encIns_length, encFwds_length, encPar_length, encCert_length, encClaim_length, Vector.length_toList, fm_const encOut_length, fm_const encIn_length, fm_const encFwd_length, fm_const encSigned_length, List.length_take] at hL ⊢; omega) _ _ _)) ?_
  rintro _ _ ⟨rfl, rfl⟩
  refine hKc _ _ _ (Hp.le_refl _) ?_
  clear hKc Kc
  refine DT.nil' (by kernel_rfl) ?_
  refine Po.then ?_
  refine C.reg ?_
  refine J.q rfl rfl rfl (V.mv rfl) ?_
  refine J.q rfl rfl rfl (V.fa rfl fo46_3) ?_
  refine J.q rfl rfl rfl (V.slA (lo := 0) (hi := 16) rfl ar44 rfl rfl (by decide) (by decide) (by decide)) ?_
  refine J.call rfl tx215 rfl (Fn.at (l := 160) rfl (row_fn _ _ _ c.proof.toList _ _ _ _ (rs_arr (i := 5) (off := 0 + 12) hB3 rfl rfl) (by simp only [List.length_append, numB_length, rowB_length, encSig_length, encOut_length, encIn_length, encFwd_length, encSigned_length, encOuts_length, encIns_length, encFwds_length, encPar_length, encCert_length, encClaim_length, Vector.length_toList, fm_const encOut_length, fm_const encIn_length, fm_const encFwd_length, fm_const encSigned_length, List.length_take] at hL ⊢; omega))) ?_ 
  rintro _ _ ⟨rfl, rfl⟩
  refine J.nil ?_
  exact Po.end0 rfl rfl fun W hI => ⟨_, _, rfl, ⟨rfl, rfl⟩, (hI.sub (MSub.pullE rfl (by simp only [encClaim, List.append_assoc]) <| MSub.refl)).up hle⟩

theorem cert_fn (tw b : Nat) (bs : List UInt8) (c : CertD) (vo vs : Value) (w0 : World) (ro : Hp) (M : Res) (hR : CertRS ro c vo vs) (hf : fitN c.side 1 ∧ fitN c.epoch 4 ∧ fitN c.quality 4) (ho : ∀ x ∈ c.outs, fitN x.amount 7) (hs : ∀ x ∈ c.sigs, fitN x.key 1 ∧ fitN x.sig.index 1) (hn : c.outs.length ≤ 255) (hm : c.sigs.length ≤ 255) (hL : (bs ++ encCert c).length ≤ 131072) : Sx.Fn Tryz.prog 188 #[.pointer (some ⟨b, 0, none⟩), ag (c.lv vo vs)] w0 ro ((160, Wr tw 5 b (bs)) :: M) (fun u M1 => u = .tuple #[] ∧ M1 = (160, Wr tw 5 b (bs ++ encCert c)) :: M) := by
  obtain ⟨aO, cO, rfl, _⟩ := hR.o.shape
  obtain ⟨aS, cS, rfl, _⟩ := hR.s.shape
  have hO := hR.o
  have hS := hR.s
  clear hR
  refine Sx.Fn.enter Tryz.func188 rfl rfl ?_
  have hle : Hp.le ro ro := Hp.le_refl _
  refine C.seq ?_
  refine C.reg ?_
  refine J.one rfl (JO.boxS (l := 3) rfl rfl fun b3 => ?_)
  refine J.nil ?_
  refine Po.then ?_
  refine C.seq ?_
  refine C.drawM [5] [0, 1, 2, 3, 4] mixed (by kernel_rfl) (by kernel_rfl) ?_
  refine DE.q rfl rfl rfl rfl (V.mv rfl) ?_
  refine DE.q rfl rfl rfl rfl (V.nc rfl) ?_
  refine DE.q rfl rfl rfl rfl (V.fa rfl fo260_0) ?_
  refine DE.q rfl rfl rfl rfl (V.fa rfl fo43_0) ?_
  refine DE.q rfl rfl rfl rfl (V.ldS (i := 0) 3 rfl rfl sc3 rfl rfl rfl) ?_
  refine DE.nil ?_
  refine DT.o (by kernel_rfl) (MSub.refl) rfl rfl fun Kc hKc => ?_
  refine JO.call rfl tx183 rfl (Fn.at (l := 160) rfl (wNum_fn _ _ _ c.side 1 (by decide) (by decide) hf.1 (by simp only [List.length_append, numB_length, rowB_length, encSig_length, encOut_length, encIn_length, encFwd_length, encSigned_length, encOuts_length, encIns_length, encFwds_length, encPar_length, encCert_length, encClaim_length, Vector.length_toList, fm_const encOut_length, fm_const encIn_length, fm_const encFwd_length, fm_const encSigned_length, List.length_take] at hL ⊢; omega) _ _ _)) ?_
  rintro _ _ ⟨rfl, rfl⟩
  refine hKc _ _ _ (Hp.le_refl _) ?_
  clear hKc Kc
  refine DT.nil' (by kernel_rfl) ?_
  refine Po.then ?_
  refine C.seq ?_
  refine C.drawM [5] [0, 1, 2, 3, 4] mixed (by kernel_rfl) (by kernel_rfl) ?_
  refine DE.q rfl rfl rfl rfl (V.mv rfl) ?_
  refine DE.q rfl rfl rfl rfl (V.nc rfl) ?_
  refine DE.q rfl rfl rfl rfl (V.fa rfl fo260_0) ?_
  refine DE.q rfl rfl rfl rfl (V.fa rfl fo43_1) ?_
  refine DE.q rfl rfl rfl rfl (V.ldS (i := 1) 3 rfl rfl sc3 rfl rfl rfl) ?_
  refine DE.nil ?_
  refine DT.o (by kernel_rfl) (MSub.refl) rfl rfl fun Kc hKc => ?_
  refine JO.call rfl tx183 rfl (Fn.at (l := 160) rfl (wNum_fn _ _ _ c.epoch 4 (by decide) (by decide) hf.2.1 (by simp only [List.length_append, numB_length, rowB_length, encSig_length, encOut_length, encIn_length, encFwd_length, encSigned_length, encOuts_length, encIns_length, encFwds_length, encPar_length, encCert_length, encClaim_length, Vector.length_toList, fm_const encOut_length, fm_const encIn_length, fm_const encFwd_length, fm_const encSigned_length, List.length_take] at hL ⊢; omega) _ _ _)) ?_
  rintro _ _ ⟨rfl, rfl⟩
  refine hKc _ _ _ (Hp.le_refl _) ?_
  clear hKc Kc
  refine DT.nil' (by kernel_rfl) ?_
  refine Po.then ?_
  refine C.seq ?_
  refine C.drawM [5] [0, 1, 2, 3, 4] mixed (by kernel_rfl) (by kernel_rfl) ?_
  refine DE.q rfl rfl rfl rfl (V.mv rfl) ?_
  refine DE.q rfl rfl rfl rfl (V.nc rfl) ?_
  refine DE.q rfl rfl rfl rfl (V.fa rfl fo260_0) ?_
  refine DE.q rfl rfl rfl rfl (V.fa rfl fo43_2) ?_
  refine DE.q rfl rfl rfl rfl (V.ldS (i := 2) 3 rfl rfl sc3 rfl rfl rfl) ?_
  refine DE.nil ?_
  refine DT.o (by kernel_rfl) (MSub.refl) rfl rfl fun Kc hKc => ?_
  refine JO.call rfl tx183 rfl (Fn.at (l := 160) rfl (wNum_fn _ _ _ c.quality 4 (by decide) (by decide) hf.2.2 (by simp only [List.length_append, numB_length, rowB_length, encSig_length, encOut_length, encIn_length, encFwd_length, encSigned_length, encOuts_length, encIns_length, encFwds_length, encPar_length, encCert_length, encClaim_length, Vector.length_toList, fm_const encOut_length, fm_const encIn_length, fm_const encFwd_length, fm_const encSigned_length, List.length_take] at hL ⊢; omega) _ _ _)) ?_
  rintro _ _ ⟨rfl, rfl⟩
  refine hKc _ _ _ (Hp.le_refl _) ?_
  clear hKc Kc
  refine DT.nil' (by kernel_rfl) ?_
  refine Po.then ?_
  refine C.seq ?_
  refine C.drawM [5] [0, 1, 2, 3, 4] mixed (by kernel_rfl) (by kernel_rfl) ?_
  refine DE.q rfl rfl rfl rfl (V.mv rfl) ?_
  refine DE.q rfl rfl rfl rfl (V.nc rfl) ?_
  refine DE.q rfl rfl rfl rfl (V.fa rfl fo260_0) ?_
  refine DE.q rfl rfl rfl rfl (V.fa rfl fo43_3) ?_
  refine DE.q rfl rfl rfl rfl (V.ldA (i := 3) 3 rfl rfl ag29 rfl rfl) ?_
  refine DE.nil ?_
  refine DT.o (by kernel_rfl) (MSub.refl) rfl rfl fun Kc hKc => ?_
  refine JO.call rfl tx213 rfl (Fn.at (l := 160) rfl (wHash_fn _ _ _ c.fin (by simp only [List.length_append, numB_length, rowB_length, encSig_length, encOut_length, encIn_length, encFwd_length, encSigned_length, encOuts_length, encIns_length, encFwds_length, encPar_length, encCert_length, encClaim_length, Vector.length_toList, fm_const encOut_length, fm_const encIn_length, fm_const encFwd_length, fm_const encSigned_length, List.length_take] at hL ⊢; omega) _ _ _)) ?_
  rintro _ _ ⟨rfl, rfl⟩
  refine hKc _ _ _ (Hp.le_refl _) ?_
  clear hKc Kc
  refine DT.nil' (by kernel_rfl) ?_
  refine Po.then ?_
  refine C.seq ?_
  refine C.drawM [5] [0, 1, 2, 3, 4] mixed (by kernel_rfl) (by kernel_rfl) ?_
  refine DE.q rfl rfl rfl rfl (V.mv rfl) ?_
  refine DE.q rfl rfl rfl rfl (V.nc rfl) ?_
  refine DE.q rfl rfl rfl rfl (V.fa rfl fo260_0) ?_
  refine DE.q rfl rfl rfl rfl (V.fa rfl fo43_4) ?_
  refine DE.q rfl rfl rfl rfl (V.ldA (i := 4) 3 rfl rfl ag29 rfl rfl) ?_
  refine DE.nil ?_
  refine DT.o (by kernel_rfl) (MSub.refl) rfl rfl fun Kc hKc => ?_
  refine JO.call rfl tx213 rfl (Fn.at (l := 160) rfl (wHash_fn _ _ _ c.root (by simp only [List.length_append, numB_length, rowB_length, encSig_length, encOut_length, encIn_length, encFwd_length, encSigned_length, encOuts_length, encIns_length, encFwds_length, encPar_length, encCert_length, encClaim_length, Vector.length_toList, fm_const encOut_length, fm_const encIn_length, fm_const encFwd_length, fm_const encSigned_length, List.length_take] at hL ⊢; omega) _ _ _)) ?_
  rintro _ _ ⟨rfl, rfl⟩
  refine hKc _ _ _ (Hp.le_refl _) ?_
  clear hKc Kc
  refine DT.nil' (by kernel_rfl) ?_
  refine Po.then ?_
  refine C.seq ?_
  refine C.reg ?_
  refine J.q rfl rfl rfl (V.mv rfl) ?_
  refine J.q rfl rfl rfl (V.fa rfl fo43_5) ?_
  refine J.q rfl rfl rfl (V.ldS (i := 5) 3 rfl rfl sc36 rfl (by kernel_rfl) rfl) ?_
  refine J.call rfl tx184 rfl (Fn.at (l := 160) rfl (outs_fn _ _ _ c.outs _ _ _ _ hO hn ho (by simp only [List.length_append, numB_length, rowB_length, encSig_length, encOut_length, encIn_length, encFwd_length, encSigned_length, encOuts_length, encIns_length, encFwds_length, encPar_length, encCert_length, encClaim_length, Vector.length_toList, fm_const encOut_length, fm_const encIn_length, fm_const encFwd_length, fm_const encSigned_length, List.length_take] at hL ⊢; omega))) ?_ 
  rintro _ _ ⟨rfl, rfl⟩
  refine J.nil ?_
  refine Po.then ?_
  refine C.seq ?_
  refine C.drawM [6] [0, 1, 2, 3, 4, 5] mixed (by kernel_rfl) (by kernel_rfl) ?_
  refine DE.q rfl rfl rfl rfl (V.mv rfl) ?_
  refine DE.q rfl rfl rfl rfl (V.nc rfl) ?_
  refine DE.q rfl rfl rfl rfl (V.fa rfl fo260_0) ?_
  refine DE.q rfl rfl rfl rfl (V.fa rfl fo43_6) ?_
  refine DE.q rfl rfl rfl rfl (V.ldS (i := 6) 3 rfl rfl sc41 rfl (by kernel_rfl) rfl) ?_
  refine DE.q rfl rfl rfl rfl (V.to (V.lenR rfl hS Tryz.underlying41) (by rw [rws_length])) ?_
  refine DE.nil ?_
  refine DT.o (by kernel_rfl) (MSub.refl) rfl rfl fun Kc hKc => ?_
  refine JO.call rfl tx183 rfl (Fn.at (l := 160) rfl (wNum_fn _ _ _ c.sigs.length 1 (by decide) (by decide) (fit_len hm) (by simp only [List.length_append, numB_length, rowB_length, encSig_length, encOut_length, encIn_length, encFwd_length, encSigned_length, encOuts_length, encIns_length, encFwds_length, encPar_length, encCert_length, encClaim_length, Vector.length_toList, fm_const encOut_length, fm_const encIn_length, fm_const encFwd_length, fm_const encSigned_length, List.length_take] at hL ⊢; omega) _ _ _)) ?_
  rintro _ _ ⟨rfl, rfl⟩
  refine hKc _ _ _ (Hp.le_refl _) ?_
  clear hKc Kc
  refine DT.nil' (by kernel_rfl) ?_
  refine Po.then ?_
  refine C.seq ?_
  refine C.reg ?_
  refine J.q rfl rfl rfl (V.fa rfl fo43_6) ?_
  refine J.q rfl rfl rfl (V.ldS (i := 6) 3 rfl rfl sc41 rfl (by kernel_rfl) rfl) ?_
  refine J.q rfl rfl rfl (V.to (V.lenR rfl hS Tryz.underlying41) (by rw [rws_length])) ?_
  refine J.q rfl rfl rfl (V.mv rfl) ?_
  refine J.nil ?_
  refine Po.then ?_
  refine C.block ?_
  refine C.loopP (fun (k : Nat) => k ≤ c.sigs.length) (fun (k : Nat) => [(50, .int .i64 (k : Int)), (49, .int .i64 (c.sigs.length : Int)), (48, .slice aS (rws SignedD.lv c.sigs).length cS), (0, .pointer (some ⟨b, 0, none⟩))]) (fun (k : Nat) => (160, Wr tw 5 b (bs ++ numB c.side 1 ++ numB c.epoch 4 ++ numB c.quality 4 ++ c.fin.toList ++ c.root.toList ++ encOuts c.outs ++ numB c.sigs.length 1 ++ (c.sigs.take k).flatMap encSigned)) :: M) (fun (k : Nat) => c.sigs.length - k) 0 (by first | omega | (dsimp only; omega)) (Sub.cons rfl <| Sub.cons rfl <| Sub.cons rfl <| Sub.cons rfl <| Sub.nil) (MSub.pullE rfl (by simp) <| MSub.drop <| MSub.refl) fun k hok => ?_
  refine C.seq ?_
  refine C.reg ?_
  refine J.q rfl rfl rfl (V.lss rfl rfl) ?_
  refine J.nil ?_
  refine Po.then ?_
  refine C.seq ?_
  refine C.ifd rfl (fun h51 => ?_) (fun h51 => ?_)
  · have hk : k < c.sigs.length := by simp at h51; omega
    obtain ⟨x, hx⟩ : ∃ x, c.sigs[k]? = some x := ⟨_, List.getElem?_eq_getElem hk⟩
    have hfx := hs x (List.mem_of_getElem? hx)
    refine C.skip ?_
    refine Po.then ?_
    refine C.seq ?_
    refine C.block ?_
    refine C.seq ?_
    refine C.reg ?_
    refine J.q rfl rfl rfl (V.iaR rfl hS rfl sl41 (by rw [rws_length]; omega)) ?_
    refine J.q rfl rfl rfl (V.to (V.ldR rfl hS (rws_get hx) ag192) (show _ = ag x.lv from rfl)) ?_
    refine J.one rfl (JO.alloc (l := 5) rfl zr192 fun b5 => ?_)
    refine J.one rfl (JO.stS (l := 5) rfl rfl rfl sz192 rfl rfl ?_)
    refine J.nil ?_
    refine Po.then ?_
    refine C.seq ?_
    refine C.drawM [5] [0, 1, 2, 3, 4] mixed (by kernel_rfl) (by kernel_rfl) ?_
    refine DE.q rfl rfl rfl rfl (V.mv rfl) ?_
    refine DE.q rfl rfl rfl rfl (V.nc rfl) ?_
    refine DE.q rfl rfl rfl rfl (V.fa rfl fo260_0) ?_
    refine DE.q rfl rfl rfl rfl (V.fa rfl fo192_0) ?_
    refine DE.q rfl rfl rfl rfl (V.ldS (i := 0) 5 rfl rfl sc3 rfl rfl rfl) ?_
    refine DE.nil ?_
    refine DT.o (by kernel_rfl) (MSub.refl) rfl rfl fun Kc hKc => ?_
    refine JO.call rfl tx183 rfl (Fn.at (l := 160) rfl (wNum_fn _ _ _ x.key 1 (by decide) (by decide) hfx.1 (by simp only [List.length_append, numB_length, rowB_length, encSig_length, encOut_length, encIn_length, encFwd_length, encSigned_length, encOuts_length, encIns_length, encFwds_length, encPar_length, encCert_length, encClaim_length, Vector.length_toList, fm_const encOut_length, fm_const encIn_length, fm_const encFwd_length, fm_const encSigned_length, List.length_take] at hL ⊢; omega) _ _ _)) ?_
    rintro _ _ ⟨rfl, rfl⟩
    refine hKc _ _ _ (Hp.le_refl _) ?_
    clear hKc Kc
    refine DT.nil' (by kernel_rfl) ?_
    refine Po.then ?_
    refine C.reg ?_
    refine J.q rfl rfl rfl (V.mv rfl) ?_
    refine J.q rfl rfl rfl (V.fa rfl fo192_1) ?_
    refine J.q rfl rfl rfl (V.ldP (i := 1) (k := 4) 5 rfl rfl ag190 rfl rfl rfl) ?_
    refine J.call rfl tx214 rfl (Fn.at (l := 160) rfl (sig_fn _ _ _ x.sig _ _ _ hfx.2 (by simp only [List.length_append, numB_length, rowB_length, encSig_length, encOut_length, encIn_length, encFwd_length, encSigned_length, encOuts_length, encIns_length, encFwds_length, encPar_length, encCert_length, encClaim_length, Vector.length_toList, fm_const encOut_length, fm_const encIn_length, fm_const encFwd_length, fm_const encSigned_length, List.length_take] at hL ⊢; omega))) ?_ 
    rintro _ _ ⟨rfl, rfl⟩
    refine J.nil ?_
    refine Po.blkN ?_
    refine Po.then ?_
    refine C.reg ?_
    refine J.q rfl rfl rfl (V.add rfl rfl (by omega)) ?_
    refine J.q rfl rfl rfl (V.mv rfl) ?_
    refine J.nil ?_
    exact Po.roundP (k + 1) (by first | omega | (dsimp only; omega)) (Sub.cons rfl <| Sub.cons rfl <| Sub.cons rfl <| Sub.cons rfl <| Sub.nil) (MSub.pullE rfl (by rw [fm_succ _ hx]; simp only [encSigned, List.append_assoc]) <| MSub.drop <| MSub.refl) (by first | omega | (dsimp only; omega))
  · obtain rfl : k = c.sigs.length := by simp at h51; omega
    rw [List.take_length]
    refine C.exit ?_
    refine Po.thenX ?_
    refine Po.thenX ?_
    refine Po.blkX ?_
    exact Po.end0 rfl rfl fun W hI => ⟨_, _, rfl, ⟨rfl, rfl⟩, (hI.sub (MSub.pullE rfl (by simp only [encCert, List.append_assoc]) <| MSub.refl)).up hle⟩

theorem end_fn (tw b : Nat) (bs : List UInt8) (w0 : World) (ro : Hp) (M : Res) (hL : bs.length ≤ 131072) : Sx.Fn Tryz.prog 190 #[.pointer (some ⟨b, 0, none⟩)] w0 ro ((160, Wr tw 5 b (bs)) :: M) (fun u M1 => ∃ a c, u = .tuple #[.slice a (bys bs).length c, .int .i64 0] ∧ M1 = (119, Ow (.slice a (bys bs).length c) 5 1 (bys bs)) :: M) := by
  refine Sx.Fn.enter Tryz.func190 rfl rfl ?_
  have hle : Hp.le ro ro := Hp.le_refl _
  refine C.seq ?_
  refine C.reg ?_
  refine J.q rfl rfl rfl (V.as rfl) ?_
  refine J.q rfl rfl rfl (V.as rfl) ?_
  refine J.nil ?_
  refine Po.then ?_
  refine C.seq ?_
  refine C.block ?_
  refine C.seq ?_
  refine C.opnWr (l := 160) rfl fun aW cW => ?_
  refine C.reg ?_
  refine J.q rfl rfl rfl (V.mv rfl) ?_
  refine J.q rfl rfl rfl (V.ptrEq rfl Tryz.underlying286) ?_
  refine J.q rfl rfl rfl (V.as rfl) ?_
  refine J.nil ?_
  refine Po.then ?_
  refine C.no rfl ?_
  refine C.seq ?_
  refine C.reg ?_
  refine J.q rfl rfl rfl (V.mv rfl) ?_
  refine J.q rfl rfl rfl (V.nc rfl) ?_
  refine J.q rfl rfl rfl (V.fa rfl fo258_1) ?_
  refine J.q rfl rfl rfl (V.ldS (i := 1) 106 rfl rfl sc56 rfl rfl rfl) ?_
  refine J.q rfl rfl rfl (V.neq rfl rfl) ?_
  refine J.q rfl rfl rfl (V.as rfl) ?_
  refine J.nil ?_
  refine Po.then ?_
  refine C.ifd rfl (fun h7 => ?_) (fun h7 => ?_)
  · exfalso; simp at h7
  · refine C.skip ?_
    refine Po.blkN ?_
    refine Po.then ?_
    refine C.seq ?_
    refine C.freezeG (l := 107) rfl (fun _ _ hA hr => hA.rs hr) fun ro hl hW => ?_
    replace hle := Hp.le_trans hle hl
    refine C.reg ?_
    refine J.q rfl rfl rfl (V.mv rfl) ?_
    refine J.q rfl rfl rfl (V.nc rfl) ?_
    refine J.q rfl rfl rfl (V.fa rfl fo258_0) ?_
    refine J.q rfl rfl rfl (V.ldS (i := 0) 106 rfl rfl sc73 rfl rfl rfl) ?_
    refine J.call rfl tx208 rfl (bclone_fn 21 _ _ _ _ _ hW (by simp [bys_length]; omega) (by simp [bys_length, maxLen]; omega)) ?_ 
    rintro v21 _ rfl
    refine Kp.ow (l := 21) rfl fun a21 c21 hv21 => ?_
    subst hv21
    refine J.q rfl rfl rfl (V.as rfl) ?_
    refine J.q rfl rfl rfl (V.as rfl) ?_
    refine J.nil ?_
    refine Po.then ?_
    refine C.ret ?_
    exact Po.end2 rfl rfl rfl rfl fun W hI => ⟨_, _, rfl, ⟨_, _, rfl, rfl⟩, (hI.sub (MSub.pullL (l := 21) rfl <| MSub.drop <| MSub.refl)).up hle⟩
end Go.Proofs
