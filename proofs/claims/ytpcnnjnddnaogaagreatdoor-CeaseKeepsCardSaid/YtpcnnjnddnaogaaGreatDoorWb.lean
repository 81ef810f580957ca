import Derived.Test.YtpcnnjnddnaogaaGreatDoorWa
import Derived.Test.YtpcnnjnddnaogaaGreatDoorEc
import Derived.Test.YtpcnnjnddnaogaaGreatDoorProg
set_option linter.unusedVariables false
set_option linter.unusedSimpArgs false
set_option linter.unusedSectionVars false
set_option linter.unnecessarySimpa false
set_option exponentiation.threshold 1000
namespace Go.Proofs
open Go Go.Sx Go.Db
set_option maxRecDepth 100000
theorem tx72 : Tx Tryz.prog 72 := ⟨Tryz.f72, Tryz.func72, rfl, by kernel_rfl⟩
theorem tx95 : Tx Tryz.prog 95 := ⟨Tryz.f95, Tryz.func95, rfl, by kernel_rfl⟩
theorem ht29 : HT Tryz.prog 29 5 := ⟨Tryz.underlying29, Tryz.underlying5, by kernel_rfl, by kernel_rfl, ⟨by kernel_rfl, by kernel_rfl, by kernel_rfl, by kernel_rfl, by decide⟩⟩
theorem tx45 : Tx Tryz.prog 45 := ⟨Tryz.f45, Tryz.func45, rfl, by kernel_rfl⟩
theorem tx147 : Tx Tryz.prog 147 := ⟨Tryz.f147, Tryz.func147, rfl, by kernel_rfl⟩
theorem tx182 : Tx Tryz.prog 182 := ⟨Tryz.f182, Tryz.func182, rfl, by kernel_rfl⟩
theorem tx145 : Tx Tryz.prog 145 := ⟨Tryz.f145, Tryz.func145, rfl, by kernel_rfl⟩
theorem tx180 : Tx Tryz.prog 180 := ⟨Tryz.f180, Tryz.func180, rfl, by kernel_rfl⟩

theorem Num_fn (l : Nat) (n : Int) (k : Nat) (hk : k ≤ 8) (w0 : World) (ro : Hp) (M : Res) : Sx.Fn Tryz.prog 72 #[iv n, .int .i64 (k : Int)] w0 ro M (fun u M1 => M1 = (l, Ow u 5 1 (bys (numB n k))) :: M) := by
  refine Sx.Fn.enter Tryz.func72 rfl rfl ?_
  refine C.seq ?_
  refine C.reg ?_
  refine J.q rfl rfl rfl (V.as rfl) ?_
  refine J.nil ?_
  refine Po.then ?_
  refine C.seq ?_
  refine C.reg ?_
  refine J.q rfl rfl rfl (V.as rfl) ?_
  refine J.nil ?_
  refine Po.then ?_
  refine C.seq ?_
  refine C.seq ?_
  refine C.nilO 5 5 1 ?_
  refine C.reg ?_
  refine J.q rfl rfl rfl (V.as rfl) ?_
  refine J.nil ?_
  refine Po.then ?_
  refine C.block ?_
  refine C.loopP (fun (x : Nat × Value) => x.1 ≤ k) (fun (x : Nat × Value) => [(6, .int .i64 (x.1 : Int)), (5, x.2), (0, iv n), (1, .int .i64 (k : Int))]) (fun (x : Nat × Value) => (5, Ow x.2 5 1 (bys (numB n x.1))) :: M) (fun (x : Nat × Value) => k - x.1) (0, .slice none 0 0) (by first | omega | (dsimp only; omega)) (Sub.cons rfl <| Sub.cons rfl <| Sub.cons rfl <| Sub.cons rfl <| Sub.nil) (MSub.pullE rfl (by rfl) <| MSub.refl) fun x hok => ?_
  obtain ⟨i, w⟩ := x
  dsimp only at hok ⊢
  refine C.seq ?_
  refine C.seq ?_
  refine C.reg ?_
  refine J.q rfl rfl rfl (V.mv rfl) ?_
  refine J.q rfl rfl rfl (V.mv rfl) ?_
  refine J.q rfl rfl rfl (V.lss rfl rfl) ?_
  refine J.nil ?_
  refine Po.then ?_
  refine C.ifd rfl (fun h9 => ?_) (fun h9 => ?_)
  · have hi : i < k := by omega
    refine C.skip ?_
    refine Po.then ?_
    refine C.seq ?_
    refine C.block ?_
    refine C.reg ?_
    refine J.q rfl rfl rfl (V.mv rfl) ?_
    refine J.q rfl rfl rfl (V.mv rfl) ?_
    refine J.q rfl rfl rfl (V.mv rfl) ?_
    refine J.q rfl rfl rfl (V.mul rfl rfl (by omega)) ?_
    refine J.q rfl rfl rfl (V.to (V.cv rfl Tryz.underlying3 Tryz.underlying84) (amt_u64 (by omega) (by omega))) ?_
    refine J.q rfl rfl rfl (V.shr rfl rfl (by simp [IntKind.bits]; omega)) ?_
    refine J.q rfl rfl rfl (V.to (V.cv rfl Tryz.underlying3 Tryz.underlying5) (num_byte n i)) ?_
    refine J.one rfl (JO.bsl (l := 19) rfl el73 rfl rfl rfl Cs.all (by decide) fun v19 => ?_)
    refine J.one rfl (JO.appO (l := 5) (l2 := 19) rfl rfl rfl el73 rfl rfl (by simp [bys_length, numB_length]; omega) (by simp [bys_length, numB_length, maxLen]; omega) fun v20 => ?_)
    refine J.q rfl rfl rfl (V.as rfl) ?_
    refine J.nil ?_
    refine Po.blkN ?_
    refine Po.then ?_
    refine C.reg ?_
    refine J.q rfl rfl rfl (V.mv rfl) ?_
    refine J.q rfl rfl rfl (V.add rfl rfl (by omega)) ?_
    refine J.q rfl rfl rfl (V.as rfl) ?_
    refine J.nil ?_
    exact Po.roundP (i + 1, v20) (by first | omega | (dsimp only; omega)) (Sub.cons rfl <| Sub.cons rfl <| Sub.cons rfl <| Sub.cons rfl <| Sub.nil) (MSub.pullE rfl (by exact num_step n i _) <| MSub.drop <| MSub.refl) (by first | omega | (dsimp only; omega))
  · obtain rfl : i = k := by omega
    refine C.exit ?_
    refine Po.thenX ?_
    refine Po.thenX ?_
    refine Po.blkX ?_
    refine Po.then ?_
    refine C.seq ?_
    refine C.reg ?_
    refine J.q rfl rfl rfl (V.mv rfl) ?_
    refine J.q rfl rfl rfl (V.as rfl) ?_
    refine J.nil ?_
    refine Po.then ?_
    refine C.ret ?_
    exact Po.end1 rfl rfl rfl fun W hI => ⟨_, _, rfl, rfl, (hI.sub (MSub.pullL (l := 5) rfl <| MSub.refl))⟩

theorem Dig_pu (x0 : UInt8) (v : Value) (ps : List (List UInt8)) (w0 : World) (ro : Hp) (M : Res) (hP : PS ro v ps) (hl : (packed ps).length ≤ 1099511627775) : Pu Tryz.prog 45 #[bv x0, v] w0 ro M (hv (hOf x0 ps)) := by
  obtain ⟨rows, hR, hrl, hrow⟩ := hP
  refine Pu.enter Tryz.func45 rfl rfl ?_
  refine C.seq ?_
  refine C.reg ?_
  refine J.one rfl (JO.alloc (l := 4) rfl zr29 fun b4 => ?_)
  refine J.nil ?_
  refine Po.then ?_
  refine C.seq ?_
  refine C.reg ?_
  refine J.q rfl rfl rfl (V.mv rfl) ?_
  refine J.one rfl (JO.bsl (l := 10) rfl el73 rfl rfl rfl Cs.all (by decide) fun v10 => ?_)
  refine J.q rfl rfl rfl (V.as rfl) ?_
  refine J.nil ?_
  refine Po.then ?_
  refine C.seq ?_
  refine C.seq ?_
  refine C.reg ?_
  refine J.q rfl rfl rfl (V.as rfl) ?_
  refine J.nil ?_
  refine Po.then ?_
  refine C.block ?_
  refine C.loopP (fun (x : Nat × Value) => x.1 ≤ ps.length) (fun (x : Nat × Value) => [(6, .int .i64 (x.1 : Int)), (5, x.2), (1, v), (4, .pointer (some ⟨b4, 0, none⟩))]) (fun (x : Nat × Value) => (10, Ow x.2 5 1 (bys (x0 :: packed (ps.take x.1)))) :: (4, St b4 [(8, hv h0)] 29) :: M) (fun (x : Nat × Value) => ps.length - x.1) (0, v10) (by first | omega | (dsimp only; omega)) (Sub.cons rfl <| Sub.cons rfl <| Sub.cons rfl <| Sub.cons rfl <| Sub.nil) (MSub.pullE rfl (by rfl) <| MSub.pull rfl <| MSub.refl) fun x hok => ?_
  obtain ⟨i, w⟩ := x
  dsimp only at hok ⊢
  refine C.seq ?_
  refine C.seq ?_
  refine C.reg ?_
  refine J.q rfl rfl rfl (V.mv rfl) ?_
  refine J.q rfl rfl rfl (V.mv rfl) ?_
  refine J.q rfl rfl rfl (V.to (V.lenR rfl hR Tryz.underlying173) (by rw [hrl])) ?_
  refine J.q rfl rfl rfl (V.lss rfl rfl) ?_
  refine J.nil ?_
  refine Po.then ?_
  refine C.ifd rfl (fun h14 => ?_) (fun h14 => ?_)
  · have hi : i < ps.length := by omega
    obtain ⟨p, hp⟩ : ∃ p, ps[i]? = some p := ⟨_, List.getElem?_eq_getElem hi⟩
    obtain ⟨q, hrq, hq⟩ := hrow i p hp
    have hget : rows[((i : Int)).toNat]? = some [q] := by simpa using hrq
    have hpl := packed_le hp
    have hpn := packed_len ps
    refine C.skip ?_
    refine Po.then ?_
    refine C.seq ?_
    refine C.block ?_
    refine C.draw [6, 7, 12, 13] [0, 1, 2, 3, 4, 5, 8, 9, 10, 11] ((4, St b4 [(8, hv h0)] 29) :: M) mixed (by kernel_rfl) (by kernel_rfl) ?_
    refine DE.q rfl rfl rfl rfl (V.mv rfl) ?_
    refine DE.q rfl rfl rfl rfl (V.mv rfl) ?_
    refine DE.q rfl rfl rfl rfl (V.mv rfl) ?_
    refine DE.q rfl rfl rfl rfl (V.iaR rfl hR rfl sl173 (by omega)) ?_
    refine DE.q rfl rfl rfl rfl (V.ldRs rfl hR hget sc73) ?_
    refine DE.q rfl rfl rfl rfl (V.lenR rfl hq Tryz.underlying73) ?_
    refine DE.q rfl rfl rfl rfl (V.mv rfl) ?_
    refine DE.q rfl rfl rfl rfl (V.mv rfl) ?_
    refine DE.q rfl rfl rfl rfl (V.iaR rfl hR rfl sl173 (by omega)) ?_
    refine DE.q rfl rfl rfl rfl (V.ldRs rfl hR hget sc73) ?_
    refine DE.nil ?_
    refine DT.o (by kernel_rfl) (MSub.drop MSub.refl) rfl rfl fun Kc hKc => ?_
    refine JO.call rfl tx72 rfl (Num_fn 23 _ _ (by decide) _ _ _) ?_
    rintro v23 _ rfl
    refine Kp.ow (l := 23) rfl fun a23 c23 hv23 => ?_
    subst hv23
    refine hKc _ _ _ (Hp.le_refl _) ?_
    clear hKc Kc
    refine DT.o (by kernel_rfl) (MSub.drop <| MSub.drop MSub.refl) rfl rfl fun Kc hKc => ?_
    refine JO.appO (l := 10) (l2 := 23) rfl rfl rfl el73 rfl rfl (by simp [bys_length, numB_length]; omega) (by simp [bys_length, numB_length, maxLen]; omega) fun v24 => (hKc _ _ _ (Hp.le_refl _) ?_)
    clear hKc Kc
    refine DT.o (by kernel_rfl) (MSub.drop <| MSub.drop MSub.refl) rfl rfl fun Kc hKc => ?_
    refine JO.appR (l := 10) rfl rfl rfl el73 rfl (by assumption) (by simp [bys_length, numB_length]; omega) (by simp [bys_length, numB_length, maxLen]; omega) fun v29 => (hKc _ _ _ (Hp.le_refl _) ?_)
    clear hKc Kc
    refine DT.o' (by kernel_rfl) (by kernel_rfl) rfl rfl fun Kc hKc => ?_
    refine JO.q rfl rfl (V.as rfl) (hKc _ _ _ (Hp.le_refl _) ?_)
    clear hKc Kc
    refine DT.nil' (by kernel_rfl) ?_
    refine Po.blkN ?_
    refine Po.then ?_
    refine C.reg ?_
    refine J.q rfl rfl rfl (V.mv rfl) ?_
    refine J.q rfl rfl rfl (V.add rfl rfl (by omega)) ?_
    refine J.q rfl rfl rfl (V.as rfl) ?_
    refine J.nil ?_
    exact Po.roundP (i + 1, v29) (by first | omega | (dsimp only; omega)) (Sub.cons rfl <| Sub.cons rfl <| Sub.cons rfl <| Sub.cons rfl <| Sub.nil) (MSub.pullE rfl (by exact dig_step hp _) <| MSub.pull rfl <| MSub.drop <| MSub.refl) (by first | omega | (dsimp only; omega))
  · obtain rfl : i = ps.length := by omega
    rw [List.take_length]
    refine C.exit ?_
    refine Po.thenX ?_
    refine Po.thenX ?_
    refine Po.blkX ?_
    refine Po.then ?_
    refine C.seq ?_
    refine C.freeze (l := 10) rfl fun k10 hA10 hl10 hr10 => ?_
    have hRx := hA10.rs (ro := Hp.or ro k10) hr10
    refine C.reg ?_
    refine J.q rfl rfl rfl (V.mv rfl) ?_
    refine J.callP rfl tx95 rfl (rSum_pu _ _ _ _ _ hRx (by simp; omega)) ?_ 
    refine J.one rfl (JO.alloc (l := 7) rfl zr174 fun b7 => ?_)
    refine J.one rfl (JO.stS (l := 7) rfl rfl rfl sz174 (by simp [lsz_uni, sha_length]) (by simp [lsz_uni, sha_length]) ?_)
    refine J.nil ?_
    refine Po.then ?_
    refine C.seq ?_
    refine C.reg ?_
    refine J.one rfl (JO.alloc (l := 8) rfl zr29 fun b8 => ?_)
    refine J.nil ?_
    refine Po.then ?_
    refine C.seq ?_
    refine C.drawM [2] [0, 1] mixed (by kernel_rfl) (by kernel_rfl) ?_
    refine DE.q rfl rfl rfl rfl (V.slA (lo := 0) (hi := 8) rfl ar29 rfl rfl (by decide) (by decide) (by decide)) ?_
    refine DE.q rfl rfl rfl rfl (V.slA (lo := 0) (hi := 8) rfl ar174 rfl ⟨_, rfl⟩ (by decide) (by decide) (by decide)) ?_
    refine DE.nil ?_
    refine DT.o (by kernel_rfl) (MSub.refl) rfl rfl fun Kc hKc => ?_
    refine JO.copy (lab := 8) (srcs := ((sha (x0 :: packed ps)).take 8).map bv) (vs' := [(8, hv (hOf x0 ps))]) rfl rfl rfl sl73 rfl (src_box (lab := 7) rfl (fun j u hj => of_src hj)) (ones_bytes _) (by simp [sha_length]) (by simp [sha_length, lsz]) (of_flat _ _) (hKc _ _ _ (Hp.le_refl _) ?_)
    clear hKc Kc
    refine DT.nil' (by kernel_rfl) ?_
    refine Po.then ?_
    refine C.seq ?_
    refine C.reg ?_
    refine J.q rfl rfl rfl (V.ldA (i := 0) 8 rfl rfl ag29 rfl rfl) ?_
    refine J.one rfl (JO.st (i := 0) (l := 4) rfl rfl rfl sz29 rfl rfl ?_)
    refine J.nil ?_
    refine Po.then ?_
    refine C.ret ?_
    exact Po.end1 rfl rfl (RV.cA (l := 4) rfl rfl ag29 rfl) fun W hI => ⟨rfl, hI.drop.drop.drop.unro⟩

theorem rZero_pu (a : Hash) (w0 : World) (ro : Hp) (M : Res) : Pu Tryz.prog 147 #[hv a] w0 ro M (.bool (decide (a = h0))) := by
  refine Pu.enter Tryz.func147 rfl rfl ?_
  refine C.seq ?_
  refine C.reg ?_
  refine J.one rfl (JO.box1 (l := 1) rfl rfl fun b1 => ?_)
  refine J.q rfl rfl rfl (V.as rfl) ?_
  refine J.nil ?_
  refine Po.then ?_
  refine C.seq ?_
  refine C.reg ?_
  refine J.q rfl rfl rfl (V.ldA (i := 0) 1 rfl rfl ag29 rfl rfl) ?_
  refine J.q rfl rfl rfl (V.bldH0 rfl ar29 zr29) ?_
  refine J.q rfl rfl rfl (V.eqlH rfl rfl ht29) ?_
  refine J.q rfl rfl rfl (V.as rfl) ?_
  refine J.nil ?_
  refine Po.then ?_
  refine C.ret ?_
  exact Po.end1 rfl rfl rfl fun W hI => ⟨rfl, hI.drop⟩

theorem Zero_pu (a : Hash) (w0 : World) (ro : Hp) (M : Res) : Pu Tryz.prog 145 #[hv a] w0 ro M (.bool (decide (a = h0))) := by
  refine Pu.enter Tryz.func145 rfl rfl ?_
  refine C.seq ?_
  refine C.reg ?_
  refine J.one rfl (JO.box1 (l := 1) rfl rfl fun b1 => ?_)
  refine J.q rfl rfl rfl (V.as rfl) ?_
  refine J.nil ?_
  refine Po.then ?_
  refine C.seq ?_
  refine C.reg ?_
  refine J.q rfl rfl rfl (V.ldA (i := 0) 1 rfl rfl ag29 rfl rfl) ?_
  refine J.q rfl rfl rfl (V.bldH0 rfl ar29 zr29) ?_
  refine J.q rfl rfl rfl (V.eqlH rfl rfl ht29) ?_
  refine J.q rfl rfl rfl (V.as rfl) ?_
  refine J.nil ?_
  refine Po.then ?_
  refine C.ret ?_
  exact Po.end1 rfl rfl rfl fun W hI => ⟨rfl, hI.drop⟩

theorem rTwo_pu (x : UInt8) (a b : Hash) (w0 : World) (ro : Hp) (M : Res) : Pu Tryz.prog 182 #[bv x, hv a, hv b] w0 ro M (hv (two x a b)) := by
  refine Pu.enter Tryz.func182 rfl rfl ?_
  refine C.seq ?_
  refine C.reg ?_
  refine J.one rfl (JO.box1 (l := 4) rfl rfl fun b4 => ?_)
  refine J.one rfl (JO.box1 (l := 5) rfl rfl fun b5 => ?_)
  refine J.one rfl (JO.alloc (l := 6) rfl zr29 fun b6 => ?_)
  refine J.nil ?_
  refine Po.then ?_
  refine C.seq ?_
  refine C.drawM [3, 4, 5] [0, 1, 2] mixed (by kernel_rfl) (by kernel_rfl) ?_
  refine DE.q rfl rfl rfl rfl (V.mv rfl) ?_
  refine DE.q rfl rfl rfl rfl (V.slA (lo := 0) (hi := 8) rfl ar29 rfl rfl (by decide) (by decide) (by decide)) ?_
  refine DE.q rfl rfl rfl rfl (V.slA (lo := 0) (hi := 8) rfl ar29 rfl rfl (by decide) (by decide) (by decide)) ?_
  refine DE.nil ?_
  refine DT.o (by kernel_rfl) (MSub.refl) rfl rfl fun Kc hKc => ?_
  refine JO.bsl (l := 10) rfl el173 rfl rfl rfl Cs.all (by decide) fun v10 => (hKc _ _ _ (Hp.le_refl _) ?_)
  clear hKc Kc
  refine DT.o (by kernel_rfl) (MSub.drop MSub.refl) rfl rfl fun Kc hKc => ?_
  refine JO.callP rfl tx45 rfl (Pu.lend (l := 4) rfl fun k4 hA4 hl4 hr4 => Pu.lend (l := 5) rfl fun k5 hA5 hl5 hr5 => Pu.lend (l := 10) rfl fun k10 hA10 hl10 hr10 => Dig_pu _ _ _ _ _ _ (ps_two (hA10.rs hr10) (((rs_hash (st_ro hA4 hr4)).mono hl5).mono hl10) ((rs_hash (st_ro hA5 hr5)).mono hl10)) (by simp [packed, le4])) (hKc _ _ _ (Hp.le_refl _) ?_)
  clear hKc Kc
  refine DT.o' (by kernel_rfl) (by kernel_rfl) rfl rfl fun Kc hKc => ?_
  refine JO.st (i := 0) (l := 6) rfl rfl rfl sz29 rfl rfl (hKc _ _ _ (Hp.le_refl _) ?_)
  clear hKc Kc
  refine DT.nil' (by kernel_rfl) ?_
  refine Po.then ?_
  refine C.ret ?_
  exact Po.end1 rfl rfl (RV.cA (l := 6) rfl rfl ag29 rfl) fun W hI => ⟨rfl, hI.drop.drop.drop.drop⟩

theorem rover_pu (a b : Hash) (w0 : World) (ro : Hp) (M : Res) : Pu Tryz.prog 148 #[hv a, hv b] w0 ro M (hv (over a b)) := by
  refine Pu.enter Tryz.func148 rfl rfl ?_
  refine C.seq ?_
  refine C.reg ?_
  refine J.one rfl (JO.box1 (l := 2) rfl rfl fun b2 => ?_)
  refine J.one rfl (JO.box1 (l := 3) rfl rfl fun b3 => ?_)
  refine J.one rfl (JO.alloc (l := 4) rfl zr29 fun b4 => ?_)
  refine J.nil ?_
  refine Po.then ?_
  refine C.seq ?_
  refine C.seq ?_
  refine C.reg ?_
  refine J.q rfl rfl rfl (V.ldA (i := 0) 2 rfl rfl ag29 rfl rfl) ?_
  refine J.callP rfl tx147 rfl (rZero_pu _ _ _ _) ?_ 
  refine J.mvB rfl rfl fun gb7 hgb7 => ?_
  refine J.gv rfl rfl rfl rfl rfl rfl (fun hg => by subst hg; exact V.ldA (i := 0) 3 rfl rfl ag29 rfl rfl) ?_
  refine J.gcv rfl rfl rfl rfl tx147 (fun hg => by subst hg; rfl) (fun hg => by subst hg; exact rZero_pu _ _ _ _) ?_
  refine J.q rfl rfl rfl (V.and rfl rfl rfl) ?_
  refine J.nil ?_
  refine Po.then ?_
  refine C.ite rfl (fun h10 => ?_) (fun h10 => ?_)
  · subst hgb7
    try simp only [Bool.and_eq_true, Bool.or_eq_true, Bool.and_eq_false_iff, Bool.or_eq_false_iff, Bool.not_eq_true', Bool.not_eq_false', decide_eq_true_eq, decide_eq_false_iff_not] at h10
    rw [over, if_pos h10]
    refine C.seq ?_
    refine C.reg ?_
    refine J.q rfl rfl rfl (V.bldH0 rfl ar29 zr29) ?_
    refine J.one rfl (JO.st (i := 0) (l := 4) rfl rfl rfl sz29 rfl rfl ?_)
    refine J.nil ?_
    refine Po.then ?_
    refine C.ret ?_
    refine Po.thenR ?_
    exact Po.end1 rfl rfl (RV.cA (l := 4) rfl rfl ag29 rfl) fun W hI => ⟨rfl, hI.drop.drop.drop⟩
  · subst hgb7
    try simp only [Bool.and_eq_true, Bool.or_eq_true, Bool.and_eq_false_iff, Bool.or_eq_false_iff, Bool.not_eq_true', Bool.not_eq_false', decide_eq_true_eq, decide_eq_false_iff_not] at h10
    rw [over, if_neg (fun hh => by simp [hh.1, hh.2] at h10)]
    refine C.skip ?_
    refine Po.then ?_
    refine C.seq ?_
    refine C.reg ?_
    refine J.q rfl rfl rfl (V.ldA (i := 0) 2 rfl rfl ag29 rfl rfl) ?_
    refine J.q rfl rfl rfl (V.ldA (i := 0) 3 rfl rfl ag29 rfl rfl) ?_
    refine J.callP rfl tx182 rfl (rTwo_pu 110 _ _ _ _ _) ?_ 
    refine J.one rfl (JO.st (i := 0) (l := 4) rfl rfl rfl sz29 rfl rfl ?_)
    refine J.nil ?_
    refine Po.then ?_
    refine C.ret ?_
    exact Po.end1 rfl rfl (RV.cA (l := 4) rfl rfl ag29 rfl) fun W hI => ⟨rfl, hI.drop.drop.drop⟩

theorem over_pu (a b : Hash) (w0 : World) (ro : Hp) (M : Res) (hK : RoK ro) : Pu Tryz.prog 143 #[hv a, hv b] w0 ro M (hv (over a b)) := by
  refine Pu.enter Tryz.func143 rfl rfl ?_
  refine C.seq ?_
  refine C.reg ?_
  refine J.one rfl (JO.box1 (l := 2) rfl rfl fun b2 => ?_)
  refine J.one rfl (JO.box1 (l := 3) rfl rfl fun b3 => ?_)
  refine J.one rfl (JO.alloc (l := 4) rfl zr29 fun b4 => ?_)
  refine J.nil ?_
  refine Po.then ?_
  refine C.seq ?_
  refine C.seq ?_
  refine C.reg ?_
  refine J.q rfl rfl rfl (V.ldA (i := 0) 2 rfl rfl ag29 rfl rfl) ?_
  refine J.callP rfl tx145 rfl (Zero_pu _ _ _ _) ?_ 
  refine J.mvB rfl rfl fun gb7 hgb7 => ?_
  refine J.gv rfl rfl rfl rfl rfl rfl (fun hg => by subst hg; exact V.ldA (i := 0) 3 rfl rfl ag29 rfl rfl) ?_
  refine J.gcv rfl rfl rfl rfl tx145 (fun hg => by subst hg; rfl) (fun hg => by subst hg; exact Zero_pu _ _ _ _) ?_
  refine J.q rfl rfl rfl (V.and rfl rfl rfl) ?_
  refine J.nil ?_
  refine Po.then ?_
  refine C.ite rfl (fun h10 => ?_) (fun h10 => ?_)
  · subst hgb7
    try simp only [Bool.and_eq_true, Bool.or_eq_true, Bool.and_eq_false_iff, Bool.or_eq_false_iff, Bool.not_eq_true', Bool.not_eq_false', decide_eq_true_eq, decide_eq_false_iff_not] at h10
    rw [over, if_pos h10]
    refine C.seq ?_
    refine C.reg ?_
    refine J.q rfl rfl rfl (V.bldH0 rfl ar29 zr29) ?_
    refine J.one rfl (JO.st (i := 0) (l := 4) rfl rfl rfl sz29 rfl rfl ?_)
    refine J.nil ?_
    refine Po.then ?_
    refine C.ret ?_
    refine Po.thenR ?_
    exact Po.end1 rfl rfl (RV.cA (l := 4) rfl rfl ag29 rfl) fun W hI => ⟨rfl, hI.drop.drop.drop⟩
  · subst hgb7
    try simp only [Bool.and_eq_true, Bool.or_eq_true, Bool.and_eq_false_iff, Bool.or_eq_false_iff, Bool.not_eq_true', Bool.not_eq_false', decide_eq_true_eq, decide_eq_false_iff_not] at h10
    rw [over, if_neg (fun hh => by simp [hh.1, hh.2] at h10)]
    refine C.skip ?_
    refine Po.then ?_
    refine C.seq ?_
    refine C.reg ?_
    refine J.q rfl rfl rfl (V.ldA (i := 0) 2 rfl rfl ag29 rfl rfl) ?_
    refine J.q rfl rfl rfl (V.ldA (i := 0) 3 rfl rfl ag29 rfl rfl) ?_
    refine J.callP rfl tx180 rfl (Two_pu 110 _ _ _ _ _ hK) ?_ 
    refine J.one rfl (JO.st (i := 0) (l := 4) rfl rfl rfl sz29 rfl rfl ?_)
    refine J.nil ?_
    refine Po.then ?_
    refine C.ret ?_
    exact Po.end1 rfl rfl (RV.cA (l := 4) rfl rfl ag29 rfl) fun W hI => ⟨rfl, hI.drop.drop.drop⟩

theorem in_pu (i : Int) (w0 : World) (ro : Hp) (M : Res) : Pu Tryz.prog 142 #[iv i] w0 ro M (.bool (decide (0 ≤ i) && decide (i < 65536))) := by
  refine Pu.enter Tryz.func142 rfl rfl ?_
  refine C.seq ?_
  refine C.reg ?_
  refine J.q rfl rfl rfl (V.as rfl) ?_
  refine J.nil ?_
  refine Po.then ?_
  refine C.seq ?_
  refine C.reg ?_
  refine J.q rfl rfl rfl (V.mv rfl) ?_
  refine J.q rfl rfl rfl (V.geq rfl rfl) ?_
  refine J.mvB rfl rfl fun gb5 hgb5 => ?_
  refine J.gv rfl rfl rfl rfl rfl rfl (fun hg => by subst hg; exact V.mv rfl) ?_
  refine J.gv rfl rfl rfl rfl rfl rfl (fun hg => by subst hg; exact V.lss rfl rfl) ?_
  refine J.q rfl rfl rfl (V.and rfl rfl rfl) ?_
  refine J.q rfl rfl rfl (V.as rfl) ?_
  refine J.nil ?_
  refine Po.then ?_
  refine C.ret ?_
  subst hgb5
  exact Po.end1 rfl rfl rfl fun W hI => ⟨rfl, hI⟩
end Go.Proofs
namespace Go.Proofs
open Go Go.Sx Go.Db
set_option maxRecDepth 100000
theorem fo31_0 : Fo Tryz.prog 31 0 0 := ⟨_, _, 7, Tryz.underlying31, rfl, rfl, by kernel_rfl⟩
theorem fo31_1 : Fo Tryz.prog 31 1 8 := ⟨_, _, 0, Tryz.underlying31, rfl, rfl, by kernel_rfl⟩
theorem sc3 : Sc Tryz.prog 3 := ⟨⟨_, Tryz.underlying3, rfl⟩, by kernel_rfl⟩
theorem fo31_2 : Fo Tryz.prog 31 2 9 := ⟨_, _, 0, Tryz.underlying31, rfl, rfl, by kernel_rfl⟩
theorem tx144 : Tx Tryz.prog 144 := ⟨Tryz.f144, Tryz.func144, rfl, by kernel_rfl⟩

theorem rLeaf_pu (i : Int) (a : Acct) (w0 : World) (ro : Hp) (M : Res) : Pu Tryz.prog 88 #[iv i, ag a.lv] w0 ro M (hv (leafOf i a)) := by
  refine Pu.enter Tryz.func88 rfl rfl ?_
  refine C.seq ?_
  refine C.reg ?_
  refine J.one rfl (JO.boxS (l := 3) rfl rfl fun b3 => ?_)
  refine J.one rfl (JO.alloc (l := 4) rfl zr29 fun b4 => ?_)
  refine J.nil ?_
  refine Po.then ?_
  refine C.seq ?_
  refine C.seq ?_
  refine C.reg ?_
  refine J.q rfl rfl rfl (V.fa rfl fo31_0) ?_
  refine J.q rfl rfl rfl (V.ldA (i := 0) 3 rfl rfl ag29 rfl rfl) ?_
  refine J.callP rfl tx147 rfl (rZero_pu _ _ _ _) ?_ 
  refine J.mvB rfl rfl fun gb8 hgb8 => ?_
  refine J.gv rfl rfl rfl rfl rfl rfl (fun hg => by subst hg; exact V.mv rfl) ?_
  refine J.gv rfl rfl rfl rfl rfl rfl (fun hg => by subst hg; exact V.lss rfl rfl) ?_
  refine J.q rfl rfl rfl (V.or rfl rfl rfl) ?_
  refine J.mvB rfl rfl fun gb12 hgb12 => ?_
  refine J.gv rfl rfl rfl rfl rfl rfl (fun hg => by subst hg; exact V.mv rfl) ?_
  refine J.gv rfl rfl rfl rfl rfl rfl (fun hg => by subst hg; exact V.gtr rfl rfl) ?_
  refine J.q rfl rfl rfl (V.or rfl rfl rfl) ?_
  refine J.mvB rfl rfl fun gb16 hgb16 => ?_
  refine J.gv rfl rfl rfl rfl rfl rfl (fun hg => by subst hg; exact V.fa rfl fo31_1) ?_
  refine J.gv rfl rfl rfl rfl rfl rfl (fun hg => by subst hg; exact V.ldS (i := 1) 3 rfl rfl sc3 rfl rfl rfl) ?_
  refine J.gv rfl rfl rfl rfl rfl rfl (fun hg => by subst hg; exact V.lss rfl rfl) ?_
  refine J.q rfl rfl rfl (V.or rfl rfl rfl) ?_
  refine J.mvB rfl rfl fun gb21 hgb21 => ?_
  refine J.gv rfl rfl rfl rfl rfl rfl (fun hg => by subst hg; exact V.fa rfl fo31_1) ?_
  refine J.gv rfl rfl rfl rfl rfl rfl (fun hg => by subst hg; exact V.ldS (i := 1) 3 rfl rfl sc3 rfl rfl rfl) ?_
  refine J.gv rfl rfl rfl rfl rfl rfl (fun hg => by subst hg; exact V.geq rfl rfl) ?_
  refine J.q rfl rfl rfl (V.or rfl rfl rfl) ?_
  refine J.mvB rfl rfl fun gb26 hgb26 => ?_
  refine J.gv rfl rfl rfl rfl rfl rfl (fun hg => by subst hg; exact V.fa rfl fo31_2) ?_
  refine J.gv rfl rfl rfl rfl rfl rfl (fun hg => by subst hg; exact V.ldS (i := 2) 3 rfl rfl sc3 rfl rfl rfl) ?_
  refine J.gv rfl rfl rfl rfl rfl rfl (fun hg => by subst hg; exact V.lss rfl rfl) ?_
  refine J.q rfl rfl rfl (V.or rfl rfl rfl) ?_
  refine J.mvB rfl rfl fun gb31 hgb31 => ?_
  refine J.gv rfl rfl rfl rfl rfl rfl (fun hg => by subst hg; exact V.fa rfl fo31_2) ?_
  refine J.gv rfl rfl rfl rfl rfl rfl (fun hg => by subst hg; exact V.ldS (i := 2) 3 rfl rfl sc3 rfl rfl rfl) ?_
  refine J.gv rfl rfl rfl rfl rfl rfl (fun hg => by subst hg; exact V.gtr rfl rfl) ?_
  refine J.q rfl rfl rfl (V.or rfl rfl rfl) ?_
  refine J.nil ?_
  refine Po.then ?_
  refine C.ite rfl (fun h35 => ?_) (fun h35 => ?_)
  · subst hgb8 hgb12 hgb16 hgb21 hgb26 hgb31
    try simp only [Bool.and_eq_true, Bool.or_eq_true, Bool.and_eq_false_iff, Bool.or_eq_false_iff, Bool.not_eq_true', Bool.not_eq_false', decide_eq_true_eq, decide_eq_false_iff_not] at h35
    have hbad : badAcct i a := by
      simpa [badAcct, or_assoc] using h35
    rw [leaf_bad hbad]
    refine C.seq ?_
    refine C.reg ?_
    refine J.q rfl rfl rfl (V.bldH0 rfl ar29 zr29) ?_
    refine J.one rfl (JO.st (i := 0) (l := 4) rfl rfl rfl sz29 rfl rfl ?_)
    refine J.nil ?_
    refine Po.then ?_
    refine C.ret ?_
    refine Po.thenR ?_
    exact Po.end1 rfl rfl (RV.cA (l := 4) rfl rfl ag29 rfl) fun W hI => ⟨rfl, hI.drop.drop⟩
  · subst hgb8 hgb12 hgb16 hgb21 hgb26 hgb31
    try simp only [Bool.and_eq_true, Bool.or_eq_true, Bool.and_eq_false_iff, Bool.or_eq_false_iff, Bool.not_eq_true', Bool.not_eq_false', decide_eq_true_eq, decide_eq_false_iff_not] at h35
    have hgood : ¬ badAcct i a := by
      simpa [badAcct, and_assoc] using h35
    rw [leaf_good hgood]
    refine C.skip ?_
    refine Po.then ?_
    refine C.seq ?_
    refine C.drawM [1, 6, 9, 10, 11, 12] [0, 2, 3, 4, 5, 7, 8] mixed (by kernel_rfl) (by kernel_rfl) ?_
    refine DE.q rfl rfl rfl rfl (V.mv rfl) ?_
    refine DE.q rfl rfl rfl rfl (V.fa rfl fo31_0) ?_
    refine DE.q rfl rfl rfl rfl (V.slA (lo := 0) (hi := 8) rfl ar29 rfl rfl (by decide) (by decide) (by decide)) ?_
    refine DE.q rfl rfl rfl rfl (V.fa rfl fo31_1) ?_
    refine DE.q rfl rfl rfl rfl (V.ldS (i := 1) 3 rfl rfl sc3 rfl rfl rfl) ?_
    refine DE.q rfl rfl rfl rfl (V.fa rfl fo31_2) ?_
    refine DE.q rfl rfl rfl rfl (V.ldS (i := 2) 3 rfl rfl sc3 rfl rfl rfl) ?_
    refine DE.nil ?_
    refine DT.o (by kernel_rfl) (MSub.refl) rfl rfl fun Kc hKc => ?_
    refine JO.call rfl tx72 rfl (Num_fn 38 _ _ (by decide) _ _ _) ?_
    rintro v38 _ rfl
    refine Kp.ow (l := 38) rfl fun a38 c38 hv38 => ?_
    subst hv38
    refine hKc _ _ _ (Hp.le_refl _) ?_
    clear hKc Kc
    refine DT.o (by kernel_rfl) (MSub.drop MSub.refl) rfl rfl fun Kc hKc => ?_
    refine JO.call rfl tx72 rfl (Num_fn 43 _ _ (by decide) _ _ _) ?_
    rintro v43 _ rfl
    refine Kp.ow (l := 43) rfl fun a43 c43 hv43 => ?_
    subst hv43
    refine hKc _ _ _ (Hp.le_refl _) ?_
    clear hKc Kc
    refine DT.o (by kernel_rfl) (MSub.drop <| MSub.drop MSub.refl) rfl rfl fun Kc hKc => ?_
    refine JO.call rfl tx72 rfl (Num_fn 46 _ _ (by decide) _ _ _) ?_
    rintro v46 _ rfl
    refine Kp.ow (l := 46) rfl fun a46 c46 hv46 => ?_
    subst hv46
    refine hKc _ _ _ (Hp.le_refl _) ?_
    clear hKc Kc
    refine DT.o (by kernel_rfl) (MSub.drop <| MSub.drop <| MSub.drop MSub.refl) rfl rfl fun Kc hKc => ?_
    refine JO.bsl (l := 47) rfl el173 rfl rfl rfl Cs.all (by decide) fun v47 => (hKc _ _ _ (Hp.le_refl _) ?_)
    clear hKc Kc
    refine DT.o' (by kernel_rfl) (by kernel_rfl) rfl rfl fun Kc hKc => ?_
    refine JO.callP rfl tx45 rfl (Pu.lend (l := 38) rfl fun k38 hA38 hl38 hr38 => Pu.lend (l := 43) rfl fun k43 hA43 hl43 hr43 => Pu.lend (l := 46) rfl fun k46 hA46 hl46 hr46 => Pu.lend (l := 3) rfl fun k3 hA3 hl3 hr3 => Pu.lend (l := 47) rfl fun k47 hA47 hl47 hr47 => Dig_pu 97 _ [numB i 2, a.owner.toList, numB a.amount 7, numB a.nonce 1] _ _ _ (PS.of (qs := [_, _, _, _]) ((hA47.rs hr47)) ⟨(((((hA38.rs hr38).mono hl43).mono hl46).mono hl3).mono hl47), ((rs_leaf (i := 0) (off := 0 + 0) (Bx.of hA3 hr3) rfl rfl).mono hl47), ((((hA43.rs hr43).mono hl46).mono hl3).mono hl47), (((hA46.rs hr46).mono hl3).mono hl47), trivial⟩) (leaf_packed _ _)) (hKc _ _ _ (Hp.le_refl _) ?_)
    clear hKc Kc
    refine DT.o' (by kernel_rfl) (by kernel_rfl) rfl rfl fun Kc hKc => ?_
    refine JO.st (i := 0) (l := 4) rfl rfl rfl sz29 rfl rfl (hKc _ _ _ (Hp.le_refl _) ?_)
    clear hKc Kc
    refine DT.nil' (by kernel_rfl) ?_
    refine Po.then ?_
    refine C.ret ?_
    exact Po.end1 rfl rfl (RV.cA (l := 4) rfl rfl ag29 rfl) fun W hI => ⟨rfl, hI.drop.drop.drop.drop.drop.drop⟩

theorem number_fn (l : Nat) (n : Int) (k : Nat) (hk : k ≤ 7) (w0 : World) (ro : Hp) (M : Res) : Sx.Fn Tryz.prog 144 #[iv n, .int .i64 (k : Int)] w0 ro M (fun u M1 => ∃ v, u = .tuple #[v, .bool (decide (0 ≤ n ∧ n < 2 ^ (8 * k)))] ∧ M1 = (l, Ow v 5 1 (bys (numB n k))) :: M) := by
  refine Sx.Fn.enter Tryz.func144 rfl rfl ?_
  refine C.seq ?_
  refine C.reg ?_
  refine J.q rfl rfl rfl (V.as rfl) ?_
  refine J.q rfl rfl rfl (V.as rfl) ?_
  refine J.nil ?_
  refine Po.then ?_
  refine C.seq ?_
  refine C.reg ?_
  refine J.q rfl rfl rfl (V.as rfl) ?_
  refine J.nil ?_
  refine Po.then ?_
  refine C.seq ?_
  refine C.seq ?_
  refine C.nilO 6 5 1 ?_
  refine C.reg ?_
  refine J.q rfl rfl rfl (V.mv rfl) ?_
  refine J.q rfl rfl rfl (V.mv rfl) ?_
  refine J.nil ?_
  refine Po.then ?_
  refine C.block ?_
  refine C.loopP (fun (x : Nat × Value) => x.1 ≤ k) (fun (x : Nat × Value) => [(9, .int .i64 (x.1 : Int)), (8, .int .i64 (k : Int)), (6, x.2), (0, iv n), (1, .int .i64 (k : Int))]) (fun (x : Nat × Value) => (6, Ow x.2 5 1 (bys (numB n x.1))) :: M) (fun (x : Nat × Value) => k - x.1) (0, .slice none 0 0) (by first | omega | (dsimp only; omega)) (Sub.cons rfl <| Sub.cons rfl <| Sub.cons rfl <| Sub.cons rfl <| Sub.cons rfl <| Sub.nil) (MSub.pullE rfl (by rfl) <| MSub.refl) fun x hok => ?_
  obtain ⟨i, w⟩ := x
  dsimp only at hok ⊢
  refine C.seq ?_
  refine C.reg ?_
  refine J.q rfl rfl rfl (V.lss rfl rfl) ?_
  refine J.nil ?_
  refine Po.then ?_
  refine C.seq ?_
  refine C.ifd rfl (fun h10 => ?_) (fun h10 => ?_)
  · have hi : i < k := by omega
    refine C.skip ?_
    refine Po.then ?_
    refine C.seq ?_
    refine C.block ?_
    refine C.seq ?_
    refine C.reg ?_
    refine J.q rfl rfl rfl (V.mv rfl) ?_
    refine J.q rfl rfl rfl (V.as rfl) ?_
    refine J.nil ?_
    refine Po.then ?_
    refine C.reg ?_
    refine J.q rfl rfl rfl (V.mv rfl) ?_
    refine J.q rfl rfl rfl (V.mv rfl) ?_
    refine J.q rfl rfl rfl (V.mv rfl) ?_
    refine J.q rfl rfl rfl (V.mul rfl rfl (by omega)) ?_
    refine J.q rfl rfl rfl (V.shr rfl rfl (by simp [IntKind.bits]; omega)) ?_
    refine J.q rfl rfl rfl (V.to (V.cv rfl Tryz.underlying3 Tryz.underlying5) (num_byte n i)) ?_
    refine J.one rfl (JO.bsl (l := 18) rfl el73 rfl rfl rfl Cs.all (by decide) fun v18 => ?_)
    refine J.one rfl (JO.appO (l := 6) (l2 := 18) rfl rfl rfl el73 rfl rfl (by simp [bys_length, numB_length]; omega) (by simp [bys_length, numB_length, maxLen]; omega) fun v19 => ?_)
    refine J.q rfl rfl rfl (V.as rfl) ?_
    refine J.nil ?_
    refine Po.blkN ?_
    refine Po.then ?_
    refine C.reg ?_
    refine J.q rfl rfl rfl (V.add rfl rfl (by omega)) ?_
    refine J.q rfl rfl rfl (V.mv rfl) ?_
    refine J.nil ?_
    exact Po.roundP (i + 1, v19) (by first | omega | (dsimp only; omega)) (Sub.cons rfl <| Sub.cons rfl <| Sub.cons rfl <| Sub.cons rfl <| Sub.cons rfl <| Sub.nil) (MSub.pullE rfl (by exact num_step n i _) <| MSub.drop <| MSub.refl) (by first | omega | (dsimp only; omega))
  · obtain rfl : i = k := by omega
    refine C.exit ?_
    refine Po.thenX ?_
    refine Po.thenX ?_
    refine Po.blkX ?_
    refine Po.then ?_
    refine C.seq ?_
    refine C.drawM [] [0, 1, 2, 3, 4, 5, 6, 7, 8, 9, 10, 11] mixed (by kernel_rfl) (by kernel_rfl) ?_
    refine DE.q rfl rfl rfl rfl (V.mv rfl) ?_
    refine DE.q rfl rfl rfl rfl (V.mv rfl) ?_
    refine DE.q rfl rfl rfl rfl (V.geq rfl rfl) ?_
    refine DE.mvB rfl rfl rfl rfl rfl fun gb24 hgb24 => ?_
    refine DE.gv rfl rfl rfl rfl rfl rfl rfl (fun hg => by subst hg; exact V.mv rfl) ?_
    refine DE.gv rfl rfl rfl rfl rfl rfl rfl (fun hg => by subst hg; exact V.mv rfl) ?_
    refine DE.gv rfl rfl rfl rfl rfl rfl rfl (fun hg => by subst hg; exact V.mul rfl rfl (by omega)) ?_
    refine DE.gv rfl rfl rfl rfl rfl rfl rfl (fun hg => by subst hg; exact V.shr rfl rfl (by simp [IntKind.bits]; omega)) ?_
    refine DE.gv rfl rfl rfl rfl rfl rfl rfl (fun hg => by subst hg; exact V.eql rfl rfl) ?_
    refine DE.q rfl rfl rfl rfl (V.to (V.and rfl rfl rfl) (by subst hgb24; exact congrArg _ (fitB_iff n i))) ?_
    refine DE.q rfl rfl rfl rfl (V.as rfl) ?_
    refine DE.q rfl rfl rfl rfl (V.as rfl) ?_
    refine DE.nil ?_
    refine DT.nil (MSub.refl) ?_
    refine Po.then ?_
    refine C.ret ?_
    exact Po.end2 rfl rfl rfl rfl fun W hI => ⟨_, _, rfl, ⟨_, rfl, rfl⟩, (hI.sub (MSub.pullL (l := 6) rfl <| MSub.refl))⟩

theorem Leaf_pu (i : Int) (a : Acct) (w0 : World) (ro : Hp) (M : Res) (hK : RoK ro) : Pu Tryz.prog 85 #[iv i, ag a.lv] w0 ro M (hv (leafOf i a)) := by
  refine Pu.enter Tryz.func85 rfl rfl ?_
  refine C.seq ?_
  refine C.reg ?_
  refine J.one rfl (JO.boxS (l := 3) rfl rfl fun b3 => ?_)
  refine J.one rfl (JO.alloc (l := 4) rfl zr29 fun b4 => ?_)
  refine J.nil ?_
  refine Po.then ?_
  refine C.seq ?_
  refine C.reg ?_
  refine J.q rfl rfl rfl (V.mv rfl) ?_
  refine J.call rfl tx144 rfl (number_fn 13 _ _ (by decide) _ _ _) ?_ 
  rintro _ _ ⟨v13, rfl, rfl⟩
  refine Kp.ow (l := 13) rfl fun a13 c13 hv13 => ?_
  subst hv13
  refine J.q rfl rfl rfl (V.mv rfl) ?_
  refine J.q rfl rfl rfl (V.ex rfl rfl) ?_
  refine J.q rfl rfl rfl (V.ex rfl rfl) ?_
  refine J.q rfl rfl rfl (V.as rfl) ?_
  refine J.q rfl rfl rfl (V.as rfl) ?_
  refine J.nil ?_
  refine Po.then ?_
  refine C.seq ?_
  refine C.reg ?_
  refine J.q rfl rfl rfl (V.fa rfl fo31_1) ?_
  refine J.q rfl rfl rfl (V.ldS (i := 1) 3 rfl rfl sc3 rfl rfl rfl) ?_
  refine J.call rfl tx144 rfl (number_fn 19 _ _ (by decide) _ _ _) ?_ 
  rintro _ _ ⟨v19, rfl, rfl⟩
  refine Kp.ow (l := 19) rfl fun a19 c19 hv19 => ?_
  subst hv19
  refine J.q rfl rfl rfl (V.mv rfl) ?_
  refine J.q rfl rfl rfl (V.ex rfl rfl) ?_
  refine J.q rfl rfl rfl (V.ex rfl rfl) ?_
  refine J.q rfl rfl rfl (V.as rfl) ?_
  refine J.q rfl rfl rfl (V.as rfl) ?_
  refine J.nil ?_
  refine Po.then ?_
  refine C.seq ?_
  refine C.reg ?_
  refine J.q rfl rfl rfl (V.fa rfl fo31_2) ?_
  refine J.q rfl rfl rfl (V.ldS (i := 2) 3 rfl rfl sc3 rfl rfl rfl) ?_
  refine J.call rfl tx144 rfl (number_fn 25 _ _ (by decide) _ _ _) ?_ 
  rintro _ _ ⟨v25, rfl, rfl⟩
  refine Kp.ow (l := 25) rfl fun a25 c25 hv25 => ?_
  subst hv25
  refine J.q rfl rfl rfl (V.mv rfl) ?_
  refine J.q rfl rfl rfl (V.ex rfl rfl) ?_
  refine J.q rfl rfl rfl (V.ex rfl rfl) ?_
  refine J.q rfl rfl rfl (V.as rfl) ?_
  refine J.q rfl rfl rfl (V.as rfl) ?_
  refine J.nil ?_
  refine Po.then ?_
  refine C.seq ?_
  refine C.seq ?_
  refine C.reg ?_
  refine J.q rfl rfl rfl (V.fa rfl fo31_0) ?_
  refine J.q rfl rfl rfl (V.ldA (i := 0) 3 rfl rfl ag29 rfl rfl) ?_
  refine J.callP rfl tx145 rfl (Zero_pu _ _ _ _) ?_ 
  refine J.mvB rfl rfl fun gb31 hgb31 => ?_
  refine J.gv rfl rfl rfl rfl rfl rfl (fun hg => by subst hg; exact V.mv rfl) ?_
  refine J.gv rfl rfl rfl rfl rfl rfl (fun hg => by subst hg; exact V.no rfl) ?_
  refine J.q rfl rfl rfl (V.or rfl rfl rfl) ?_
  refine J.mvB rfl rfl fun gb35 hgb35 => ?_
  refine J.gv rfl rfl rfl rfl rfl rfl (fun hg => by subst hg; exact V.mv rfl) ?_
  refine J.gv rfl rfl rfl rfl rfl rfl (fun hg => by subst hg; exact V.no rfl) ?_
  refine J.q rfl rfl rfl (V.or rfl rfl rfl) ?_
  refine J.mvB rfl rfl fun gb39 hgb39 => ?_
  refine J.gv rfl rfl rfl rfl rfl rfl (fun hg => by subst hg; exact V.mv rfl) ?_
  refine J.gv rfl rfl rfl rfl rfl rfl (fun hg => by subst hg; exact V.no rfl) ?_
  refine J.q rfl rfl rfl (V.or rfl rfl rfl) ?_
  refine J.nil ?_
  refine Po.then ?_
  refine C.ite rfl (fun h42 => ?_) (fun h42 => ?_)
  · subst hgb31 hgb35 hgb39
    try simp only [Bool.and_eq_true, Bool.or_eq_true, Bool.and_eq_false_iff, Bool.or_eq_false_iff, Bool.not_eq_true', Bool.not_eq_false', decide_eq_true_eq, decide_eq_false_iff_not] at h42
    have hbad : badAcct i a := by
      by_cases hz : a.owner = h0
      · exact .inl hz
      · right; simp [hz] at h42; omega
    rw [leaf_bad hbad]
    refine C.seq ?_
    refine C.reg ?_
    refine J.q rfl rfl rfl (V.bldH0 rfl ar29 zr29) ?_
    refine J.one rfl (JO.st (i := 0) (l := 4) rfl rfl rfl sz29 rfl rfl ?_)
    refine J.nil ?_
    refine Po.then ?_
    refine C.ret ?_
    refine Po.thenR ?_
    exact Po.end1 rfl rfl (RV.cA (l := 4) rfl rfl ag29 rfl) fun W hI => ⟨rfl, hI.drop.drop.drop.drop.drop⟩
  · subst hgb31 hgb35 hgb39
    try simp only [Bool.and_eq_true, Bool.or_eq_true, Bool.and_eq_false_iff, Bool.or_eq_false_iff, Bool.not_eq_true', Bool.not_eq_false', decide_eq_true_eq, decide_eq_false_iff_not] at h42
    have hgood : ¬ badAcct i a := by
      have hz : a.owner ≠ h0 := by intro hz; simp [hz] at h42
      simp [hz] at h42
      rintro (h | h)
      · exact hz h
      · omega
    rw [leaf_good hgood]
    refine C.skip ?_
    refine Po.then ?_
    refine C.seq ?_
    refine C.reg ?_
    refine J.q rfl rfl rfl (V.mv rfl) ?_
    refine J.q rfl rfl rfl (V.fa rfl fo31_0) ?_
    refine J.q rfl rfl rfl (V.slA (lo := 0) (hi := 8) rfl ar29 rfl rfl (by decide) (by decide) (by decide)) ?_
    refine J.q rfl rfl rfl (V.mv rfl) ?_
    refine J.q rfl rfl rfl (V.mv rfl) ?_
    refine J.one rfl (JO.bsl (l := 49) rfl el173 rfl rfl rfl Cs.all (by decide) fun v49 => ?_)
    refine J.callP rfl tx146 rfl (Pu.lend (l := 13) rfl fun k13 hA13 hl13 hr13 => Pu.lend (l := 19) rfl fun k19 hA19 hl19 hr19 => Pu.lend (l := 25) rfl fun k25 hA25 hl25 hr25 => Pu.lend (l := 3) rfl fun k3 hA3 hl3 hr3 => Pu.lend (l := 49) rfl fun k49 hA49 hl49 hr49 => Of_pu 97 _ [numB i 2, a.owner.toList, numB a.amount 7, numB a.nonce 1] _ _ _ ((((((hK).mono hl13).mono hl19).mono hl25).mono hl3).mono hl49) (PS.of (qs := [_, _, _, _]) ((hA49.rs hr49)) ⟨(((((hA13.rs hr13).mono hl19).mono hl25).mono hl3).mono hl49), ((rs_leaf (i := 0) (off := 0 + 0) (Bx.of hA3 hr3) rfl rfl).mono hl49), ((((hA19.rs hr19).mono hl25).mono hl3).mono hl49), (((hA25.rs hr25).mono hl3).mono hl49), trivial⟩) (leaf_packed _ _)) ?_ 
    refine J.one rfl (JO.st (i := 0) (l := 4) rfl rfl rfl sz29 rfl rfl ?_)
    refine J.nil ?_
    refine Po.then ?_
    refine C.ret ?_
    exact Po.end1 rfl rfl (RV.cA (l := 4) rfl rfl ag29 rfl) fun W hI => ⟨rfl, hI.drop.drop.drop.drop.drop.drop⟩
end Go.Proofs
namespace Go.Proofs
open Go Go.Sx Go.Db
set_option maxRecDepth 100000
theorem ar44 : Ar Tryz.prog 44 16 29 8 := ⟨Tryz.underlying44, by kernel_rfl⟩
theorem tx148 : Tx Tryz.prog 148 := ⟨Tryz.f148, Tryz.func148, rfl, by kernel_rfl⟩
theorem ag44 : Ag Tryz.prog 44 128 := ⟨⟨_, Tryz.underlying44, rfl⟩, by kernel_rfl⟩
theorem tx142 : Tx Tryz.prog 142 := ⟨Tryz.f142, Tryz.func142, rfl, by kernel_rfl⟩
theorem tx143 : Tx Tryz.prog 143 := ⟨Tryz.f143, Tryz.func143, rfl, by kernel_rfl⟩
theorem sl66 : Sl Tryz.prog 66 3 1 := ⟨Tryz.underlying66, by kernel_rfl⟩
theorem sl38 : Sl Tryz.prog 38 29 8 := ⟨Tryz.underlying38, by kernel_rfl⟩
theorem fo177_0 : Fo Tryz.prog 177 0 0 := ⟨_, _, 0, Tryz.underlying177, rfl, rfl, by kernel_rfl⟩
theorem sc66 : Sc Tryz.prog 66 := ⟨⟨_, Tryz.underlying66, rfl⟩, by kernel_rfl⟩
theorem fo177_1 : Fo Tryz.prog 177 1 1 := ⟨_, _, 0, Tryz.underlying177, rfl, rfl, by kernel_rfl⟩
theorem sc38 : Sc Tryz.prog 38 := ⟨⟨_, Tryz.underlying38, rfl⟩, by kernel_rfl⟩
theorem tx152 : Tx Tryz.prog 152 := ⟨Tryz.f152, Tryz.func152, rfl, by kernel_rfl⟩
theorem tx97 : Tx Tryz.prog 97 := ⟨Tryz.f97, Tryz.func97, rfl, by kernel_rfl⟩
theorem zr44 : Zr Tryz.prog 44 (uni hv 8 (List.replicate 16 h0)) := by unfold Zr; kernel_rfl
theorem sz44 : (Tryz.prog.info? 44).map (·.size) = some 128 := by kernel_rfl
theorem el66 : El Tryz.prog 66 3 1 8 := El.of Tryz.underlying66 (by kernel_rfl) (by decide)
theorem el38 : El Tryz.prog 38 29 8 8 := El.of Tryz.underlying38 (by kernel_rfl) (by decide)
theorem sz66 : (Tryz.prog.info? 66).map (·.size) = some 1 := by kernel_rfl
theorem sz38 : (Tryz.prog.info? 38).map (·.size) = some 1 := by kernel_rfl

theorem rCheck_pu (root leaf : Hash) (i : Int) (p : List Hash) (hp : p.length = 16) (w0 : World) (ro : Hp) (M : Res) : Pu Tryz.prog 87 #[hv root, iv i, hv leaf, ag (uni hv 8 p)] w0 ro M (.bool (goodLeaf root i leaf p)) := by
  refine Pu.enter Tryz.func87 rfl rfl ?_
  refine C.seq ?_
  refine C.reg ?_
  refine J.one rfl (JO.box1 (l := 4) rfl rfl fun b4 => ?_)
  refine J.one rfl (JO.box1 (l := 6) rfl rfl fun b6 => ?_)
  refine J.one rfl (JO.boxS (l := 7) rfl rfl fun b7 => ?_)
  refine J.q rfl rfl rfl (V.as rfl) ?_
  refine J.nil ?_
  refine Po.then ?_
  refine C.seq ?_
  refine C.seq ?_
  refine C.reg ?_
  refine J.q rfl rfl rfl (V.mv rfl) ?_
  refine J.q rfl rfl rfl (V.lss rfl rfl) ?_
  refine J.mvB rfl rfl fun gb13 hgb13 => ?_
  refine J.gv rfl rfl rfl rfl rfl rfl (fun hg => by subst hg; exact V.mv rfl) ?_
  refine J.gv rfl rfl rfl rfl rfl rfl (fun hg => by subst hg; exact V.geq rfl rfl) ?_
  refine J.q rfl rfl rfl (V.or rfl rfl rfl) ?_
  refine J.nil ?_
  refine Po.then ?_
  refine C.ite rfl (fun h16 => ?_) (fun h16 => ?_)
  · subst hgb13
    try simp only [Bool.and_eq_true, Bool.or_eq_true, Bool.and_eq_false_iff, Bool.or_eq_false_iff, Bool.not_eq_true', Bool.not_eq_false', decide_eq_true_eq, decide_eq_false_iff_not] at h16
    have hneg : goodLeaf root i leaf p = false := by
      unfold goodLeaf; simp only [Bool.and_eq_false_iff, decide_eq_false_iff_not]; left; omega
    rw [hneg]
    refine C.seq ?_
    refine C.reg ?_
    refine J.q rfl rfl rfl (V.as rfl) ?_
    refine J.nil ?_
    refine Po.then ?_
    refine C.ret ?_
    refine Po.thenR ?_
    exact Po.end1 rfl rfl rfl fun W hI => ⟨rfl, hI.drop.drop.drop⟩
  · subst hgb13
    try simp only [Bool.and_eq_true, Bool.or_eq_true, Bool.and_eq_false_iff, Bool.or_eq_false_iff, Bool.not_eq_true', Bool.not_eq_false', decide_eq_true_eq, decide_eq_false_iff_not] at h16
    obtain ⟨m, rfl⟩ : ∃ m : Nat, i = (m : Int) := ⟨i.toNat, by omega⟩
    have hm : m < 65536 := by omega
    have hpos : goodLeaf root m leaf p = decide (upTo m p leaf 16 = root) := by
      unfold goodLeaf; rw [Int.toNat_natCast, decide_eq_true (by omega), Bool.true_and]
    rw [hpos]
    refine C.skip ?_
    refine Po.then ?_
    refine C.seq ?_
    refine C.reg ?_
    refine J.q rfl rfl rfl (V.ldA (i := 0) 6 rfl rfl ag29 rfl rfl) ?_
    refine J.one rfl (JO.alloc (l := 9) rfl zr29 fun b9 => ?_)
    refine J.one rfl (JO.st (i := 0) (l := 9) rfl rfl rfl sz29 rfl rfl ?_)
    refine J.nil ?_
    refine Po.then ?_
    refine C.seq ?_
    refine C.seq ?_
    refine C.reg ?_
    refine J.q rfl rfl rfl (V.as rfl) ?_
    refine J.nil ?_
    refine Po.then ?_
    refine C.block ?_
    refine C.loopP (fun (k : Nat) => k ≤ 16) (fun (k : Nat) => [(10, .int .i64 (k : Int)), (9, .pointer (some ⟨b9, 0, none⟩)), (7, .pointer (some ⟨b7, 0, none⟩)), (4, .pointer (some ⟨b4, 0, none⟩)), (1, iv (m : Int))]) (fun (k : Nat) => (9, St b9 [(8, hv (upTo m p leaf k))] 29) :: (4, St b4 [(8, hv root)] 29) :: (7, St b7 (uni hv 8 p) 44) :: M) (fun (k : Nat) => 16 - k) 0 (by first | omega | (dsimp only; omega)) (Sub.cons rfl <| Sub.cons rfl <| Sub.cons rfl <| Sub.cons rfl <| Sub.cons rfl <| Sub.nil) (MSub.pull rfl <| MSub.pull rfl <| MSub.pull rfl <| MSub.drop <| MSub.refl) fun k hok => ?_
    refine C.seq ?_
    refine C.seq ?_
    refine C.reg ?_
    refine J.q rfl rfl rfl (V.mv rfl) ?_
    refine J.q rfl rfl rfl (V.lss rfl rfl) ?_
    refine J.nil ?_
    refine Po.then ?_
    refine C.ifd rfl (fun h19 => ?_) (fun h19 => ?_)
    · have hk : k < 16 := by omega
      have hget : p[k]? = some (p.getD k h0) := getD_some (by omega)
      refine C.skip ?_
      refine Po.then ?_
      refine C.seq ?_
      refine C.block ?_
      refine C.seq ?_
      refine C.reg ?_
      refine J.q rfl rfl rfl (V.mv rfl) ?_
      refine J.q rfl rfl rfl (V.mv rfl) ?_
      refine J.q rfl rfl rfl (V.to (V.cv rfl Tryz.underlying3 Tryz.underlying84) (amt_u64 (by omega) (by omega))) ?_
      refine J.q rfl rfl rfl (V.to (V.shr rfl rfl (by simp [IntKind.bits]; omega)) (shr_nat m k)) ?_
      refine J.q rfl rfl rfl (V.andI (b := 1) rfl rfl (by have := Nat.div_le_self m (2 ^ k); omega) (by decide)) ?_
      refine J.q rfl rfl rfl (V.eql rfl rfl) ?_
      refine J.nil ?_
      refine Po.then ?_
      refine C.ifd rfl (fun h27 => ?_) (fun h27 => ?_)
      · have hodd : m / 2 ^ k % 2 = 1 := by rw [one_and] at h27; omega
        refine C.drawM [5] [0, 1, 2, 3, 4] mixed (by kernel_rfl) (by kernel_rfl) ?_
        refine DE.q rfl rfl rfl rfl (V.mv rfl) ?_
        refine DE.q rfl rfl rfl rfl (V.iaA rfl rfl ar44 (by omega)) ?_
        refine DE.q rfl rfl rfl rfl (V.ldUA (lab := 7) rfl rfl ag29 hget (by omega) rfl) ?_
        refine DE.q rfl rfl rfl rfl (V.ldA (i := 0) 9 rfl rfl ag29 rfl rfl) ?_
        refine DE.call rfl rfl rfl rfl tx148 rfl (fun N hN => rover_pu _ _ _ _ _) ?_
        refine DE.nil ?_
        refine DT.o (by kernel_rfl) (MSub.refl) rfl rfl fun Kc hKc => ?_
        refine JO.st (i := 0) (l := 9) rfl rfl rfl sz29 rfl rfl (hKc _ _ _ (Hp.le_refl _) ?_)
        clear hKc Kc
        refine DT.nil' (by kernel_rfl) ?_
        refine Po.blkN ?_
        refine Po.then ?_
        refine C.reg ?_
        refine J.q rfl rfl rfl (V.mv rfl) ?_
        refine J.q rfl rfl rfl (V.add rfl rfl (by omega)) ?_
        refine J.q rfl rfl rfl (V.as rfl) ?_
        refine J.nil ?_
        exact Po.roundP (k + 1) (by first | omega | (dsimp only; omega)) (Sub.cons rfl <| Sub.cons rfl <| Sub.cons rfl <| Sub.cons rfl <| Sub.cons rfl <| Sub.nil) (MSub.pullE rfl (by rw [upTo, if_pos hodd]; rfl) <| MSub.pull rfl <| MSub.pull rfl <| MSub.refl) (by first | omega | (dsimp only; omega))
      · have hodd : ¬ m / 2 ^ k % 2 = 1 := by rw [one_and] at h27; omega
        refine C.drawM [5] [0, 1, 2, 3, 4] mixed (by kernel_rfl) (by kernel_rfl) ?_
        refine DE.q rfl rfl rfl rfl (V.ldA (i := 0) 9 rfl rfl ag29 rfl rfl) ?_
        refine DE.q rfl rfl rfl rfl (V.mv rfl) ?_
        refine DE.q rfl rfl rfl rfl (V.iaA rfl rfl ar44 (by omega)) ?_
        refine DE.q rfl rfl rfl rfl (V.ldUA (lab := 7) rfl rfl ag29 hget (by omega) rfl) ?_
        refine DE.call rfl rfl rfl rfl tx148 rfl (fun N hN => rover_pu _ _ _ _ _) ?_
        refine DE.nil ?_
        refine DT.o (by kernel_rfl) (MSub.refl) rfl rfl fun Kc hKc => ?_
        refine JO.st (i := 0) (l := 9) rfl rfl rfl sz29 rfl rfl (hKc _ _ _ (Hp.le_refl _) ?_)
        clear hKc Kc
        refine DT.nil' (by kernel_rfl) ?_
        refine Po.blkN ?_
        refine Po.then ?_
        refine C.reg ?_
        refine J.q rfl rfl rfl (V.mv rfl) ?_
        refine J.q rfl rfl rfl (V.add rfl rfl (by omega)) ?_
        refine J.q rfl rfl rfl (V.as rfl) ?_
        refine J.nil ?_
        exact Po.roundP (k + 1) (by first | omega | (dsimp only; omega)) (Sub.cons rfl <| Sub.cons rfl <| Sub.cons rfl <| Sub.cons rfl <| Sub.cons rfl <| Sub.nil) (MSub.pullE rfl (by rw [upTo, if_neg hodd]; rfl) <| MSub.pull rfl <| MSub.pull rfl <| MSub.refl) (by first | omega | (dsimp only; omega))
    · obtain rfl : k = 16 := by omega
      refine C.exit ?_
      refine Po.thenX ?_
      refine Po.thenX ?_
      refine Po.blkX ?_
      refine Po.then ?_
      refine C.seq ?_
      refine C.reg ?_
      refine J.q rfl rfl rfl (V.ldA (i := 0) 9 rfl rfl ag29 rfl rfl) ?_
      refine J.q rfl rfl rfl (V.ldA (i := 0) 4 rfl rfl ag29 rfl rfl) ?_
      refine J.q rfl rfl rfl (V.eqlH rfl rfl ht29) ?_
      refine J.q rfl rfl rfl (V.as rfl) ?_
      refine J.nil ?_
      refine Po.then ?_
      refine C.ret ?_
      exact Po.end1 rfl rfl rfl fun W hI => ⟨rfl, hI.drop.drop.drop⟩

theorem Check_pu (root leaf : Hash) (i : Int) (p : List Hash) (hp : p.length = 16) (w0 : World) (ro : Hp) (M : Res) (hK : RoK ro) : Pu Tryz.prog 84 #[hv root, iv i, hv leaf, ag (uni hv 8 p)] w0 ro M (.bool (goodLeaf root i leaf p)) := by
  refine Pu.enter Tryz.func84 rfl rfl ?_
  refine C.seq ?_
  refine C.reg ?_
  refine J.one rfl (JO.box1 (l := 4) rfl rfl fun b4 => ?_)
  refine J.one rfl (JO.box1 (l := 6) rfl rfl fun b6 => ?_)
  refine J.one rfl (JO.boxS (l := 7) rfl rfl fun b7 => ?_)
  refine J.q rfl rfl rfl (V.as rfl) ?_
  refine J.nil ?_
  refine Po.then ?_
  refine C.seq ?_
  refine C.seq ?_
  refine C.reg ?_
  refine J.q rfl rfl rfl (V.mv rfl) ?_
  refine J.callP rfl tx142 rfl (in_pu _ _ _ _) ?_ 
  refine J.q rfl rfl rfl (V.no rfl) ?_
  refine J.nil ?_
  refine Po.then ?_
  refine C.ite rfl (fun h13 => ?_) (fun h13 => ?_)
  · simp only [Bool.not_eq_true', Bool.and_eq_false_iff, decide_eq_false_iff_not] at h13
    have hneg : goodLeaf root i leaf p = false := by
      unfold goodLeaf; simp only [Bool.and_eq_false_iff, decide_eq_false_iff_not]; left; omega
    rw [hneg]
    refine C.seq ?_
    refine C.reg ?_
    refine J.q rfl rfl rfl (V.as rfl) ?_
    refine J.nil ?_
    refine Po.then ?_
    refine C.ret ?_
    refine Po.thenR ?_
    exact Po.end1 rfl rfl rfl fun W hI => ⟨rfl, hI.drop.drop.drop⟩
  · simp only [Bool.not_eq_false', Bool.and_eq_true, decide_eq_true_eq] at h13
    obtain ⟨m, rfl⟩ : ∃ m : Nat, i = (m : Int) := ⟨i.toNat, by omega⟩
    have hm : m < 65536 := by omega
    have hpos : goodLeaf root m leaf p = decide (upTo m p leaf 16 = root) := by
      unfold goodLeaf; rw [Int.toNat_natCast, decide_eq_true (by omega), Bool.true_and]
    rw [hpos]
    refine C.skip ?_
    refine Po.then ?_
    refine C.seq ?_
    refine C.seq ?_
    refine C.reg ?_
    refine J.q rfl rfl rfl (V.ldW 7 rfl rfl ag44 (by simp [lsz_uni, hp])) ?_
    refine J.q rfl rfl rfl (V.mv rfl) ?_
    refine J.nil ?_
    refine Po.then ?_
    refine C.block ?_
    refine C.loopP (fun (k : Nat) => k ≤ 16) (fun (k : Nat) => [(15, .int .i64 (k : Int)), (14, ag (uni hv 8 p)), (6, .pointer (some ⟨b6, 0, none⟩)), (4, .pointer (some ⟨b4, 0, none⟩)), (1, iv (m : Int))]) (fun (k : Nat) => (6, St b6 [(8, hv (upTo m p leaf k))] 29) :: (4, St b4 [(8, hv root)] 29) :: M) (fun (k : Nat) => 16 - k) 0 (by first | omega | (dsimp only; omega)) (Sub.cons rfl <| Sub.cons rfl <| Sub.cons rfl <| Sub.cons rfl <| Sub.cons rfl <| Sub.nil) (MSub.pull rfl <| MSub.pull rfl <| MSub.drop <| MSub.refl) fun k hok => ?_
    refine C.seq ?_
    refine C.reg ?_
    refine J.q rfl rfl rfl (V.lss rfl rfl) ?_
    refine J.nil ?_
    refine Po.then ?_
    refine C.seq ?_
    refine C.ifd rfl (fun h16 => ?_) (fun h16 => ?_)
    · have hk : k < 16 := by omega
      have hget : p[k]? = some (p.getD k h0) := getD_some (by omega)
      refine C.skip ?_
      refine Po.then ?_
      refine C.seq ?_
      refine C.block ?_
      refine C.seq ?_
      refine C.reg ?_
      refine J.q rfl rfl rfl (V.mv rfl) ?_
      refine J.q rfl rfl rfl (V.ixH rfl rfl ar44 ag29 hget rfl hk) ?_
      refine J.one rfl (JO.alloc (l := 10) rfl zr29 fun b10 => ?_)
      refine J.q rfl rfl rfl (V.as rfl) ?_
      refine J.one rfl (JO.st (i := 0) (l := 10) rfl rfl rfl sz29 rfl rfl ?_)
      refine J.nil ?_
      refine Po.then ?_
      refine C.seq ?_
      refine C.reg ?_
      refine J.q rfl rfl rfl (V.mv rfl) ?_
      refine J.q rfl rfl rfl (V.mv rfl) ?_
      refine J.q rfl rfl rfl (V.to (V.shr rfl rfl (by simp [IntKind.bits]; omega)) (shr_nat m k)) ?_
      refine J.q rfl rfl rfl (V.andI (b := 1) rfl rfl (by have := Nat.div_le_self m (2 ^ k); omega) (by decide)) ?_
      refine J.q rfl rfl rfl (V.eql rfl rfl) ?_
      refine J.nil ?_
      refine Po.then ?_
      refine C.ifd rfl (fun h23 => ?_) (fun h23 => ?_)
      · have hodd : m / 2 ^ k % 2 = 1 := by rw [one_and] at h23; omega
        refine C.reg ?_
        refine J.q rfl rfl rfl (V.ldA (i := 0) 10 rfl rfl ag29 rfl rfl) ?_
        refine J.q rfl rfl rfl (V.ldA (i := 0) 6 rfl rfl ag29 rfl rfl) ?_
        refine J.callP rfl tx143 rfl (over_pu _ _ _ _ _ hK) ?_ 
        refine J.one rfl (JO.st (i := 0) (l := 6) rfl rfl rfl sz29 rfl rfl ?_)
        refine J.nil ?_
        refine Po.blkN ?_
        refine Po.then ?_
        refine C.reg ?_
        refine J.q rfl rfl rfl (V.add rfl rfl (by omega)) ?_
        refine J.q rfl rfl rfl (V.mv rfl) ?_
        refine J.nil ?_
        exact Po.roundP (k + 1) (by first | omega | (dsimp only; omega)) (Sub.cons rfl <| Sub.cons rfl <| Sub.cons rfl <| Sub.cons rfl <| Sub.cons rfl <| Sub.nil) (MSub.pullE rfl (by rw [upTo, if_pos hodd]; rfl) <| MSub.pull rfl <| MSub.drop <| MSub.refl) (by first | omega | (dsimp only; omega))
      · have hodd : ¬ m / 2 ^ k % 2 = 1 := by rw [one_and] at h23; omega
        refine C.reg ?_
        refine J.q rfl rfl rfl (V.ldA (i := 0) 6 rfl rfl ag29 rfl rfl) ?_
        refine J.q rfl rfl rfl (V.ldA (i := 0) 10 rfl rfl ag29 rfl rfl) ?_
        refine J.callP rfl tx143 rfl (over_pu _ _ _ _ _ hK) ?_ 
        refine J.one rfl (JO.st (i := 0) (l := 6) rfl rfl rfl sz29 rfl rfl ?_)
        refine J.nil ?_
        refine Po.blkN ?_
        refine Po.then ?_
        refine C.reg ?_
        refine J.q rfl rfl rfl (V.add rfl rfl (by omega)) ?_
        refine J.q rfl rfl rfl (V.mv rfl) ?_
        refine J.nil ?_
        exact Po.roundP (k + 1) (by first | omega | (dsimp only; omega)) (Sub.cons rfl <| Sub.cons rfl <| Sub.cons rfl <| Sub.cons rfl <| Sub.cons rfl <| Sub.nil) (MSub.pullE rfl (by rw [upTo, if_neg hodd]; rfl) <| MSub.pull rfl <| MSub.drop <| MSub.refl) (by first | omega | (dsimp only; omega))
    · obtain rfl : k = 16 := by omega
      refine C.exit ?_
      refine Po.thenX ?_
      refine Po.thenX ?_
      refine Po.blkX ?_
      refine Po.then ?_
      refine C.seq ?_
      refine C.reg ?_
      refine J.q rfl rfl rfl (V.ldA (i := 0) 6 rfl rfl ag29 rfl rfl) ?_
      refine J.q rfl rfl rfl (V.ldA (i := 0) 4 rfl rfl ag29 rfl rfl) ?_
      refine J.q rfl rfl rfl (V.eqlH rfl rfl ht29) ?_
      refine J.q rfl rfl rfl (V.as rfl) ?_
      refine J.nil ?_
      refine Po.then ?_
      refine C.ret ?_
      exact Po.end1 rfl rfl rfl fun W hI => ⟨rfl, hI.drop.drop⟩

theorem Get_pu (b : Nat) (va vh : Value) (l : LL) (i : Nat) (w0 : World) (ro : Hp) (M : Res) (hB : Bx ro b [(1, va), (1, vh)] 177) (hA : RS ro va 1 (atR l)) (hH : RS ro vh 8 (hashR l)) (hn : l.length ≤ 1000000) : Pu Tryz.prog 152 #[.pointer (some ⟨b, 0, none⟩), .int .i64 (i : Int)] w0 ro M (hv (getL l i)) := by
  obtain ⟨aA, cA, rfl, _⟩ := hA.shape
  obtain ⟨aH, cH, rfl, _⟩ := hH.shape
  refine Pu.enter Tryz.func152 rfl rfl ?_
  refine C.seq ?_
  refine C.reg ?_
  refine J.one rfl (JO.alloc (l := 4) rfl zr29 fun b4 => ?_)
  refine J.nil ?_
  refine Po.then ?_
  refine C.seq ?_
  refine C.seq ?_
  refine C.reg ?_
  refine J.q rfl rfl rfl (V.as rfl) ?_
  refine J.nil ?_
  refine Po.then ?_
  refine C.block ?_
  refine C.loopP (fun (k : Nat) => k ≤ l.length ∧ ∀ j, j < k → ∀ p, l[j]? = some p → p.1 ≠ i) (fun (k : Nat) => [(5, .int .i64 (k : Int)), (4, .pointer (some ⟨b4, 0, none⟩)), (0, .pointer (some ⟨b, 0, none⟩)), (1, .int .i64 (i : Int))]) (fun (k : Nat) => (4, St b4 [(8, hv h0)] 29) :: M) (fun (k : Nat) => l.length - k) 0 ⟨by omega, fun j hj => by omega⟩ (Sub.cons rfl <| Sub.cons rfl <| Sub.cons rfl <| Sub.cons rfl <| Sub.nil) (MSub.pull rfl <| MSub.refl) fun k hok => ?_
  refine C.seq ?_
  refine C.seq ?_
  refine C.reg ?_
  refine J.q rfl rfl rfl (V.mv rfl) ?_
  refine J.q rfl rfl rfl (V.mv rfl) ?_
  refine J.q rfl rfl rfl (V.nc rfl) ?_
  refine J.q rfl rfl rfl (V.fa rfl fo177_0) ?_
  refine J.q rfl rfl rfl (V.rldS (i := 0) hB rfl sc66 rfl rfl rfl) ?_
  refine J.q rfl rfl rfl (V.to (V.lenR rfl hA Tryz.underlying66) (by rw [atR_length])) ?_
  refine J.q rfl rfl rfl (V.lss rfl rfl) ?_
  refine J.nil ?_
  refine Po.then ?_
  refine C.ifd rfl (fun h12 => ?_) (fun h12 => ?_)
  · have hk : k < l.length := by omega
    obtain ⟨p, hp⟩ : ∃ p, l[k]? = some p := ⟨_, List.getElem?_eq_getElem hk⟩
    refine C.skip ?_
    refine Po.then ?_
    refine C.seq ?_
    refine C.block ?_
    refine C.seq ?_
    refine C.reg ?_
    refine J.q rfl rfl rfl (V.mv rfl) ?_
    refine J.q rfl rfl rfl (V.nc rfl) ?_
    refine J.q rfl rfl rfl (V.fa rfl fo177_0) ?_
    refine J.q rfl rfl rfl (V.rldS (i := 0) hB rfl sc66 rfl rfl rfl) ?_
    refine J.q rfl rfl rfl (V.mv rfl) ?_
    refine J.q rfl rfl rfl (V.iaR rfl hA rfl sl66 (by rw [atR_length]; omega)) ?_
    refine J.q rfl rfl rfl (V.ldRs rfl hA (atR_get hp) sc3) ?_
    refine J.q rfl rfl rfl (V.mv rfl) ?_
    refine J.q rfl rfl rfl (V.eql rfl rfl) ?_
    refine J.nil ?_
    refine Po.then ?_
    refine C.ifd rfl (fun h23 => ?_) (fun h23 => ?_)
    · rw [getL_hit hok.2 hp (by omega)]
      refine C.seq ?_
      refine C.reg ?_
      refine J.q rfl rfl rfl (V.mv rfl) ?_
      refine J.q rfl rfl rfl (V.nc rfl) ?_
      refine J.q rfl rfl rfl (V.fa rfl fo177_1) ?_
      refine J.q rfl rfl rfl (V.rldS (i := 1) hB rfl sc38 rfl rfl rfl) ?_
      refine J.q rfl rfl rfl (V.mv rfl) ?_
      refine J.q rfl rfl rfl (V.iaR rfl hH rfl sl38 (by rw [hashR_length]; omega)) ?_
      refine J.q rfl rfl rfl (V.ldR rfl hH (hashR_get hp) ag29) ?_
      refine J.one rfl (JO.st (i := 0) (l := 4) rfl rfl rfl sz29 rfl rfl ?_)
      refine J.nil ?_
      refine Po.then ?_
      refine C.ret ?_
      refine Po.blkR ?_
      refine Po.thenR ?_
      refine Po.thenR ?_
      refine Po.blkR ?_
      refine Po.thenR ?_
      exact Po.end1 rfl rfl (RV.cA (l := 4) rfl rfl ag29 rfl) fun W hI => ⟨rfl, hI.drop⟩
    · refine C.skip ?_
      refine Po.blkN ?_
      refine Po.then ?_
      refine C.reg ?_
      refine J.q rfl rfl rfl (V.mv rfl) ?_
      refine J.q rfl rfl rfl (V.add rfl rfl (by omega)) ?_
      refine J.q rfl rfl rfl (V.as rfl) ?_
      refine J.nil ?_
      exact Po.roundP (k + 1) ⟨by omega, fun j hj q hq => by
            rcases Nat.lt_or_ge j k with hjk | hjk
            · exact hok.2 j hjk q hq
            · obtain rfl : j = k := by omega
              rw [hp] at hq; cases hq; omega⟩ (Sub.cons rfl <| Sub.cons rfl <| Sub.cons rfl <| Sub.cons rfl <| Sub.nil) (MSub.pull rfl <| MSub.refl) (by first | omega | (dsimp only; omega))
  · obtain ⟨hk1, hk2⟩ := hok
    obtain rfl : k = l.length := by omega
    rw [getL_none hk2]
    refine C.exit ?_
    refine Po.thenX ?_
    refine Po.thenX ?_
    refine Po.blkX ?_
    refine Po.then ?_
    refine C.seq ?_
    refine C.reg ?_
    refine J.q rfl rfl rfl (V.bldH0 rfl ar29 zr29) ?_
    refine J.one rfl (JO.st (i := 0) (l := 4) rfl rfl rfl sz29 rfl rfl ?_)
    refine J.nil ?_
    refine Po.then ?_
    refine C.ret ?_
    exact Po.end1 rfl rfl (RV.cA (l := 4) rfl rfl ag29 rfl) fun W hI => ⟨rfl, hI.drop⟩

theorem Node_step (b : Nat) (va vh : Value) (l : LL) (f h : Nat) (hf : f + 2 ^ h ≤ 65536) (hh : h ≤ 16) (w0 : World) (ro : Hp) (M : Res) (hB : Bx ro b [(1, va), (1, vh)] 177) (hA : RS ro va 1 (atR l)) (hH : RS ro vh 8 (hashR l)) (hn : l.length ≤ 1000000) (ih : ∀ h1, h = h1 + 1 → ∀ (f : Nat), f + 2 ^ h1 ≤ 65536 → ∀ M : Res, Pu Tryz.prog 97 #[.pointer (some ⟨b, 0, none⟩), .int .i64 (f : Int), .int .i64 (h1 : Int)] w0 ro M (hv (node l f h1))) : Pu Tryz.prog 97 #[.pointer (some ⟨b, 0, none⟩), .int .i64 (f : Int), .int .i64 (h : Int)] w0 ro M (hv (node l f h)) := by
  obtain ⟨aA, cA, rfl, _⟩ := hA.shape
  obtain ⟨aH, cH, rfl, _⟩ := hH.shape
  have hpw := pow16 hh
  have hp0 : 0 < 2 ^ h := Nat.pow_pos (by decide)
  refine Pu.enter Tryz.func97 rfl rfl ?_
  refine C.seq ?_
  refine C.reg ?_
  refine J.one rfl (JO.alloc (l := 6) rfl zr29 fun b6 => ?_)
  refine J.nil ?_
  refine Po.then ?_
  refine C.seq ?_
  refine C.reg ?_
  refine J.q rfl rfl rfl (V.as rfl) ?_
  refine J.nil ?_
  refine Po.then ?_
  refine C.seq ?_
  refine C.seq ?_
  refine C.reg ?_
  refine J.q rfl rfl rfl (V.as rfl) ?_
  refine J.nil ?_
  refine Po.then ?_
  refine C.block ?_
  refine C.loopP (fun (k : Nat) => k ≤ l.length) (fun (k : Nat) => [(8, .int .i64 (k : Int)), (7, .bool ((l.take k).any (inSpan f h))), (6, .pointer (some ⟨b6, 0, none⟩)), (0, .pointer (some ⟨b, 0, none⟩)), (1, .int .i64 (f : Int)), (2, .int .i64 (h : Int))]) (fun (k : Nat) => (6, St b6 [(8, hv h0)] 29) :: M) (fun (k : Nat) => l.length - k) 0 (by first | omega | (dsimp only; omega)) (Sub.cons rfl <| Sub.cons' rfl (by rfl) <| Sub.cons rfl <| Sub.cons rfl <| Sub.cons rfl <| Sub.cons rfl <| Sub.nil) (MSub.pull rfl <| MSub.refl) fun k hok => ?_
  refine C.seq ?_
  refine C.seq ?_
  refine C.reg ?_
  refine J.q rfl rfl rfl (V.mv rfl) ?_
  refine J.q rfl rfl rfl (V.mv rfl) ?_
  refine J.q rfl rfl rfl (V.nc rfl) ?_
  refine J.q rfl rfl rfl (V.fa rfl fo177_0) ?_
  refine J.q rfl rfl rfl (V.rldS (i := 0) hB rfl sc66 rfl rfl rfl) ?_
  refine J.q rfl rfl rfl (V.to (V.lenR rfl hA Tryz.underlying66) (by rw [atR_length])) ?_
  refine J.q rfl rfl rfl (V.lss rfl rfl) ?_
  refine J.nil ?_
  refine Po.then ?_
  refine C.ifd rfl (fun h17 => ?_) (fun h17 => ?_)
  · have hk : k < l.length := by omega
    obtain ⟨p, hp⟩ : ∃ p, l[k]? = some p := ⟨_, List.getElem?_eq_getElem hk⟩
    refine C.skip ?_
    refine Po.then ?_
    refine C.seq ?_
    refine C.block ?_
    refine C.reg ?_
    refine J.q rfl rfl rfl (V.mv rfl) ?_
    refine J.mvB rfl rfl fun gb21 hgb21 => ?_
    cases gb21
    · skip
      refine J.dn rfl rfl rfl rfl rfl rfl (V.mv rfl) ?_
      refine J.dn rfl rfl rfl rfl rfl rfl (V.nc rfl) ?_
      refine J.dn rfl rfl rfl rfl rfl rfl (V.fa rfl fo177_0) ?_
      refine J.dn rfl rfl rfl rfl rfl rfl (V.rldS (i := 0) hB rfl sc66 rfl rfl rfl) ?_
      refine J.dn rfl rfl rfl rfl rfl rfl (V.mv rfl) ?_
      refine J.dn rfl rfl rfl rfl rfl rfl (V.iaR rfl hA rfl sl66 (by rw [atR_length]; omega)) ?_
      refine J.dn rfl rfl rfl rfl rfl rfl (V.ldRs rfl hA (atR_get hp) sc3) ?_
      refine J.dn rfl rfl rfl rfl rfl rfl (V.mv rfl) ?_
      refine J.dn rfl rfl rfl rfl rfl rfl (V.to (V.geq rfl rfl) (dec_ge _ _)) ?_
      refine J.mvG rfl rfl rfl rfl rfl fun gb31 hgb31 => ?_
      refine J.gv rfl rfl rfl rfl rfl rfl (fun hg => by subst hg; exact V.mv rfl) ?_
      refine J.gv rfl rfl rfl rfl rfl rfl (fun hg => by subst hg; exact V.nc rfl) ?_
      refine J.gv rfl rfl rfl rfl rfl rfl (fun hg => by subst hg; exact V.fa rfl fo177_0) ?_
      refine J.gv rfl rfl rfl rfl rfl rfl (fun hg => by subst hg; exact V.rldS (i := 0) hB rfl sc66 rfl rfl rfl) ?_
      refine J.gv rfl rfl rfl rfl rfl rfl (fun hg => by subst hg; exact V.mv rfl) ?_
      refine J.gv rfl rfl rfl rfl rfl rfl (fun hg => by subst hg; exact V.iaR rfl hA rfl sl66 (by rw [atR_length]; omega)) ?_
      refine J.gv rfl rfl rfl rfl rfl rfl (fun hg => by subst hg; exact V.ldRs rfl hA (atR_get hp) sc3) ?_
      refine J.gv rfl rfl rfl rfl rfl rfl (fun hg => by subst hg; exact V.mv rfl) ?_
      refine J.gv rfl rfl rfl rfl rfl rfl (fun hg => by subst hg; exact V.mv rfl) ?_
      refine J.gv rfl rfl rfl rfl rfl rfl (fun hg => by subst hg; exact V.to (V.cv rfl Tryz.underlying3 Tryz.underlying84) (amt_u64 (by omega) (by omega))) ?_
      refine J.gv rfl rfl rfl rfl rfl rfl (fun hg => by subst hg; exact V.to (V.shl rfl rfl (by simp [IntKind.bits]; omega)) (one_shl (by omega))) ?_
      refine J.gv rfl rfl rfl rfl rfl rfl (fun hg => by subst hg; exact V.add rfl rfl (by omega)) ?_
      refine J.gv rfl rfl rfl rfl rfl rfl (fun hg => by subst hg; exact V.to (V.lss rfl rfl) (dec_lt _ _ _)) ?_
      refine J.dn rfl rfl rfl rfl rfl rfl (V.and rfl rfl rfl) ?_
      refine J.q rfl rfl rfl (V.pk rfl rfl rfl) ?_
      refine J.q rfl rfl rfl (V.as rfl) ?_
      refine J.nil ?_
      refine Po.blkN ?_
      refine Po.then ?_
      refine C.reg ?_
      refine J.q rfl rfl rfl (V.mv rfl) ?_
      refine J.q rfl rfl rfl (V.add rfl rfl (by omega)) ?_
      refine J.q rfl rfl rfl (V.as rfl) ?_
      refine J.nil ?_
      exact Po.roundP (k + 1) (by first | omega | (dsimp only; omega)) (Sub.cons rfl <| Sub.cons' rfl (by rw [someTo hp, hgb21]; subst hgb31; rfl) <| Sub.cons rfl <| Sub.cons rfl <| Sub.cons rfl <| Sub.cons rfl <| Sub.nil) (MSub.pull rfl <| MSub.refl) (by first | omega | (dsimp only; omega))
    · skip
      refine J.sk rfl rfl rfl rfl rfl rfl ?_
      refine J.sk rfl rfl rfl rfl rfl rfl ?_
      refine J.sk rfl rfl rfl rfl rfl rfl ?_
      refine J.sk rfl rfl rfl rfl rfl rfl ?_
      refine J.sk rfl rfl rfl rfl rfl rfl ?_
      refine J.sk rfl rfl rfl rfl rfl rfl ?_
      refine J.sk rfl rfl rfl rfl rfl rfl ?_
      refine J.sk rfl rfl rfl rfl rfl rfl ?_
      refine J.sk rfl rfl rfl rfl rfl rfl ?_
      refine J.sk rfl rfl rfl rfl rfl rfl ?_
      refine J.skU rfl rfl rfl rfl rfl rfl ?_
      refine J.skU rfl rfl rfl rfl rfl rfl ?_
      refine J.skU rfl rfl rfl rfl rfl rfl ?_
      refine J.skU rfl rfl rfl rfl rfl rfl ?_
      refine J.skU rfl rfl rfl rfl rfl rfl ?_
      refine J.skU rfl rfl rfl rfl rfl rfl ?_
      refine J.skU rfl rfl rfl rfl rfl rfl ?_
      refine J.skU rfl rfl rfl rfl rfl rfl ?_
      refine J.skU rfl rfl rfl rfl rfl rfl ?_
      refine J.skU rfl rfl rfl rfl rfl rfl ?_
      refine J.skU rfl rfl rfl rfl rfl rfl ?_
      refine J.skU rfl rfl rfl rfl rfl rfl ?_
      refine J.skU rfl rfl rfl rfl rfl rfl ?_
      refine J.sk rfl rfl rfl rfl rfl rfl ?_
      refine J.q rfl rfl rfl (V.pk rfl rfl rfl) ?_
      refine J.q rfl rfl rfl (V.as rfl) ?_
      refine J.nil ?_
      refine Po.blkN ?_
      refine Po.then ?_
      refine C.reg ?_
      refine J.q rfl rfl rfl (V.mv rfl) ?_
      refine J.q rfl rfl rfl (V.add rfl rfl (by omega)) ?_
      refine J.q rfl rfl rfl (V.as rfl) ?_
      refine J.nil ?_
      exact Po.roundP (k + 1) (by first | omega | (dsimp only; omega)) (Sub.cons rfl <| Sub.cons' rfl (by rw [someTo hp, hgb21]; rfl) <| Sub.cons rfl <| Sub.cons rfl <| Sub.cons rfl <| Sub.cons rfl <| Sub.nil) (MSub.pull rfl <| MSub.refl) (by first | omega | (dsimp only; omega))
  · obtain rfl : k = l.length := by omega
    rw [List.take_length]
    refine C.exit ?_
    refine Po.thenX ?_
    refine Po.thenX ?_
    refine Po.blkX ?_
    refine Po.then ?_
    refine C.seq ?_
    refine C.seq ?_
    refine C.reg ?_
    refine J.q rfl rfl rfl (V.mv rfl) ?_
    refine J.q rfl rfl rfl (V.no rfl) ?_
    refine J.nil ?_
    refine Po.then ?_
    refine C.ite rfl (fun h48 => ?_) (fun h48 => ?_)
    · have hs : someIn l f h = false := by simpa [someIn] using h48
      have hres : node l f h = h0 := by cases h <;> simp [node, hs]
      rw [hres]
      refine C.seq ?_
      refine C.reg ?_
      refine J.q rfl rfl rfl (V.bldH0 rfl ar29 zr29) ?_
      refine J.one rfl (JO.st (i := 0) (l := 6) rfl rfl rfl sz29 rfl rfl ?_)
      refine J.nil ?_
      refine Po.then ?_
      refine C.ret ?_
      refine Po.thenR ?_
      exact Po.end1 rfl rfl (RV.cA (l := 6) rfl rfl ag29 rfl) fun W hI => ⟨rfl, hI.drop⟩
    · have hs : someIn l f h = true := by simpa [someIn] using h48
      refine C.skip ?_
      refine Po.then ?_
      refine C.seq ?_
      refine C.seq ?_
      refine C.reg ?_
      refine J.q rfl rfl rfl (V.mv rfl) ?_
      refine J.q rfl rfl rfl (V.eql rfl rfl) ?_
      refine J.nil ?_
      refine Po.then ?_
      refine C.ifd rfl (fun h51 => ?_) (fun h51 => ?_)
      · obtain rfl : h = 0 := by omega
        have hres : node l f 0 = getL l f := by simp [node, hs]
        rw [hres]
        refine C.seq ?_
        refine C.reg ?_
        refine J.q rfl rfl rfl (V.mv rfl) ?_
        refine J.q rfl rfl rfl (V.mv rfl) ?_
        refine J.callP rfl tx152 rfl (Get_pu _ _ _ _ _ _ _ _ hB hA hH hn) ?_ 
        refine J.one rfl (JO.st (i := 0) (l := 6) rfl rfl rfl sz29 rfl rfl ?_)
        refine J.nil ?_
        refine Po.then ?_
        refine C.ret ?_
        refine Po.thenR ?_
        exact Po.end1 rfl rfl (RV.cA (l := 6) rfl rfl ag29 rfl) fun W hI => ⟨rfl, hI.drop⟩
      · obtain ⟨h1, rfl⟩ : ∃ h1, h = h1 + 1 := ⟨h - 1, by omega⟩
        have hres : node l f (h1 + 1) = over (node l f h1) (node l (f + 2 ^ h1) h1) := by simp [node, hs]
        rw [hres]
        have hp1 : 0 < 2 ^ h1 := Nat.pow_pos (by decide)
        have hp2 : 2 ^ (h1 + 1) = 2 ^ h1 + 2 ^ h1 := by rw [Nat.pow_succ]; omega
        refine C.skip ?_
        refine Po.then ?_
        refine C.seq ?_
        refine C.reg ?_
        refine J.q rfl rfl rfl (V.mv rfl) ?_
        refine J.q rfl rfl rfl (V.mv rfl) ?_
        refine J.q rfl rfl rfl (V.mv rfl) ?_
        refine J.q rfl rfl rfl (V.to (V.sub' rfl rfl (by omega)) (sub_one _)) ?_
        refine J.callP rfl tx97 rfl (ih h1 rfl f (by omega) _) ?_ 
        refine J.q rfl rfl rfl (V.mv rfl) ?_
        refine J.q rfl rfl rfl (V.mv rfl) ?_
        refine J.q rfl rfl rfl (V.mv rfl) ?_
        refine J.q rfl rfl rfl (V.to (V.sub' rfl rfl (by omega)) (sub_one _)) ?_
        refine J.q rfl rfl rfl (V.to (V.cv rfl Tryz.underlying3 Tryz.underlying84) (amt_u64 (by omega) (by omega))) ?_
        refine J.q rfl rfl rfl (V.to (V.shl rfl rfl (by simp [IntKind.bits]; omega)) (one_shl (by omega))) ?_
        refine J.q rfl rfl rfl (V.to (V.add rfl rfl (by omega)) (add_nat _ _)) ?_
        refine J.q rfl rfl rfl (V.mv rfl) ?_
        refine J.q rfl rfl rfl (V.to (V.sub' rfl rfl (by omega)) (sub_one _)) ?_
        refine J.callP rfl tx97 rfl (ih h1 rfl (f + 2 ^ h1) (by omega) _) ?_ 
        refine J.one rfl (JO.alloc (l := 9) rfl zr29 fun b9 => ?_)
        refine J.one rfl (JO.alloc (l := 10) rfl zr29 fun b10 => ?_)
        refine J.one rfl (JO.st (i := 0) (l := 9) rfl rfl rfl sz29 rfl rfl ?_)
        refine J.one rfl (JO.st (i := 0) (l := 10) rfl rfl rfl sz29 rfl rfl ?_)
        refine J.nil ?_
        refine Po.then ?_
        refine C.seq ?_
        refine C.reg ?_
        refine J.q rfl rfl rfl (V.ldA (i := 0) 9 rfl rfl ag29 rfl rfl) ?_
        refine J.q rfl rfl rfl (V.ldA (i := 0) 10 rfl rfl ag29 rfl rfl) ?_
        refine J.callP rfl tx148 rfl (rover_pu _ _ _ _ _) ?_ 
        refine J.one rfl (JO.st (i := 0) (l := 6) rfl rfl rfl sz29 rfl rfl ?_)
        refine J.nil ?_
        refine Po.then ?_
        refine C.ret ?_
        exact Po.end1 rfl rfl (RV.cA (l := 6) rfl rfl ag29 rfl) fun W hI => ⟨rfl, hI.drop.drop.drop⟩

theorem Node_pu (b : Nat) (va vh : Value) (l : LL) (w0 : World) (ro : Hp) (hB : Bx ro b [(1, va), (1, vh)] 177) (hA : RS ro va 1 (atR l)) (hH : RS ro vh 8 (hashR l)) (hn : l.length ≤ 1000000) : ∀ (h f : Nat), f + 2 ^ h ≤ 65536 → h ≤ 16 → ∀ M : Res, Pu Tryz.prog 97 #[.pointer (some ⟨b, 0, none⟩), .int .i64 (f : Int), .int .i64 (h : Int)] w0 ro M (hv (node l f h))
  | 0, f, hf, hh, M => Node_step b va vh l f 0 hf hh w0 ro M hB hA hH hn (fun h1 e => by omega)
  | h + 1, f, hf, hh, M => Node_step b va vh l f (h + 1) hf hh w0 ro M hB hA hH hn (fun h1 e f hf M => by cases e; exact Node_pu b va vh l w0 ro hB hA hH hn h f hf (by omega) M)

theorem Top_pu (b : Nat) (va vh : Value) (l : LL) (w0 : World) (ro : Hp) (M : Res) (hB : Bx ro b [(1, va), (1, vh)] 177) (hA : RS ro va 1 (atR l)) (hH : RS ro vh 8 (hashR l)) (hn : l.length ≤ 1000000) : Pu Tryz.prog 48 #[.pointer (some ⟨b, 0, none⟩)] w0 ro M (hv (top l)) := by
  refine Pu.enter Tryz.func48 rfl rfl ?_
  refine C.seq ?_
  refine C.reg ?_
  refine J.one rfl (JO.alloc (l := 2) rfl zr29 fun b2 => ?_)
  refine J.nil ?_
  refine Po.then ?_
  refine C.seq ?_
  refine C.reg ?_
  refine J.q rfl rfl rfl (V.mv rfl) ?_
  refine J.callP rfl tx97 rfl (Node_pu _ _ _ l _ _ hB hA hH hn 16 0 (by decide) (by decide) _) ?_ 
  refine J.one rfl (JO.st (i := 0) (l := 2) rfl rfl rfl sz29 rfl rfl ?_)
  refine J.nil ?_
  refine Po.then ?_
  refine C.ret ?_
  exact Po.end1 rfl rfl (RV.cA (l := 2) rfl rfl ag29 rfl) fun W hI => ⟨rfl, hI.drop⟩

theorem Prove_pu (b : Nat) (va vh : Value) (l : LL) (i : Nat) (hi : i < 65536) (w0 : World) (ro : Hp) (M : Res) (hB : Bx ro b [(1, va), (1, vh)] 177) (hA : RS ro va 1 (atR l)) (hH : RS ro vh 8 (hashR l)) (hn : l.length ≤ 1000000) : Pu Tryz.prog 47 #[.pointer (some ⟨b, 0, none⟩), .int .i64 (i : Int)] w0 ro M (.tuple #[ag (uni hv 8 (proof l i)), .bool true]) := by
  refine Pu.enter Tryz.func47 rfl rfl ?_
  refine C.seq ?_
  refine C.reg ?_
  refine J.one rfl (JO.alloc (l := 4) rfl zr44 fun b4 => ?_)
  refine J.q rfl rfl rfl (V.as rfl) ?_
  refine J.nil ?_
  refine Po.then ?_
  refine C.seq ?_
  refine C.reg ?_
  refine J.one rfl (JO.alloc (l := 6) rfl zr44 fun b6 => ?_)
  refine J.nil ?_
  refine Po.then ?_
  refine C.seq ?_
  refine C.seq ?_
  refine C.reg ?_
  refine J.q rfl rfl rfl (V.mv rfl) ?_
  refine J.q rfl rfl rfl (V.lss rfl rfl) ?_
  refine J.mvB rfl rfl fun gb11 hgb11 => ?_
  refine J.gv rfl rfl rfl rfl rfl rfl (fun hg => by subst hg; exact V.mv rfl) ?_
  refine J.gv rfl rfl rfl rfl rfl rfl (fun hg => by subst hg; exact V.geq rfl rfl) ?_
  refine J.q rfl rfl rfl (V.or rfl rfl rfl) ?_
  refine J.nil ?_
  refine Po.then ?_
  refine C.ite rfl (fun h14 => ?_) (fun h14 => ?_)
  · subst hgb11
    try simp only [Bool.and_eq_true, Bool.or_eq_true, Bool.and_eq_false_iff, Bool.or_eq_false_iff, Bool.not_eq_true', Bool.not_eq_false', decide_eq_true_eq, decide_eq_false_iff_not] at h14
    exfalso; omega
  · subst hgb11
    try simp only [Bool.and_eq_true, Bool.or_eq_true, Bool.and_eq_false_iff, Bool.or_eq_false_iff, Bool.not_eq_true', Bool.not_eq_false', decide_eq_true_eq, decide_eq_false_iff_not] at h14
    refine C.skip ?_
    refine Po.then ?_
    refine C.seq ?_
    refine C.seq ?_
    refine C.reg ?_
    refine J.q rfl rfl rfl (V.as rfl) ?_
    refine J.nil ?_
    refine Po.then ?_
    refine C.block ?_
    refine C.loopP (fun (k : Nat) => k ≤ 16) (fun (k : Nat) => [(7, .int .i64 (k : Int)), (6, .pointer (some ⟨b6, 0, none⟩)), (4, .pointer (some ⟨b4, 0, none⟩)), (0, .pointer (some ⟨b, 0, none⟩)), (1, .int .i64 (i : Int))]) (fun (k : Nat) => (6, St b6 (uni hv 8 (prf l i k)) 44) :: (4, St b4 (uni hv 8 (List.replicate 16 h0)) 44) :: M) (fun (k : Nat) => 16 - k) 0 (by first | omega | (dsimp only; omega)) (Sub.cons rfl <| Sub.cons rfl <| Sub.cons rfl <| Sub.cons rfl <| Sub.cons rfl <| Sub.nil) (MSub.pullE rfl (by rfl) <| MSub.pull rfl <| MSub.refl) fun k hok => ?_
    refine C.seq ?_
    refine C.seq ?_
    refine C.reg ?_
    refine J.q rfl rfl rfl (V.mv rfl) ?_
    refine J.q rfl rfl rfl (V.lss rfl rfl) ?_
    refine J.nil ?_
    refine Po.then ?_
    refine C.ifd rfl (fun h17 => ?_) (fun h17 => ?_)
    · have hk : k < 16 := by omega
      refine C.skip ?_
      refine Po.then ?_
      refine C.seq ?_
      refine C.block ?_
      refine C.seq ?_
      refine C.reg ?_
      refine J.q rfl rfl rfl (V.mv rfl) ?_
      refine J.q rfl rfl rfl (V.mv rfl) ?_
      refine J.q rfl rfl rfl (V.to (V.cv rfl Tryz.underlying3 Tryz.underlying84) (amt_u64 (by omega) (by omega))) ?_
      refine J.q rfl rfl rfl (V.to (V.shr rfl rfl (by simp [IntKind.bits]; omega)) (shr_nat i k)) ?_
      refine J.q rfl rfl rfl (V.xorI (b := 1) rfl rfl (by have := Nat.div_le_self i (2 ^ k); omega) (by decide)) ?_
      refine J.q rfl rfl rfl (V.as rfl) ?_
      refine J.nil ?_
      refine Po.then ?_
      refine C.reg ?_
      refine J.q rfl rfl rfl (V.mv rfl) ?_
      refine J.q rfl rfl rfl (V.mv rfl) ?_
      refine J.q rfl rfl rfl (V.mv rfl) ?_
      refine J.q rfl rfl rfl (V.mv rfl) ?_
      refine J.q rfl rfl rfl (V.to (V.cv rfl Tryz.underlying3 Tryz.underlying84) (amt_u64 (by omega) (by omega))) ?_
      refine J.q rfl rfl rfl (V.to (V.shl rfl rfl (by simp [IntKind.bits]; omega)) (sib_shl hi hk)) ?_
      refine J.q rfl rfl rfl (V.mv rfl) ?_
      refine J.callP rfl tx97 rfl (Node_pu _ _ _ l _ _ hB hA hH hn k ((i / 2 ^ k ^^^ 1) * 2 ^ k) (sib_le hi hk) (by omega) _) ?_ 
      refine J.q rfl rfl rfl (V.iaA rfl rfl ar44 (by omega)) ?_
      refine J.one rfl (JO.stU (lab := 6) rfl rfl rfl sz29 (prf_at l i hk) (by omega) ?_)
      refine J.nil ?_
      refine Po.blkN ?_
      refine Po.then ?_
      refine C.reg ?_
      refine J.q rfl rfl rfl (V.mv rfl) ?_
      refine J.q rfl rfl rfl (V.add rfl rfl (by omega)) ?_
      refine J.q rfl rfl rfl (V.as rfl) ?_
      refine J.nil ?_
      exact Po.roundP (k + 1) (by first | omega | (dsimp only; omega)) (Sub.cons rfl <| Sub.cons rfl <| Sub.cons rfl <| Sub.cons rfl <| Sub.cons rfl <| Sub.nil) (MSub.pullE rfl (by rw [prf_set l i hk]) <| MSub.pull rfl <| MSub.refl) (by first | omega | (dsimp only; omega))
    · obtain rfl : k = 16 := by omega
      rw [prf_16]
      refine C.exit ?_
      refine Po.thenX ?_
      refine Po.thenX ?_
      refine Po.blkX ?_
      refine Po.then ?_
      refine C.seq ?_
      refine C.reg ?_
      refine J.q rfl rfl rfl (V.ldW 6 rfl rfl ag44 (by simp [lsz_uni, proofTo_length, prf_length, proof])) ?_
      refine J.one rfl (JO.stS (l := 4) rfl rfl rfl sz44 (by simp [lsz_uni, proofTo_length, prf_length, proof]) (by simp [lsz_uni, proofTo_length, prf_length, proof]) ?_)
      refine J.q rfl rfl rfl (V.as rfl) ?_
      refine J.nil ?_
      refine Po.then ?_
      refine C.ret ?_
      exact Po.end2 rfl rfl (RV.cS (l := 4) rfl rfl ag44 (by simp [lsz_uni, proofTo_length, prf_length, proof])) rfl fun W hI => ⟨rfl, hI.drop.drop⟩

theorem Put_fn (b : Nat) (va vh : Value) (l : LL) (i : Nat) (leaf : Hash) (hi : i < 65536) (hn : l.length ≤ 1000000) (w0 : World) (ro : Hp) (M : Res) : Sx.Fn Tryz.prog 96 #[.pointer (some ⟨b, 0, none⟩), .int .i64 (i : Int), hv leaf] w0 ro ((105, St b [(1, va), (1, vh)] 177) :: (115, Ow va 3 1 (atR l)) :: (125, Ow vh 29 8 (hashR l)) :: M) (fun u M1 => ∃ va1 vh1, u = .bool true ∧ M1 = (105, St b [(1, va1), (1, vh1)] 177) :: (115, Ow va1 3 1 (atR (put l i leaf))) :: (125, Ow vh1 29 8 (hashR (put l i leaf))) :: M) := by
  refine Sx.Fn.enter Tryz.func96 rfl rfl ?_
  refine C.seq ?_
  refine C.freeze (l := 115) rfl fun k115 hA115 hl115 hr115 => ?_
  have hA : RS (Hp.or ro k115) va 1 (atR l) := hA115.rs hr115
  refine C.reg ?_
  refine J.one rfl (JO.box1 (l := 5) rfl rfl fun b5 => ?_)
  refine J.q rfl rfl rfl (V.as rfl) ?_
  refine J.nil ?_
  refine Po.then ?_
  refine C.seq ?_
  refine C.seq ?_
  refine C.freeze (l := 125) rfl fun k125 hA125 hl125 hr125 => ?_
  have hH : RS (Hp.or (Hp.or ro k115) k125) vh 8 (hashR l) := hA125.rs hr125
  replace hA := hA.mono hl125
  obtain ⟨aA, cA, rfl, _⟩ := hA.shape
  obtain ⟨aH, cH, rfl, _⟩ := hH.shape
  refine C.reg ?_
  refine J.q rfl rfl rfl (V.mv rfl) ?_
  refine J.q rfl rfl rfl (V.lss rfl rfl) ?_
  refine J.mvB rfl rfl fun gb13 hgb13 => ?_
  refine J.gv rfl rfl rfl rfl rfl rfl (fun hg => by subst hg; exact V.mv rfl) ?_
  refine J.gv rfl rfl rfl rfl rfl rfl (fun hg => by subst hg; exact V.geq rfl rfl) ?_
  refine J.q rfl rfl rfl (V.or rfl rfl rfl) ?_
  refine J.nil ?_
  refine Po.then ?_
  refine C.ite rfl (fun h16 => ?_) (fun h16 => ?_)
  · subst hgb13
    try simp only [Bool.and_eq_true, Bool.or_eq_true, Bool.and_eq_false_iff, Bool.or_eq_false_iff, Bool.not_eq_true', Bool.not_eq_false', decide_eq_true_eq, decide_eq_false_iff_not] at h16
    exfalso; omega
  · subst hgb13
    try simp only [Bool.and_eq_true, Bool.or_eq_true, Bool.and_eq_false_iff, Bool.or_eq_false_iff, Bool.not_eq_true', Bool.not_eq_false', decide_eq_true_eq, decide_eq_false_iff_not] at h16
    refine C.skip ?_
    refine Po.then ?_
    refine C.seq ?_
    refine C.nilO 7 3 1 ?_
    refine C.reg ?_
    refine J.q rfl rfl rfl (V.as rfl) ?_
    refine J.nil ?_
    refine Po.then ?_
    refine C.seq ?_
    refine C.nilO 8 29 8 ?_
    refine C.reg ?_
    refine J.q rfl rfl rfl (V.as rfl) ?_
    refine J.nil ?_
    refine Po.then ?_
    refine C.seq ?_
    refine C.reg ?_
    refine J.q rfl rfl rfl (V.ldA (i := 0) 5 rfl rfl ag29 rfl rfl) ?_
    refine J.callP rfl tx147 rfl (rZero_pu _ _ _ _) ?_ 
    refine J.q rfl rfl rfl (V.as rfl) ?_
    refine J.nil ?_
    refine Po.then ?_
    refine C.seq ?_
    refine C.seq ?_
    refine C.reg ?_
    refine J.q rfl rfl rfl (V.as rfl) ?_
    refine J.nil ?_
    refine Po.then ?_
    refine C.block ?_
    refine C.loopP (fun (x : Nat × Value × Value) => x.1 ≤ l.length) (fun (x : Nat × Value × Value) => [(10, .int .i64 (x.1 : Int)), (9, .bool (putTo l i leaf x.1).2), (8, x.2.2), (7, x.2.1), (5, .pointer (some ⟨b5, 0, none⟩)), (0, .pointer (some ⟨b, 0, none⟩)), (1, .int .i64 (i : Int))]) (fun (x : Nat × Value × Value) => (7, Ow x.2.1 3 1 (atR ((putTo l i leaf x.1).1))) :: (8, Ow x.2.2 29 8 (hashR ((putTo l i leaf x.1).1))) :: (5, St b5 [(8, hv leaf)] 29) :: (105, St b [(1, (.slice aA (atR l).length cA)), (1, (.slice aH (hashR l).length cH))] 177) :: M) (fun (x : Nat × Value × Value) => l.length - x.1) (0, .slice none 0 0, .slice none 0 0) (by first | omega | (dsimp only; omega)) (Sub.cons rfl <| Sub.cons' rfl (by rfl) <| Sub.cons rfl <| Sub.cons rfl <| Sub.cons rfl <| Sub.cons rfl <| Sub.cons rfl <| Sub.nil) (MSub.pullE rfl (by rfl) <| MSub.pullE rfl (by rfl) <| MSub.pull rfl <| MSub.pull rfl <| MSub.refl) fun x hok => ?_
    obtain ⟨k, w7, w8⟩ := x
    dsimp only at hok ⊢
    refine C.seq ?_
    refine C.seq ?_
    refine C.reg ?_
    refine J.q rfl rfl rfl (V.mv rfl) ?_
    refine J.q rfl rfl rfl (V.mv rfl) ?_
    refine J.q rfl rfl rfl (V.nc rfl) ?_
    refine J.q rfl rfl rfl (V.fa rfl fo177_0) ?_
    refine J.q rfl rfl rfl (V.ldS (i := 0) 105 rfl rfl sc66 rfl rfl rfl) ?_
    refine J.q rfl rfl rfl (V.to (V.lenR rfl hA Tryz.underlying66) (by rw [atR_length])) ?_
    refine J.q rfl rfl rfl (V.lss rfl rfl) ?_
    refine J.nil ?_
    refine Po.then ?_
    refine C.ifd rfl (fun h25 => ?_) (fun h25 => ?_)
    · have hk : k < l.length := by omega
      obtain ⟨p, hp⟩ : ∃ p, l[k]? = some p := ⟨_, List.getElem?_eq_getElem hk⟩
      refine C.skip ?_
      refine Po.then ?_
      refine C.seq ?_
      refine C.block ?_
      refine C.cut (fun (y : Value × Value) => [(10, .int .i64 (k : Int)), (9, .bool (putA i leaf p (putTo l i leaf k)).2), (8, y.2), (7, y.1), (5, .pointer (some ⟨b5, 0, none⟩)), (0, .pointer (some ⟨b, 0, none⟩)), (1, .int .i64 (i : Int))]) (fun (y : Value × Value) => (7, Ow y.1 3 1 (atR ((putA i leaf p (putTo l i leaf k)).1))) :: (8, Ow y.2 29 8 (hashR ((putA i leaf p (putTo l i leaf k)).1))) :: (5, St b5 [(8, hv leaf)] 29) :: (105, St b [(1, (.slice aA (atR l).length cA)), (1, (.slice aH (hashR l).length cH))] 177) :: M) ?_ fun y => ?_
      · refine C.seq ?_
        refine C.reg ?_
        refine J.q rfl rfl rfl (V.mv rfl) ?_
        refine J.q rfl rfl rfl (V.no rfl) ?_
        refine J.mvB rfl rfl fun gb30 hgb30 => ?_
        refine J.gv rfl rfl rfl rfl rfl rfl (fun hg => by subst hg; exact V.mv rfl) ?_
        refine J.gv rfl rfl rfl rfl rfl rfl (fun hg => by subst hg; exact V.nc rfl) ?_
        refine J.gv rfl rfl rfl rfl rfl rfl (fun hg => by subst hg; exact V.fa rfl fo177_0) ?_
        refine J.gv rfl rfl rfl rfl rfl rfl (fun hg => by subst hg; exact V.ldS (i := 0) 105 rfl rfl sc66 rfl rfl rfl) ?_
        refine J.gv rfl rfl rfl rfl rfl rfl (fun hg => by subst hg; exact V.mv rfl) ?_
        refine J.gv rfl rfl rfl rfl rfl rfl (fun hg => by subst hg; exact V.iaR rfl hA rfl sl66 (by rw [atR_length]; omega)) ?_
        refine J.gv rfl rfl rfl rfl rfl rfl (fun hg => by subst hg; exact V.ldRs rfl hA (atR_get hp) sc3) ?_
        refine J.gv rfl rfl rfl rfl rfl rfl (fun hg => by subst hg; exact V.mv rfl) ?_
        refine J.gv rfl rfl rfl rfl rfl rfl (fun hg => by subst hg; exact V.geq rfl rfl) ?_
        refine J.q rfl rfl rfl (V.and rfl rfl rfl) ?_
        refine J.nil ?_
        refine Po.then ?_
        refine C.ite rfl (fun h40 => ?_) (fun h40 => ?_)
        · subst hgb30
          try simp only [Bool.and_eq_true, Bool.or_eq_true, Bool.and_eq_false_iff, Bool.or_eq_false_iff, Bool.not_eq_true', Bool.not_eq_false', decide_eq_true_eq, decide_eq_false_iff_not] at h40
          have hA1 : putA i leaf p (putTo l i leaf k) = ((putTo l i leaf k).1 ++ [(i, leaf)], true) := putA_yes ⟨by simpa using h40.1, by have := h40.2; omega⟩
          refine C.draw [2, 3, 6, 7, 8, 9] [0, 1, 4, 5, 10] ((5, St b5 [(8, hv leaf)] 29) :: (105, St b [(1, (.slice aA (atR l).length cA)), (1, (.slice aH (hashR l).length cH))] 177) :: M) mixed (by kernel_rfl) (by kernel_rfl) ?_
          refine DE.q rfl rfl rfl rfl (V.mv rfl) ?_
          refine DE.q rfl rfl rfl rfl (V.mv rfl) ?_
          refine DE.q rfl rfl rfl rfl (V.mv rfl) ?_
          refine DE.q rfl rfl rfl rfl (V.ldA (i := 0) 5 rfl rfl ag29 rfl rfl) ?_
          refine DE.q rfl rfl rfl rfl (V.as rfl) ?_
          refine DE.nil ?_
          refine DT.o2 (i := 2) (j := 6) (by kernel_rfl) (by decide) (MSub.drop <| MSub.drop <| MSub.refl) ?_ ?_
          · refine DO.o (rest := [3, 6, 7, 8, 9]) (by decide) (by decide) rfl rfl fun Kc hKc => ?_
            refine JO.bsl (l := 43) rfl el66 rfl rfl rfl Cs.all (by decide) fun v43 => (hKc _ _ _ (Hp.le_refl _) ?_)
            clear hKc Kc
            refine DT.o2 (i := 3) (j := 6) (by kernel_rfl) (by decide) (MSub.drop <| MSub.drop <| MSub.drop <| MSub.refl) ?_ ?_
            · refine DO.o (rest := [6, 7, 8, 9]) (by decide) (by decide) rfl rfl fun Kc hKc => ?_
              refine JO.appO (l := 7) (l2 := 43) rfl rfl rfl el66 rfl rfl (by simp [atR_length, hashR_length]; have := putTo_le l i leaf k; omega) (by simp [atR_length, hashR_length, maxLen]; have := putTo_le l i leaf k; omega) fun v44 => (hKc _ _ _ (Hp.le_refl _) ?_)
              clear hKc Kc
              refine DT.o (by kernel_rfl) (MSub.drop <| MSub.drop <| MSub.drop <| MSub.refl) rfl rfl fun Kc hKc => ?_
              refine JO.bsl (l := 47) rfl el38 rfl rfl rfl Cs.all (by decide) fun v47 => (hKc _ _ _ (Hp.le_refl _) ?_)
              clear hKc Kc
              refine DT.o (by kernel_rfl) (MSub.drop <| MSub.drop <| MSub.drop <| MSub.drop <| MSub.refl) rfl rfl fun Kc hKc => ?_
              refine JO.appO (l := 8) (l2 := 47) rfl rfl rfl el38 rfl rfl (by simp [atR_length, hashR_length]; have := putTo_le l i leaf k; omega) (by simp [atR_length, hashR_length, maxLen]; have := putTo_le l i leaf k; omega) fun v48 => (hKc _ _ _ (Hp.le_refl _) ?_)
              clear hKc Kc
              refine DT.o (by kernel_rfl) (MSub.drop <| MSub.drop <| MSub.drop <| MSub.drop <| MSub.refl) rfl rfl fun Kc hKc => ?_
              refine JO.q rfl rfl (V.as rfl) (hKc _ _ _ (Hp.le_refl _) ?_)
              clear hKc Kc
              refine DT.o (by kernel_rfl) (MSub.drop <| MSub.drop <| MSub.drop <| MSub.drop <| MSub.refl) rfl rfl fun Kc hKc => ?_
              refine JO.q rfl rfl (V.as rfl) (hKc _ _ _ (Hp.le_refl _) ?_)
              clear hKc Kc
              refine DT.nil (MSub.drop <| MSub.drop <| MSub.drop <| MSub.drop <| MSub.refl) ?_
              exact Po.cut (v44, v48) (Sub.cons rfl <| Sub.cons' rfl (by rw [hA1]) <| Sub.cons rfl <| Sub.cons rfl <| Sub.cons rfl <| Sub.cons rfl <| Sub.cons rfl <| Sub.nil) (MSub.pullE rfl (by rw [hA1]; exact ow_at v44 3 (putTo l i leaf k).1 (i, leaf)) <| MSub.pullE rfl (by rw [hA1]; exact ow_hash v48 29 (putTo l i leaf k).1 (i, leaf)) <| MSub.pull rfl <| MSub.pull rfl <| MSub.drop <| MSub.drop <| MSub.refl)
            · refine DO.o (rest := [3, 7, 8, 9]) (by decide) (by decide) rfl rfl fun Kc hKc => ?_
              refine JO.bsl (l := 47) rfl el38 rfl rfl rfl Cs.all (by decide) fun v47 => (hKc _ _ _ (Hp.le_refl _) ?_)
              clear hKc Kc
              refine DT.o (by kernel_rfl) (MSub.drop <| MSub.drop <| MSub.drop <| MSub.drop <| MSub.refl) rfl rfl fun Kc hKc => ?_
              refine JO.appO (l := 7) (l2 := 43) rfl rfl rfl el66 rfl rfl (by simp [atR_length, hashR_length]; have := putTo_le l i leaf k; omega) (by simp [atR_length, hashR_length, maxLen]; have := putTo_le l i leaf k; omega) fun v44 => (hKc _ _ _ (Hp.le_refl _) ?_)
              clear hKc Kc
              refine DT.o (by kernel_rfl) (MSub.drop <| MSub.drop <| MSub.drop <| MSub.drop <| MSub.refl) rfl rfl fun Kc hKc => ?_
              refine JO.appO (l := 8) (l2 := 47) rfl rfl rfl el38 rfl rfl (by simp [atR_length, hashR_length]; have := putTo_le l i leaf k; omega) (by simp [atR_length, hashR_length, maxLen]; have := putTo_le l i leaf k; omega) fun v48 => (hKc _ _ _ (Hp.le_refl _) ?_)
              clear hKc Kc
              refine DT.o (by kernel_rfl) (MSub.drop <| MSub.drop <| MSub.drop <| MSub.drop <| MSub.refl) rfl rfl fun Kc hKc => ?_
              refine JO.q rfl rfl (V.as rfl) (hKc _ _ _ (Hp.le_refl _) ?_)
              clear hKc Kc
              refine DT.o (by kernel_rfl) (MSub.drop <| MSub.drop <| MSub.drop <| MSub.drop <| MSub.refl) rfl rfl fun Kc hKc => ?_
              refine JO.q rfl rfl (V.as rfl) (hKc _ _ _ (Hp.le_refl _) ?_)
              clear hKc Kc
              refine DT.nil (MSub.drop <| MSub.drop <| MSub.drop <| MSub.drop <| MSub.refl) ?_
              exact Po.cut (v44, v48) (Sub.cons rfl <| Sub.cons' rfl (by rw [hA1]) <| Sub.cons rfl <| Sub.cons rfl <| Sub.cons rfl <| Sub.cons rfl <| Sub.cons rfl <| Sub.nil) (MSub.pullE rfl (by rw [hA1]; exact ow_at v44 3 (putTo l i leaf k).1 (i, leaf)) <| MSub.pullE rfl (by rw [hA1]; exact ow_hash v48 29 (putTo l i leaf k).1 (i, leaf)) <| MSub.pull rfl <| MSub.pull rfl <| MSub.drop <| MSub.drop <| MSub.refl)
          · refine DO.o (rest := [2, 3, 7, 8, 9]) (by decide) (by decide) rfl rfl fun Kc hKc => ?_
            refine JO.bsl (l := 47) rfl el38 rfl rfl rfl Cs.all (by decide) fun v47 => (hKc _ _ _ (Hp.le_refl _) ?_)
            clear hKc Kc
            refine DT.o (by kernel_rfl) (MSub.drop <| MSub.drop <| MSub.drop <| MSub.refl) rfl rfl fun Kc hKc => ?_
            refine JO.bsl (l := 43) rfl el66 rfl rfl rfl Cs.all (by decide) fun v43 => (hKc _ _ _ (Hp.le_refl _) ?_)
            clear hKc Kc
            refine DT.o (by kernel_rfl) (MSub.drop <| MSub.drop <| MSub.drop <| MSub.drop <| MSub.refl) rfl rfl fun Kc hKc => ?_
            refine JO.appO (l := 7) (l2 := 43) rfl rfl rfl el66 rfl rfl (by simp [atR_length, hashR_length]; have := putTo_le l i leaf k; omega) (by simp [atR_length, hashR_length, maxLen]; have := putTo_le l i leaf k; omega) fun v44 => (hKc _ _ _ (Hp.le_refl _) ?_)
            clear hKc Kc
            refine DT.o (by kernel_rfl) (MSub.drop <| MSub.drop <| MSub.drop <| MSub.drop <| MSub.refl) rfl rfl fun Kc hKc => ?_
            refine JO.appO (l := 8) (l2 := 47) rfl rfl rfl el38 rfl rfl (by simp [atR_length, hashR_length]; have := putTo_le l i leaf k; omega) (by simp [atR_length, hashR_length, maxLen]; have := putTo_le l i leaf k; omega) fun v48 => (hKc _ _ _ (Hp.le_refl _) ?_)
            clear hKc Kc
            refine DT.o (by kernel_rfl) (MSub.drop <| MSub.drop <| MSub.drop <| MSub.drop <| MSub.refl) rfl rfl fun Kc hKc => ?_
            refine JO.q rfl rfl (V.as rfl) (hKc _ _ _ (Hp.le_refl _) ?_)
            clear hKc Kc
            refine DT.o (by kernel_rfl) (MSub.drop <| MSub.drop <| MSub.drop <| MSub.drop <| MSub.refl) rfl rfl fun Kc hKc => ?_
            refine JO.q rfl rfl (V.as rfl) (hKc _ _ _ (Hp.le_refl _) ?_)
            clear hKc Kc
            refine DT.nil (MSub.drop <| MSub.drop <| MSub.drop <| MSub.drop <| MSub.refl) ?_
            exact Po.cut (v44, v48) (Sub.cons rfl <| Sub.cons' rfl (by rw [hA1]) <| Sub.cons rfl <| Sub.cons rfl <| Sub.cons rfl <| Sub.cons rfl <| Sub.cons rfl <| Sub.nil) (MSub.pullE rfl (by rw [hA1]; exact ow_at v44 3 (putTo l i leaf k).1 (i, leaf)) <| MSub.pullE rfl (by rw [hA1]; exact ow_hash v48 29 (putTo l i leaf k).1 (i, leaf)) <| MSub.pull rfl <| MSub.pull rfl <| MSub.drop <| MSub.drop <| MSub.refl)
        · subst hgb30
          try simp only [Bool.and_eq_true, Bool.or_eq_true, Bool.and_eq_false_iff, Bool.or_eq_false_iff, Bool.not_eq_true', Bool.not_eq_false', decide_eq_true_eq, decide_eq_false_iff_not] at h40
          have hA1 : putA i leaf p (putTo l i leaf k) = putTo l i leaf k := putA_no (fun hh => h40.elim (fun h => by simp [hh.1] at h) (fun h => by have := hh.2; omega))
          refine C.skip ?_
          exact Po.cut (w7, w8) (Sub.cons rfl <| Sub.cons' rfl (by rw [hA1]) <| Sub.cons rfl <| Sub.cons rfl <| Sub.cons rfl <| Sub.cons rfl <| Sub.cons rfl <| Sub.nil) (MSub.pullE rfl (by rw [hA1]) <| MSub.pullE rfl (by rw [hA1]) <| MSub.pull rfl <| MSub.pull rfl <| MSub.refl)
      obtain ⟨y7, y8⟩ := y
      dsimp only
      refine C.seq ?_
      refine C.reg ?_
      refine J.q rfl rfl rfl (V.mv rfl) ?_
      refine J.q rfl rfl rfl (V.nc rfl) ?_
      refine J.q rfl rfl rfl (V.fa rfl fo177_0) ?_
      refine J.q rfl rfl rfl (V.ldS (i := 0) 105 rfl rfl sc66 rfl rfl rfl) ?_
      refine J.q rfl rfl rfl (V.mv rfl) ?_
      refine J.q rfl rfl rfl (V.iaR rfl hA rfl sl66 (by rw [atR_length]; omega)) ?_
      refine J.q rfl rfl rfl (V.ldRs rfl hA (atR_get hp) sc3) ?_
      refine J.q rfl rfl rfl (V.mv rfl) ?_
      refine J.q rfl rfl rfl (V.neq rfl rfl) ?_
      refine J.nil ?_
      refine Po.then ?_
      refine C.ifd rfl (fun h57 => ?_) (fun h57 => ?_)
      · have hB1 : putTo l i leaf (k + 1) = ((putA i leaf p (putTo l i leaf k)).1 ++ [p], (putA i leaf p (putTo l i leaf k)).2) := by rw [putTo_next hp]; exact if_pos (by omega)
        refine C.draw [8, 9, 18, 19, 20, 21] [0, 1, 2, 3, 4, 5, 6, 7, 10, 11, 12, 13, 14, 15, 16, 17] ((105, St b [(1, (.slice aA (atR l).length cA)), (1, (.slice aH (hashR l).length cH))] 177) :: M) mixed (by kernel_rfl) (by kernel_rfl) ?_
        refine DE.q rfl rfl rfl rfl (V.mv rfl) ?_
        refine DE.q rfl rfl rfl rfl (V.mv rfl) ?_
        refine DE.q rfl rfl rfl rfl (V.nc rfl) ?_
        refine DE.q rfl rfl rfl rfl (V.fa rfl fo177_0) ?_
        refine DE.q rfl rfl rfl rfl (V.ldS (i := 0) 105 rfl rfl sc66 rfl rfl rfl) ?_
        refine DE.q rfl rfl rfl rfl (V.mv rfl) ?_
        refine DE.q rfl rfl rfl rfl (V.iaR rfl hA rfl sl66 (by rw [atR_length]; omega)) ?_
        refine DE.q rfl rfl rfl rfl (V.ldRs rfl hA (atR_get hp) sc3) ?_
        refine DE.q rfl rfl rfl rfl (V.mv rfl) ?_
        refine DE.q rfl rfl rfl rfl (V.mv rfl) ?_
        refine DE.q rfl rfl rfl rfl (V.nc rfl) ?_
        refine DE.q rfl rfl rfl rfl (V.fa rfl fo177_1) ?_
        refine DE.q rfl rfl rfl rfl (V.ldS (i := 1) 105 rfl rfl sc38 rfl rfl rfl) ?_
        refine DE.q rfl rfl rfl rfl (V.mv rfl) ?_
        refine DE.q rfl rfl rfl rfl (V.iaR rfl hH rfl sl38 (by rw [hashR_length]; omega)) ?_
        refine DE.q rfl rfl rfl rfl (V.ldR rfl hH (hashR_get hp) ag29) ?_
        refine DE.nil ?_
        refine DT.o2 (i := 8) (j := 18) (by kernel_rfl) (by decide) (MSub.drop <| MSub.drop <| MSub.drop <| MSub.refl) ?_ ?_
        · refine DO.o (rest := [9, 18, 19, 20, 21]) (by decide) (by decide) rfl rfl fun Kc hKc => ?_
          refine JO.bsl (l := 66) rfl el66 rfl rfl rfl Cs.all (by decide) fun v66 => (hKc _ _ _ (Hp.le_refl _) ?_)
          clear hKc Kc
          refine DT.o2 (i := 9) (j := 18) (by kernel_rfl) (by decide) (MSub.drop <| MSub.drop <| MSub.drop <| MSub.drop <| MSub.refl) ?_ ?_
          · refine DO.o (rest := [18, 19, 20, 21]) (by decide) (by decide) rfl rfl fun Kc hKc => ?_
            refine JO.appO (l := 7) (l2 := 66) rfl rfl rfl el66 rfl rfl (by simp [atR_length, hashR_length]; have := putTo_le l i leaf k; have := putA_le i leaf p (putTo l i leaf k); omega) (by simp [atR_length, hashR_length, maxLen]; have := putTo_le l i leaf k; have := putA_le i leaf p (putTo l i leaf k); omega) fun v67 => (hKc _ _ _ (Hp.le_refl _) ?_)
            clear hKc Kc
            refine DT.o (by kernel_rfl) (MSub.drop <| MSub.drop <| MSub.drop <| MSub.drop <| MSub.refl) rfl rfl fun Kc hKc => ?_
            refine JO.bsl (l := 76) rfl el38 rfl rfl rfl Cs.all (by decide) fun v76 => (hKc _ _ _ (Hp.le_refl _) ?_)
            clear hKc Kc
            refine DT.o (by kernel_rfl) (MSub.drop <| MSub.drop <| MSub.drop <| MSub.drop <| MSub.drop <| MSub.refl) rfl rfl fun Kc hKc => ?_
            refine JO.appO (l := 8) (l2 := 76) rfl rfl rfl el38 rfl rfl (by simp [atR_length, hashR_length]; have := putTo_le l i leaf k; have := putA_le i leaf p (putTo l i leaf k); omega) (by simp [atR_length, hashR_length, maxLen]; have := putTo_le l i leaf k; have := putA_le i leaf p (putTo l i leaf k); omega) fun v77 => (hKc _ _ _ (Hp.le_refl _) ?_)
            clear hKc Kc
            refine DT.o' (by kernel_rfl) (by kernel_rfl) rfl rfl fun Kc hKc => ?_
            refine JO.q rfl rfl (V.as rfl) (hKc _ _ _ (Hp.le_refl _) ?_)
            clear hKc Kc
            refine DT.o' (by kernel_rfl) (by kernel_rfl) rfl rfl fun Kc hKc => ?_
            refine JO.q rfl rfl (V.as rfl) (hKc _ _ _ (Hp.le_refl _) ?_)
            clear hKc Kc
            refine DT.nil' (by kernel_rfl) ?_
            refine Po.blkN ?_
            refine Po.then ?_
            refine C.reg ?_
            refine J.q rfl rfl rfl (V.mv rfl) ?_
            refine J.q rfl rfl rfl (V.add rfl rfl (by omega)) ?_
            refine J.q rfl rfl rfl (V.as rfl) ?_
            refine J.nil ?_
            exact Po.roundP (k + 1, v67, v77) (by first | omega | (dsimp only; omega)) (Sub.cons rfl <| Sub.cons' rfl (by rw [hB1]) <| Sub.cons rfl <| Sub.cons rfl <| Sub.cons rfl <| Sub.cons rfl <| Sub.cons rfl <| Sub.nil) (MSub.pullE rfl (by rw [hB1]; exact ow_at v67 3 (putA i leaf p (putTo l i leaf k)).1 p) <| MSub.pullE rfl (by rw [hB1]; exact ow_hash v77 29 (putA i leaf p (putTo l i leaf k)).1 p) <| MSub.pull rfl <| MSub.pull rfl <| MSub.drop <| MSub.drop <| MSub.refl) (by first | omega | (dsimp only; omega))
          · refine DO.o (rest := [9, 19, 20, 21]) (by decide) (by decide) rfl rfl fun Kc hKc => ?_
            refine JO.bsl (l := 76) rfl el38 rfl rfl rfl Cs.all (by decide) fun v76 => (hKc _ _ _ (Hp.le_refl _) ?_)
            clear hKc Kc
            refine DT.o (by kernel_rfl) (MSub.drop <| MSub.drop <| MSub.drop <| MSub.drop <| MSub.drop <| MSub.refl) rfl rfl fun Kc hKc => ?_
            refine JO.appO (l := 7) (l2 := 66) rfl rfl rfl el66 rfl rfl (by simp [atR_length, hashR_length]; have := putTo_le l i leaf k; have := putA_le i leaf p (putTo l i leaf k); omega) (by simp [atR_length, hashR_length, maxLen]; have := putTo_le l i leaf k; have := putA_le i leaf p (putTo l i leaf k); omega) fun v67 => (hKc _ _ _ (Hp.le_refl _) ?_)
            clear hKc Kc
            refine DT.o (by kernel_rfl) (MSub.drop <| MSub.drop <| MSub.drop <| MSub.drop <| MSub.drop <| MSub.refl) rfl rfl fun Kc hKc => ?_
            refine JO.appO (l := 8) (l2 := 76) rfl rfl rfl el38 rfl rfl (by simp [atR_length, hashR_length]; have := putTo_le l i leaf k; have := putA_le i leaf p (putTo l i leaf k); omega) (by simp [atR_length, hashR_length, maxLen]; have := putTo_le l i leaf k; have := putA_le i leaf p (putTo l i leaf k); omega) fun v77 => (hKc _ _ _ (Hp.le_refl _) ?_)
            clear hKc Kc
            refine DT.o' (by kernel_rfl) (by kernel_rfl) rfl rfl fun Kc hKc => ?_
            refine JO.q rfl rfl (V.as rfl) (hKc _ _ _ (Hp.le_refl _) ?_)
            clear hKc Kc
            refine DT.o' (by kernel_rfl) (by kernel_rfl) rfl rfl fun Kc hKc => ?_
            refine JO.q rfl rfl (V.as rfl) (hKc _ _ _ (Hp.le_refl _) ?_)
            clear hKc Kc
            refine DT.nil' (by kernel_rfl) ?_
            refine Po.blkN ?_
            refine Po.then ?_
            refine C.reg ?_
            refine J.q rfl rfl rfl (V.mv rfl) ?_
            refine J.q rfl rfl rfl (V.add rfl rfl (by omega)) ?_
            refine J.q rfl rfl rfl (V.as rfl) ?_
            refine J.nil ?_
            exact Po.roundP (k + 1, v67, v77) (by first | omega | (dsimp only; omega)) (Sub.cons rfl <| Sub.cons' rfl (by rw [hB1]) <| Sub.cons rfl <| Sub.cons rfl <| Sub.cons rfl <| Sub.cons rfl <| Sub.cons rfl <| Sub.nil) (MSub.pullE rfl (by rw [hB1]; exact ow_at v67 3 (putA i leaf p (putTo l i leaf k)).1 p) <| MSub.pullE rfl (by rw [hB1]; exact ow_hash v77 29 (putA i leaf p (putTo l i leaf k)).1 p) <| MSub.pull rfl <| MSub.pull rfl <| MSub.drop <| MSub.drop <| MSub.refl) (by first | omega | (dsimp only; omega))
        · refine DO.o (rest := [8, 9, 19, 20, 21]) (by decide) (by decide) rfl rfl fun Kc hKc => ?_
          refine JO.bsl (l := 76) rfl el38 rfl rfl rfl Cs.all (by decide) fun v76 => (hKc _ _ _ (Hp.le_refl _) ?_)
          clear hKc Kc
          refine DT.o (by kernel_rfl) (MSub.drop <| MSub.drop <| MSub.drop <| MSub.drop <| MSub.refl) rfl rfl fun Kc hKc => ?_
          refine JO.bsl (l := 66) rfl el66 rfl rfl rfl Cs.all (by decide) fun v66 => (hKc _ _ _ (Hp.le_refl _) ?_)
          clear hKc Kc
          refine DT.o (by kernel_rfl) (MSub.drop <| MSub.drop <| MSub.drop <| MSub.drop <| MSub.drop <| MSub.refl) rfl rfl fun Kc hKc => ?_
          refine JO.appO (l := 7) (l2 := 66) rfl rfl rfl el66 rfl rfl (by simp [atR_length, hashR_length]; have := putTo_le l i leaf k; have := putA_le i leaf p (putTo l i leaf k); omega) (by simp [atR_length, hashR_length, maxLen]; have := putTo_le l i leaf k; have := putA_le i leaf p (putTo l i leaf k); omega) fun v67 => (hKc _ _ _ (Hp.le_refl _) ?_)
          clear hKc Kc
          refine DT.o (by kernel_rfl) (MSub.drop <| MSub.drop <| MSub.drop <| MSub.drop <| MSub.drop <| MSub.refl) rfl rfl fun Kc hKc => ?_
          refine JO.appO (l := 8) (l2 := 76) rfl rfl rfl el38 rfl rfl (by simp [atR_length, hashR_length]; have := putTo_le l i leaf k; have := putA_le i leaf p (putTo l i leaf k); omega) (by simp [atR_length, hashR_length, maxLen]; have := putTo_le l i leaf k; have := putA_le i leaf p (putTo l i leaf k); omega) fun v77 => (hKc _ _ _ (Hp.le_refl _) ?_)
          clear hKc Kc
          refine DT.o' (by kernel_rfl) (by kernel_rfl) rfl rfl fun Kc hKc => ?_
          refine JO.q rfl rfl (V.as rfl) (hKc _ _ _ (Hp.le_refl _) ?_)
          clear hKc Kc
          refine DT.o' (by kernel_rfl) (by kernel_rfl) rfl rfl fun Kc hKc => ?_
          refine JO.q rfl rfl (V.as rfl) (hKc _ _ _ (Hp.le_refl _) ?_)
          clear hKc Kc
          refine DT.nil' (by kernel_rfl) ?_
          refine Po.blkN ?_
          refine Po.then ?_
          refine C.reg ?_
          refine J.q rfl rfl rfl (V.mv rfl) ?_
          refine J.q rfl rfl rfl (V.add rfl rfl (by omega)) ?_
          refine J.q rfl rfl rfl (V.as rfl) ?_
          refine J.nil ?_
          exact Po.roundP (k + 1, v67, v77) (by first | omega | (dsimp only; omega)) (Sub.cons rfl <| Sub.cons' rfl (by rw [hB1]) <| Sub.cons rfl <| Sub.cons rfl <| Sub.cons rfl <| Sub.cons rfl <| Sub.cons rfl <| Sub.nil) (MSub.pullE rfl (by rw [hB1]; exact ow_at v67 3 (putA i leaf p (putTo l i leaf k)).1 p) <| MSub.pullE rfl (by rw [hB1]; exact ow_hash v77 29 (putA i leaf p (putTo l i leaf k)).1 p) <| MSub.pull rfl <| MSub.pull rfl <| MSub.drop <| MSub.drop <| MSub.refl) (by first | omega | (dsimp only; omega))
      · have hB1 : putTo l i leaf (k + 1) = putA i leaf p (putTo l i leaf k) := by rw [putTo_next hp]; exact if_neg (by omega)
        refine C.skip ?_
        refine Po.blkN ?_
        refine Po.then ?_
        refine C.reg ?_
        refine J.q rfl rfl rfl (V.mv rfl) ?_
        refine J.q rfl rfl rfl (V.add rfl rfl (by omega)) ?_
        refine J.q rfl rfl rfl (V.as rfl) ?_
        refine J.nil ?_
        exact Po.roundP (k + 1, y7, y8) (by first | omega | (dsimp only; omega)) (Sub.cons rfl <| Sub.cons' rfl (by rw [hB1]) <| Sub.cons rfl <| Sub.cons rfl <| Sub.cons rfl <| Sub.cons rfl <| Sub.cons rfl <| Sub.nil) (MSub.pullE rfl (by rw [hB1]) <| MSub.pullE rfl (by rw [hB1]) <| MSub.pull rfl <| MSub.pull rfl <| MSub.refl) (by first | omega | (dsimp only; omega))
    · obtain rfl : k = l.length := by omega
      refine C.exit ?_
      refine Po.thenX ?_
      refine Po.thenX ?_
      refine Po.blkX ?_
      refine Po.then ?_
      refine C.cut (fun (y : Value × Value) => [(8, y.2), (7, y.1), (0, .pointer (some ⟨b, 0, none⟩))]) (fun (y : Value × Value) => (7, Ow y.1 3 1 (atR (put l i leaf))) :: (8, Ow y.2 29 8 (hashR (put l i leaf))) :: (105, St b [(1, (.slice aA (atR l).length cA)), (1, (.slice aH (hashR l).length cH))] 177) :: M) ?_ fun y => ?_
      · refine C.seq ?_
        refine C.reg ?_
        refine J.q rfl rfl rfl (V.mv rfl) ?_
        refine J.q rfl rfl rfl (V.no rfl) ?_
        refine J.nil ?_
        refine Po.then ?_
        refine C.ite rfl (fun h79 => ?_) (fun h79 => ?_)
        · have hP1 : put l i leaf = (putTo l i leaf l.length).1 ++ [(i, leaf)] := if_pos (by simpa using h79)
          refine C.draw [2, 3, 6, 7, 8, 9] [0, 1, 4, 5] ((5, St b5 [(8, hv leaf)] 29) :: (105, St b [(1, (.slice aA (atR l).length cA)), (1, (.slice aH (hashR l).length cH))] 177) :: M) mixed (by kernel_rfl) (by kernel_rfl) ?_
          refine DE.q rfl rfl rfl rfl (V.mv rfl) ?_
          refine DE.q rfl rfl rfl rfl (V.mv rfl) ?_
          refine DE.q rfl rfl rfl rfl (V.mv rfl) ?_
          refine DE.q rfl rfl rfl rfl (V.ldA (i := 0) 5 rfl rfl ag29 rfl rfl) ?_
          refine DE.nil ?_
          refine DT.o2 (i := 2) (j := 6) (by kernel_rfl) (by decide) (MSub.drop <| MSub.drop <| MSub.refl) ?_ ?_
          · refine DO.o (rest := [3, 6, 7, 8, 9]) (by decide) (by decide) rfl rfl fun Kc hKc => ?_
            refine JO.bsl (l := 82) rfl el66 rfl rfl rfl Cs.all (by decide) fun v82 => (hKc _ _ _ (Hp.le_refl _) ?_)
            clear hKc Kc
            refine DT.o2 (i := 3) (j := 6) (by kernel_rfl) (by decide) (MSub.drop <| MSub.drop <| MSub.drop <| MSub.refl) ?_ ?_
            · refine DO.o (rest := [6, 7, 8, 9]) (by decide) (by decide) rfl rfl fun Kc hKc => ?_
              refine JO.appO (l := 7) (l2 := 82) rfl rfl rfl el66 rfl rfl (by simp [atR_length, hashR_length]; have := putTo_le l i leaf l.length; omega) (by simp [atR_length, hashR_length, maxLen]; have := putTo_le l i leaf l.length; omega) fun v83 => (hKc _ _ _ (Hp.le_refl _) ?_)
              clear hKc Kc
              refine DT.o (by kernel_rfl) (MSub.drop <| MSub.drop <| MSub.drop <| MSub.refl) rfl rfl fun Kc hKc => ?_
              refine JO.bsl (l := 86) rfl el38 rfl rfl rfl Cs.all (by decide) fun v86 => (hKc _ _ _ (Hp.le_refl _) ?_)
              clear hKc Kc
              refine DT.o (by kernel_rfl) (MSub.drop <| MSub.drop <| MSub.drop <| MSub.drop <| MSub.refl) rfl rfl fun Kc hKc => ?_
              refine JO.appO (l := 8) (l2 := 86) rfl rfl rfl el38 rfl rfl (by simp [atR_length, hashR_length]; have := putTo_le l i leaf l.length; omega) (by simp [atR_length, hashR_length, maxLen]; have := putTo_le l i leaf l.length; omega) fun v87 => (hKc _ _ _ (Hp.le_refl _) ?_)
              clear hKc Kc
              refine DT.o' (by kernel_rfl) (by kernel_rfl) rfl rfl fun Kc hKc => ?_
              refine JO.q rfl rfl (V.as rfl) (hKc _ _ _ (Hp.le_refl _) ?_)
              clear hKc Kc
              refine DT.o' (by kernel_rfl) (by kernel_rfl) rfl rfl fun Kc hKc => ?_
              refine JO.q rfl rfl (V.as rfl) (hKc _ _ _ (Hp.le_refl _) ?_)
              clear hKc Kc
              refine DT.nil' (by kernel_rfl) ?_
              exact Po.cut (v83, v87) (Sub.cons rfl <| Sub.cons rfl <| Sub.cons rfl <| Sub.nil) (MSub.pullE rfl (by rw [hP1]; exact ow_at v83 3 (putTo l i leaf l.length).1 (i, leaf)) <| MSub.pullE rfl (by rw [hP1]; exact ow_hash v87 29 (putTo l i leaf l.length).1 (i, leaf)) <| MSub.pull rfl <| MSub.drop <| MSub.drop <| MSub.drop <| MSub.refl)
            · refine DO.o (rest := [3, 7, 8, 9]) (by decide) (by decide) rfl rfl fun Kc hKc => ?_
              refine JO.bsl (l := 86) rfl el38 rfl rfl rfl Cs.all (by decide) fun v86 => (hKc _ _ _ (Hp.le_refl _) ?_)
              clear hKc Kc
              refine DT.o (by kernel_rfl) (MSub.drop <| MSub.drop <| MSub.drop <| MSub.drop <| MSub.refl) rfl rfl fun Kc hKc => ?_
              refine JO.appO (l := 7) (l2 := 82) rfl rfl rfl el66 rfl rfl (by simp [atR_length, hashR_length]; have := putTo_le l i leaf l.length; omega) (by simp [atR_length, hashR_length, maxLen]; have := putTo_le l i leaf l.length; omega) fun v83 => (hKc _ _ _ (Hp.le_refl _) ?_)
              clear hKc Kc
              refine DT.o (by kernel_rfl) (MSub.drop <| MSub.drop <| MSub.drop <| MSub.drop <| MSub.refl) rfl rfl fun Kc hKc => ?_
              refine JO.appO (l := 8) (l2 := 86) rfl rfl rfl el38 rfl rfl (by simp [atR_length, hashR_length]; have := putTo_le l i leaf l.length; omega) (by simp [atR_length, hashR_length, maxLen]; have := putTo_le l i leaf l.length; omega) fun v87 => (hKc _ _ _ (Hp.le_refl _) ?_)
              clear hKc Kc
              refine DT.o' (by kernel_rfl) (by kernel_rfl) rfl rfl fun Kc hKc => ?_
              refine JO.q rfl rfl (V.as rfl) (hKc _ _ _ (Hp.le_refl _) ?_)
              clear hKc Kc
              refine DT.o' (by kernel_rfl) (by kernel_rfl) rfl rfl fun Kc hKc => ?_
              refine JO.q rfl rfl (V.as rfl) (hKc _ _ _ (Hp.le_refl _) ?_)
              clear hKc Kc
              refine DT.nil' (by kernel_rfl) ?_
              exact Po.cut (v83, v87) (Sub.cons rfl <| Sub.cons rfl <| Sub.cons rfl <| Sub.nil) (MSub.pullE rfl (by rw [hP1]; exact ow_at v83 3 (putTo l i leaf l.length).1 (i, leaf)) <| MSub.pullE rfl (by rw [hP1]; exact ow_hash v87 29 (putTo l i leaf l.length).1 (i, leaf)) <| MSub.pull rfl <| MSub.drop <| MSub.drop <| MSub.drop <| MSub.refl)
          · refine DO.o (rest := [2, 3, 7, 8, 9]) (by decide) (by decide) rfl rfl fun Kc hKc => ?_
            refine JO.bsl (l := 86) rfl el38 rfl rfl rfl Cs.all (by decide) fun v86 => (hKc _ _ _ (Hp.le_refl _) ?_)
            clear hKc Kc
            refine DT.o (by kernel_rfl) (MSub.drop <| MSub.drop <| MSub.drop <| MSub.refl) rfl rfl fun Kc hKc => ?_
            refine JO.bsl (l := 82) rfl el66 rfl rfl rfl Cs.all (by decide) fun v82 => (hKc _ _ _ (Hp.le_refl _) ?_)
            clear hKc Kc
            refine DT.o (by kernel_rfl) (MSub.drop <| MSub.drop <| MSub.drop <| MSub.drop <| MSub.refl) rfl rfl fun Kc hKc => ?_
            refine JO.appO (l := 7) (l2 := 82) rfl rfl rfl el66 rfl rfl (by simp [atR_length, hashR_length]; have := putTo_le l i leaf l.length; omega) (by simp [atR_length, hashR_length, maxLen]; have := putTo_le l i leaf l.length; omega) fun v83 => (hKc _ _ _ (Hp.le_refl _) ?_)
            clear hKc Kc
            refine DT.o (by kernel_rfl) (MSub.drop <| MSub.drop <| MSub.drop <| MSub.drop <| MSub.refl) rfl rfl fun Kc hKc => ?_
            refine JO.appO (l := 8) (l2 := 86) rfl rfl rfl el38 rfl rfl (by simp [atR_length, hashR_length]; have := putTo_le l i leaf l.length; omega) (by simp [atR_length, hashR_length, maxLen]; have := putTo_le l i leaf l.length; omega) fun v87 => (hKc _ _ _ (Hp.le_refl _) ?_)
            clear hKc Kc
            refine DT.o' (by kernel_rfl) (by kernel_rfl) rfl rfl fun Kc hKc => ?_
            refine JO.q rfl rfl (V.as rfl) (hKc _ _ _ (Hp.le_refl _) ?_)
            clear hKc Kc
            refine DT.o' (by kernel_rfl) (by kernel_rfl) rfl rfl fun Kc hKc => ?_
            refine JO.q rfl rfl (V.as rfl) (hKc _ _ _ (Hp.le_refl _) ?_)
            clear hKc Kc
            refine DT.nil' (by kernel_rfl) ?_
            exact Po.cut (v83, v87) (Sub.cons rfl <| Sub.cons rfl <| Sub.cons rfl <| Sub.nil) (MSub.pullE rfl (by rw [hP1]; exact ow_at v83 3 (putTo l i leaf l.length).1 (i, leaf)) <| MSub.pullE rfl (by rw [hP1]; exact ow_hash v87 29 (putTo l i leaf l.length).1 (i, leaf)) <| MSub.pull rfl <| MSub.drop <| MSub.drop <| MSub.drop <| MSub.refl)
        · have hP1 : put l i leaf = (putTo l i leaf l.length).1 := if_neg (by simpa using h79)
          refine C.skip ?_
          exact Po.cut (w7, w8) (Sub.cons rfl <| Sub.cons rfl <| Sub.cons rfl <| Sub.nil) (MSub.pullE rfl (by rw [hP1]) <| MSub.pullE rfl (by rw [hP1]) <| MSub.pull rfl <| MSub.drop <| MSub.refl)
      obtain ⟨y7, y8⟩ := y
      dsimp only
      refine C.ow (l := 7) rfl fun a7 c7 hv7 => ?_
      subst hv7
      refine C.ow (l := 8) rfl fun a8 c8 hv8 => ?_
      subst hv8
      refine C.seq ?_
      refine C.reg ?_
      refine J.q rfl rfl rfl (V.mv rfl) ?_
      refine J.q rfl rfl rfl (V.mv rfl) ?_
      refine J.q rfl rfl rfl (V.mv rfl) ?_
      refine J.q rfl rfl rfl (V.mv rfl) ?_
      refine J.q rfl rfl rfl (V.nc rfl) ?_
      refine J.q rfl rfl rfl (V.fa rfl fo177_0) ?_
      refine J.one rfl (JO.st (i := 0) (l := 105) rfl rfl rfl sz66 rfl rfl ?_)
      refine J.q rfl rfl rfl (V.nc rfl) ?_
      refine J.q rfl rfl rfl (V.fa rfl fo177_1) ?_
      refine J.one rfl (JO.st (i := 1) (l := 105) rfl rfl rfl sz38 rfl rfl ?_)
      refine J.nil ?_
      refine Po.then ?_
      refine C.seq ?_
      refine C.reg ?_
      refine J.q rfl rfl rfl (V.as rfl) ?_
      refine J.nil ?_
      refine Po.then ?_
      refine C.ret ?_
      exact Po.end1 rfl rfl rfl fun W hI => ⟨_, _, rfl, ⟨_, _, rfl, rfl⟩, (hI.sub (MSub.pull rfl <| MSub.pullL (l := 7) rfl <| MSub.pullL (l := 8) rfl <| MSub.refl)).unro.unro⟩
end Go.Proofs
