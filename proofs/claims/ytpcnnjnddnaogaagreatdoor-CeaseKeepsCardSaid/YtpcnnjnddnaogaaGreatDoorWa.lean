import Derived.Test.YtpcnnjnddnaogaaGreatDoorEc
import Derived.Test.YtpcnnjnddnaogaaGreatDoorProg
set_option linter.unusedVariables false
set_option linter.unusedSimpArgs false
set_option linter.unusedSectionVars false
set_option linter.unnecessarySimpa false
set_option exponentiation.threshold 1000
namespace Go.Proofs
open Go Go.Sx Go.Db
set_option maxRecDepth 100000
theorem tx245 : Tx Tryz.prog 245 := ⟨Tryz.f245, Tryz.func245, rfl, by kernel_rfl⟩
theorem sl73 : Sl Tryz.prog 73 5 1 := ⟨Tryz.underlying73, by kernel_rfl⟩
theorem sc5 : Sc Tryz.prog 5 := ⟨⟨_, Tryz.underlying5, rfl⟩, by kernel_rfl⟩
theorem zr227 : Zr Tryz.prog 227 (uni wv 1 (List.replicate 64 0)) := by unfold Zr; kernel_rfl
theorem ar227 : Ar Tryz.prog 227 64 225 1 := ⟨Tryz.underlying227, by kernel_rfl⟩
theorem sc225 : Sc Tryz.prog 225 := ⟨⟨_, Tryz.underlying225, rfl⟩, by kernel_rfl⟩
theorem sz225 : (Tryz.prog.info? 225).map (·.size) = some 1 := by kernel_rfl
theorem mixed : Tryz.prog.follows .mixedOrders = true := by kernel_rfl
theorem tx232 : Tx Tryz.prog 232 := ⟨Tryz.f232, Tryz.func232, rfl, by kernel_rfl⟩
theorem ag227 : Ag Tryz.prog 227 64 := ⟨⟨_, Tryz.underlying227, rfl⟩, by kernel_rfl⟩
theorem sz227 : (Tryz.prog.info? 227).map (·.size) = some 64 := by kernel_rfl
theorem ag283 : Ag Tryz.prog 283 8 := ⟨⟨_, Tryz.underlying283, rfl⟩, by kernel_rfl⟩
theorem ar283 : Ar Tryz.prog 283 8 225 1 := ⟨Tryz.underlying283, by kernel_rfl⟩
theorem sl304 : Sl Tryz.prog 304 225 1 := ⟨Tryz.underlying304, by kernel_rfl⟩
theorem zr283 : Zr Tryz.prog 283 (uni wv 1 (List.replicate 8 0)) := by unfold Zr; kernel_rfl
theorem sz283 : (Tryz.prog.info? 283).map (·.size) = some 8 := by kernel_rfl
theorem tx231 : Tx Tryz.prog 231 := ⟨Tryz.f231, Tryz.func231, rfl, by kernel_rfl⟩

theorem RotateLeft32_pu (x s : UInt32) (h0 : 0 < s.toNat) (h1 : s.toNat < 32) (w0 : World) (ro : Hp) (M : Res) : Pu Tryz.prog 245 #[wv x, .int .i64 (-(s.toNat : Int))] w0 ro M (wv (rotr x s)) := by
  refine Pu.enter Tryz.func245 rfl rfl ?_
  refine C.seq ?_
  refine C.reg ?_
  refine J.q rfl rfl rfl (V.as rfl) ?_
  refine J.nil ?_
  refine Po.then ?_
  refine C.seq ?_
  refine C.reg ?_
  refine J.q rfl rfl rfl (V.mv rfl) ?_
  refine J.q rfl rfl rfl (V.to (V.cv rfl Tryz.underlying3 Tryz.underlying84) (rot1 s h0 h1)) ?_
  refine J.q rfl rfl rfl (V.to (V.and64 (a := 18446744073709551616 - s.toNat) (b := 31) rfl rfl (by omega) (by omega)) (rot2 s h0 h1)) ?_
  refine J.q rfl rfl rfl (V.as rfl) ?_
  refine J.nil ?_
  refine Po.then ?_
  refine C.seq ?_
  refine C.reg ?_
  refine J.q rfl rfl rfl (V.mv rfl) ?_
  refine J.q rfl rfl rfl (V.mv rfl) ?_
  refine J.q rfl rfl rfl (V.shl32 rfl rfl (rot3 s h0 h1)) ?_
  refine J.q rfl rfl rfl (V.mv rfl) ?_
  refine J.q rfl rfl rfl (V.mv rfl) ?_
  refine J.q rfl rfl rfl (V.to (V.subW rfl rfl) (rot4 s h0 h1)) ?_
  refine J.q rfl rfl rfl (V.shr32 rfl rfl h1) ?_
  refine J.q rfl rfl rfl (V.or32 rfl rfl) ?_
  refine J.q rfl rfl rfl (V.as rfl) ?_
  refine J.nil ?_
  refine Po.then ?_
  refine C.ret ?_
  exact Po.end1 rfl rfl rfl fun W hI => ⟨rfl, hI⟩

theorem right_pu (x s : UInt32) (h0 : 0 < s.toNat) (h1 : s.toNat < 32) (w0 : World) (ro : Hp) (M : Res) : Pu Tryz.prog 232 #[wv x, .int .i64 (s.toNat : Int)] w0 ro M (wv (rotr x s)) := by
  refine Pu.enter Tryz.func232 rfl rfl ?_
  refine C.seq ?_
  refine C.reg ?_
  refine J.q rfl rfl rfl (V.as rfl) ?_
  refine J.nil ?_
  refine Po.then ?_
  refine C.seq ?_
  refine C.reg ?_
  refine J.q rfl rfl rfl (V.mv rfl) ?_
  refine J.q rfl rfl rfl (V.mv rfl) ?_
  refine J.q rfl rfl rfl (V.to (V.neg rfl) (rot5 s h1)) ?_
  refine J.callP rfl tx245 rfl (RotateLeft32_pu _ s h0 h1 _ _ _) ?_ 
  refine J.q rfl rfl rfl (V.as rfl) ?_
  refine J.nil ?_
  refine Po.then ?_
  refine C.ret ?_
  exact Po.end1 rfl rfl rfl fun W hI => ⟨rfl, hI⟩

theorem spread_pu (v : Value) (b : List UInt8) (w0 : World) (ro : Hp) (M : Res) (hR : RS ro v 1 (bys b)) (hl : b.length = 64) : Pu Tryz.prog 231 #[v] w0 ro M (ag (uni wv 1 (sched b))) := by
  refine Pu.enter Tryz.func231 rfl rfl ?_
  refine C.seq ?_
  refine C.reg ?_
  refine J.one rfl (JO.alloc (l := 2) rfl zr227 fun b2 => ?_)
  refine J.nil ?_
  refine Po.then ?_
  refine C.seq ?_
  refine C.reg ?_
  refine J.one rfl (JO.alloc (l := 3) rfl zr227 fun b3 => ?_)
  refine J.nil ?_
  refine Po.then ?_
  refine C.seq ?_
  refine C.seq ?_
  refine C.reg ?_
  refine J.q rfl rfl rfl (V.mv rfl) ?_
  refine J.nil ?_
  refine Po.then ?_
  refine C.block ?_
  refine C.loopP (fun (i : Nat) => i ≤ 64) (fun (i : Nat) => [(9, .int .i64 (i : Int)), (3, .pointer (some ⟨b3, 0, none⟩)), (2, .pointer (some ⟨b2, 0, none⟩)), (0, v)]) (fun (i : Nat) => (3, St b3 (uni wv 1 (spr0 b i)) 227) :: (2, St b2 (uni wv 1 (List.replicate 64 0)) 227) :: M) (fun (i : Nat) => 64 - i) 0 (by first | omega | (dsimp only; omega)) (Sub.cons rfl <| Sub.cons rfl <| Sub.cons rfl <| Sub.cons rfl <| Sub.nil) (MSub.pull rfl <| MSub.pull rfl <| MSub.refl) fun i hok => ?_
  refine C.seq ?_
  refine C.reg ?_
  refine J.q rfl rfl rfl (V.lss rfl rfl) ?_
  refine J.nil ?_
  refine Po.then ?_
  refine C.seq ?_
  refine C.ifd rfl (fun h10 => ?_) (fun h10 => ?_)
  · have hi : i < 64 := by omega
    refine C.skip ?_
    refine Po.then ?_
    refine C.seq ?_
    refine C.block ?_
    refine C.seq ?_
    refine C.reg ?_
    refine J.q rfl rfl rfl (V.mv rfl) ?_
    refine J.q rfl rfl rfl (V.as rfl) ?_
    refine J.nil ?_
    refine Po.then ?_
    refine C.seq ?_
    refine C.seq ?_
    refine C.reg ?_
    refine J.q rfl rfl rfl (V.mv rfl) ?_
    refine J.q rfl rfl rfl (V.lss rfl rfl) ?_
    refine J.nil ?_
    refine Po.then ?_
    refine C.ifd rfl (fun h13 => ?_) (fun h13 => ?_)
    · have hR2 : RS ro (subS v (4 * i) (4 * i + 4) 1) 1 (bys ((b.drop (4 * i)).take 4)) := by
        have := hR.sub (lo := 4 * i) (hi := 4 * i + 4) (by omega) (by rw [bys_length]; omega)
        rwa [Nat.add_sub_cancel_left, bys_sub] at this
      refine C.seq ?_
      refine C.seq ?_
      refine C.reg ?_
      refine J.q rfl rfl rfl (V.mv rfl) ?_
      refine J.q rfl rfl rfl (V.mv rfl) ?_
      refine J.q rfl rfl rfl (V.mul rfl rfl (by omega)) ?_
      refine J.q rfl rfl rfl (V.mv rfl) ?_
      refine J.q rfl rfl rfl (V.mul rfl rfl (by omega)) ?_
      refine J.q rfl rfl rfl (V.add rfl rfl (by omega)) ?_
      refine J.q rfl rfl rfl (V.slR (lo := 4 * i) (hi := 4 * i + 4) rfl hR sl73 ⟨_, rfl⟩ ⟨_, rfl⟩ (by omega) (by rw [bys_length]; omega)) ?_
      refine J.q rfl rfl rfl (V.lenR rfl hR2 Tryz.underlying73) ?_
      refine J.q rfl rfl rfl (V.mv rfl) ?_
      refine J.nil ?_
      refine Po.then ?_
      refine C.block ?_
      refine C.loopP (fun (k : Nat) => k ≤ 4) (fun (k : Nat) => [(22, .int .i64 (k : Int)), (21, .int .i64 4), (20, subS v (4 * i) (4 * i + 4) 1), (9, .int .i64 (i : Int)), (4, .int .i64 (i : Int)), (3, .pointer (some ⟨b3, 0, none⟩)), (2, .pointer (some ⟨b2, 0, none⟩)), (0, v)]) (fun (k : Nat) => (3, St b3 (uni wv 1 (spr b i (wordTo b i k))) 227) :: (2, St b2 (uni wv 1 (List.replicate 64 0)) 227) :: M) (fun (k : Nat) => 4 - k) 0 (by first | omega | (dsimp only; omega)) (Sub.cons rfl <| Sub.cons' rfl (by simp [bys, hl]; omega) <| Sub.cons rfl <| Sub.cons rfl <| Sub.cons rfl <| Sub.cons rfl <| Sub.cons rfl <| Sub.cons rfl <| Sub.nil) (MSub.pullE rfl (by rw [spr0_eq b (by omega)]; rfl) <| MSub.pull rfl <| MSub.refl) fun k hok => ?_
      refine C.seq ?_
      refine C.reg ?_
      refine J.q rfl rfl rfl (V.lss rfl rfl) ?_
      refine J.nil ?_
      refine Po.then ?_
      refine C.seq ?_
      refine C.ifd rfl (fun h23 => ?_) (fun h23 => ?_)
      · have hk : k < 4 := by omega
        have hget : (bys ((b.drop (4 * i)).take 4))[((k : Int)).toNat]? = some [bv (b.getD (4 * i + k) 0)] := by
          have := bys_get (b := (b.drop (4 * i)).take 4) (k := k) (by simp; omega)
          simp [List.getElem?_take, hk] at this ⊢
          exact this
        refine C.skip ?_
        refine Po.then ?_
        refine C.seq ?_
        refine C.block ?_
        refine C.seq ?_
        refine C.reg ?_
        refine J.q rfl rfl rfl (V.iaR rfl hR2 rfl sl73 (by simp [bys, hl]; omega)) ?_
        refine J.q rfl rfl rfl (V.ldRs rfl hR2 hget sc5) ?_
        refine J.q rfl rfl rfl (V.as rfl) ?_
        refine J.nil ?_
        refine Po.then ?_
        refine C.reg ?_
        refine J.q rfl rfl rfl (V.mv rfl) ?_
        refine J.q rfl rfl rfl (V.mv rfl) ?_
        refine J.q rfl rfl rfl (V.iaA rfl rfl ar227 (by omega)) ?_
        refine J.q rfl rfl rfl (V.ldU (lab := 3) rfl rfl sc225 (spr_at b i _) (by omega) rfl) ?_
        refine J.q rfl rfl rfl (V.shl32 (s := 8) rfl rfl (by decide)) ?_
        refine J.q rfl rfl rfl (V.mv rfl) ?_
        refine J.q rfl rfl rfl (V.cvBW rfl Tryz.underlying5 Tryz.underlying225) ?_
        refine J.q rfl rfl rfl (V.or32 rfl rfl) ?_
        refine J.q rfl rfl rfl (V.iaA rfl rfl ar227 (by omega)) ?_
        refine J.one rfl (JO.stU (lab := 3) rfl rfl rfl sz225 (spr_at b i _) (by omega) ?_)
        refine J.nil ?_
        refine Po.blkN ?_
        refine Po.then ?_
        refine C.reg ?_
        refine J.q rfl rfl rfl (V.add rfl rfl (by omega)) ?_
        refine J.q rfl rfl rfl (V.mv rfl) ?_
        refine J.nil ?_
        exact Po.roundP (k + 1) (by first | omega | (dsimp only; omega)) (Sub.cons rfl <| Sub.cons rfl <| Sub.cons rfl <| Sub.cons rfl <| Sub.cons rfl <| Sub.cons rfl <| Sub.cons rfl <| Sub.cons rfl <| Sub.nil) (MSub.pullE rfl (by rw [spr_set]; rfl) <| MSub.pull rfl <| MSub.refl) (by first | omega | (dsimp only; omega))
      · obtain rfl : k = 4 := by omega
        refine C.exit ?_
        refine Po.thenX ?_
        refine Po.thenX ?_
        refine Po.blkX ?_
        refine Po.then ?_
        refine C.exit ?_
        refine Po.thenX ?_
        refine Po.blkX ?_
        refine Po.then ?_
        refine C.reg ?_
        refine J.q rfl rfl rfl (V.add rfl rfl (by omega)) ?_
        refine J.q rfl rfl rfl (V.mv rfl) ?_
        refine J.nil ?_
        exact Po.roundP (i + 1) (by first | omega | (dsimp only; omega)) (Sub.cons rfl <| Sub.cons rfl <| Sub.cons rfl <| Sub.cons rfl <| Sub.nil) (MSub.pullE rfl (by rw [spr_next b i (by rw [if_pos (by omega)])]) <| MSub.pull rfl <| MSub.refl) (by first | omega | (dsimp only; omega))
    · have hge : 16 ≤ i := by omega
      rw [spr0_eq b hi]
      refine C.skip ?_
      refine Po.then ?_
      refine C.seq ?_
      refine C.drawM [] [0, 1, 2, 3, 4, 5, 6, 7, 8, 9] mixed (by kernel_rfl) (by kernel_rfl) ?_
      refine DE.q rfl rfl rfl rfl (V.mv rfl) ?_
      refine DE.q rfl rfl rfl rfl (V.sub' rfl rfl (by omega)) ?_
      refine DE.q rfl rfl rfl rfl (V.iaA rfl rfl ar227 (by omega)) ?_
      refine DE.q rfl rfl rfl rfl (V.ldU (lab := 3) rfl rfl sc225 (spr_old b (j := i - 15) 0 (by omega)) (by omega) rfl) ?_
      refine DE.q rfl rfl rfl rfl (V.mv rfl) ?_
      refine DE.q rfl rfl rfl rfl (V.sub' rfl rfl (by omega)) ?_
      refine DE.q rfl rfl rfl rfl (V.iaA rfl rfl ar227 (by omega)) ?_
      refine DE.q rfl rfl rfl rfl (V.ldU (lab := 3) rfl rfl sc225 (spr_old b (j := i - 2) 0 (by omega)) (by omega) rfl) ?_
      refine DE.q rfl rfl rfl rfl (V.as rfl) ?_
      refine DE.q rfl rfl rfl rfl (V.as rfl) ?_
      refine DE.nil ?_
      refine DT.nil (MSub.refl) ?_
      refine Po.then ?_
      refine C.drawM [29] [0, 1, 2, 3, 4, 5, 6, 7, 8, 9, 10, 11, 12, 13, 14, 15, 16, 17, 18, 19, 20, 21, 22, 23, 24, 25, 26, 27, 28] mixed (by kernel_rfl) (by kernel_rfl) ?_
      refine DE.q rfl rfl rfl rfl (V.mv rfl) ?_
      refine DE.q rfl rfl rfl rfl (V.mv rfl) ?_
      refine DE.q rfl rfl rfl rfl (V.sub' rfl rfl (by omega)) ?_
      refine DE.q rfl rfl rfl rfl (V.iaA rfl rfl ar227 (by omega)) ?_
      refine DE.q rfl rfl rfl rfl (V.ldU (lab := 3) rfl rfl sc225 (spr_old b (j := i - 16) 0 (by omega)) (by omega) rfl) ?_
      refine DE.q rfl rfl rfl rfl (V.mv rfl) ?_
      refine DE.q rfl rfl rfl rfl (V.sub' rfl rfl (by omega)) ?_
      refine DE.q rfl rfl rfl rfl (V.iaA rfl rfl ar227 (by omega)) ?_
      refine DE.q rfl rfl rfl rfl (V.ldU (lab := 3) rfl rfl sc225 (spr_old b (j := i - 7) 0 (by omega)) (by omega) rfl) ?_
      refine DE.q rfl rfl rfl rfl (V.add32 rfl rfl) ?_
      refine DE.q rfl rfl rfl rfl (V.mv rfl) ?_
      refine DE.call rfl rfl rfl rfl tx232 rfl (fun N hN => right_pu _ 7 (by decide) (by decide) _ _ _) ?_
      refine DE.q rfl rfl rfl rfl (V.mv rfl) ?_
      refine DE.call rfl rfl rfl rfl tx232 rfl (fun N hN => right_pu _ 18 (by decide) (by decide) _ _ _) ?_
      refine DE.q rfl rfl rfl rfl (V.xor32 rfl rfl) ?_
      refine DE.q rfl rfl rfl rfl (V.mv rfl) ?_
      refine DE.q rfl rfl rfl rfl (V.shr32 (s := 3) rfl rfl (by decide)) ?_
      refine DE.q rfl rfl rfl rfl (V.xor32 rfl rfl) ?_
      refine DE.q rfl rfl rfl rfl (V.add32 rfl rfl) ?_
      refine DE.q rfl rfl rfl rfl (V.mv rfl) ?_
      refine DE.call rfl rfl rfl rfl tx232 rfl (fun N hN => right_pu _ 17 (by decide) (by decide) _ _ _) ?_
      refine DE.q rfl rfl rfl rfl (V.mv rfl) ?_
      refine DE.call rfl rfl rfl rfl tx232 rfl (fun N hN => right_pu _ 19 (by decide) (by decide) _ _ _) ?_
      refine DE.q rfl rfl rfl rfl (V.xor32 rfl rfl) ?_
      refine DE.q rfl rfl rfl rfl (V.mv rfl) ?_
      refine DE.q rfl rfl rfl rfl (V.shr32 (s := 10) rfl rfl (by decide)) ?_
      refine DE.q rfl rfl rfl rfl (V.xor32 rfl rfl) ?_
      refine DE.q rfl rfl rfl rfl (V.add32 rfl rfl) ?_
      refine DE.q rfl rfl rfl rfl (V.iaA rfl rfl ar227 (by omega)) ?_
      refine DE.nil ?_
      refine DT.o (by kernel_rfl) (MSub.refl) rfl rfl fun Kc hKc => ?_
      refine JO.stU (lab := 3) rfl rfl rfl sz225 (spr_at b i _) (by omega) (hKc _ _ _ (Hp.le_refl _) ?_)
      clear hKc Kc
      refine DT.nil' (by kernel_rfl) ?_
      refine Po.blkN ?_
      refine Po.then ?_
      refine C.reg ?_
      refine J.q rfl rfl rfl (V.add rfl rfl (by omega)) ?_
      refine J.q rfl rfl rfl (V.mv rfl) ?_
      refine J.nil ?_
      exact Po.roundP (i + 1) (by first | omega | (dsimp only; omega)) (Sub.cons rfl <| Sub.cons rfl <| Sub.cons rfl <| Sub.cons rfl <| Sub.nil) (MSub.pullE rfl (by rw [spr_set, spr_next b i (by rw [if_neg (by omega)]; rfl)]) <| MSub.pull rfl <| MSub.refl) (by first | omega | (dsimp only; omega))
  · obtain rfl : i = 64 := by omega
    rw [spr0_64]
    refine C.exit ?_
    refine Po.thenX ?_
    refine Po.thenX ?_
    refine Po.blkX ?_
    refine Po.then ?_
    refine C.seq ?_
    refine C.reg ?_
    refine J.q rfl rfl rfl (V.ldW 3 rfl rfl ag227 (by simp [lsz_uni, spr0_length, sched_length])) ?_
    refine J.one rfl (JO.stS (l := 2) rfl rfl rfl sz227 (by simp [lsz_uni, spr0_length, sched_length]) (by simp [lsz_uni, spr0_length, sched_length]) ?_)
    refine J.nil ?_
    refine Po.then ?_
    refine C.ret ?_
    exact Po.end1 rfl rfl (RV.cS (l := 2) rfl rfl ag227 (by simp [lsz_uni, spr0_length, sched_length])) fun W hI => ⟨rfl, hI.drop.drop⟩

theorem block_fn (bh : Nat) (h : List UInt32) (v : Value) (b : List UInt8) (w0 : World) (ro : Hp) (M : Res) (hK : RoK ro) (hR : RS ro v 1 (bys b)) (hl : b.length = 64) (hl8 : h.length = 8) : Sx.Fn Tryz.prog 210 #[.pointer (some ⟨bh, 0, none⟩), v] w0 ro ((100, St bh (uni wv 1 (h)) 283) :: M) (fun u M1 => u = .tuple #[] ∧ M1 = (100, St bh (uni wv 1 (compress h b)) 283) :: M) := by
  refine Sx.Fn.enter Tryz.func210 rfl rfl ?_
  refine C.seq ?_
  refine C.reg ?_
  refine J.q rfl rfl rfl (V.mv rfl) ?_
  refine J.q rfl rfl rfl (V.nc rfl) ?_
  refine J.q rfl rfl rfl (V.ldW 100 rfl rfl ag283 (by simp [lsz_uni, hl8])) ?_
  refine J.one rfl (JO.alloc (l := 4) rfl zr283 fun b4 => ?_)
  refine J.one rfl (JO.stS (l := 4) rfl rfl rfl sz283 (by simp [lsz_uni, hl8, roundsTo_length hl8]) (by simp [lsz_uni, hl8, roundsTo_length hl8]) ?_)
  refine J.nil ?_
  refine Po.then ?_
  refine C.seq ?_
  refine C.seq ?_
  refine C.reg ?_
  refine J.q rfl rfl rfl (V.mv rfl) ?_
  refine J.callP rfl tx231 rfl (spread_pu v b w0 ro _ hR hl) ?_ 
  refine J.q rfl rfl rfl (V.mv rfl) ?_
  refine J.nil ?_
  refine Po.then ?_
  refine C.block ?_
  refine C.loopP (fun (i : Nat) => i ≤ 64) (fun (i : Nat) => [(18, .int .i64 (i : Int)), (17, ag (uni wv 1 (sched b))), (4, .pointer (some ⟨b4, 0, none⟩)), (0, .pointer (some ⟨bh, 0, none⟩)), (1, v)]) (fun (i : Nat) => (4, St b4 (uni wv 1 (roundsTo h (sched b) i)) 283) :: (100, St bh (uni wv 1 (h)) 283) :: M) (fun (i : Nat) => 64 - i) 0 (by first | omega | (dsimp only; omega)) (Sub.cons rfl <| Sub.cons rfl <| Sub.cons rfl <| Sub.cons rfl <| Sub.cons rfl <| Sub.nil) (MSub.pull rfl <| MSub.pull rfl <| MSub.refl) fun i hok => ?_
  refine C.seq ?_
  refine C.reg ?_
  refine J.q rfl rfl rfl (V.lss rfl rfl) ?_
  refine J.nil ?_
  refine Po.then ?_
  refine C.seq ?_
  refine C.ifd rfl (fun h19 => ?_) (fun h19 => ?_)
  · have hi : i < 64 := by omega
    have hx : (sched b)[i]? = some ((sched b).getD i 0) := getD_some (by rw [sched_length]; omega)
    have hk : kk[i]? = some (kk.getD i 0) := getD_some hi
    obtain ⟨a0, a1, a2, a3, a4, a5, a6, a7, hv8⟩ := eight (roundsTo_length (h := h) (w := sched b) hl8 i)
    rw [hv8]
    refine C.skip ?_
    refine Po.then ?_
    refine C.seq ?_
    refine C.block ?_
    refine C.seq ?_
    refine C.reg ?_
    refine J.q rfl rfl rfl (V.mv rfl) ?_
    refine J.q rfl rfl rfl (V.ixU rfl rfl ar227 sc225 hx rfl hi (fun _ => rfl)) ?_
    refine J.q rfl rfl rfl (V.as rfl) ?_
    refine J.q rfl rfl rfl (V.as rfl) ?_
    refine J.nil ?_
    refine Po.then ?_
    refine C.seq ?_
    refine C.drawM [] [0, 1, 2, 3, 4, 5] mixed (by kernel_rfl) (by kernel_rfl) ?_
    refine DE.q rfl rfl rfl rfl (V.iaA rfl rfl ar283 (by omega)) ?_
    refine DE.q rfl rfl rfl rfl (V.ldU (lab := 4) rfl rfl sc225 (i := 0) rfl (by omega) rfl) ?_
    refine DE.q rfl rfl rfl rfl (V.iaA rfl rfl ar283 (by omega)) ?_
    refine DE.q rfl rfl rfl rfl (V.ldU (lab := 4) rfl rfl sc225 (i := 4) rfl (by omega) rfl) ?_
    refine DE.q rfl rfl rfl rfl (V.as rfl) ?_
    refine DE.q rfl rfl rfl rfl (V.as rfl) ?_
    refine DE.nil ?_
    refine DT.nil (MSub.refl) ?_
    refine Po.then ?_
    refine C.seq ?_
    refine C.drawM [] [0, 1, 2, 3, 4, 5, 6, 7, 8, 9, 10, 11, 12, 13, 14, 15, 16, 17, 18, 19, 20, 21, 22, 23, 24, 25, 26, 27, 28] mixed (by kernel_rfl) (by kernel_rfl) ?_
    refine DE.q rfl rfl rfl rfl (V.iaA rfl rfl ar283 (by omega)) ?_
    refine DE.q rfl rfl rfl rfl (V.ldU (lab := 4) rfl rfl sc225 (i := 7) rfl (by omega) rfl) ?_
    refine DE.q rfl rfl rfl rfl (V.mv rfl) ?_
    refine DE.call rfl rfl rfl rfl tx232 rfl (fun N hN => right_pu _ 6 (by decide) (by decide) _ _ _) ?_
    refine DE.q rfl rfl rfl rfl (V.mv rfl) ?_
    refine DE.call rfl rfl rfl rfl tx232 rfl (fun N hN => right_pu _ 11 (by decide) (by decide) _ _ _) ?_
    refine DE.q rfl rfl rfl rfl (V.xor32 rfl rfl) ?_
    refine DE.q rfl rfl rfl rfl (V.mv rfl) ?_
    refine DE.call rfl rfl rfl rfl tx232 rfl (fun N hN => right_pu _ 25 (by decide) (by decide) _ _ _) ?_
    refine DE.q rfl rfl rfl rfl (V.xor32 rfl rfl) ?_
    refine DE.q rfl rfl rfl rfl (V.add32 rfl rfl) ?_
    refine DE.q rfl rfl rfl rfl (V.mv rfl) ?_
    refine DE.q rfl rfl rfl rfl (V.iaA rfl rfl ar283 (by omega)) ?_
    refine DE.q rfl rfl rfl rfl (V.ldU (lab := 4) rfl rfl sc225 (i := 5) rfl (by omega) rfl) ?_
    refine DE.q rfl rfl rfl rfl (V.and32 rfl rfl) ?_
    refine DE.q rfl rfl rfl rfl (V.mv rfl) ?_
    refine DE.q rfl rfl rfl rfl (V.not32 rfl) ?_
    refine DE.q rfl rfl rfl rfl (V.iaA rfl rfl ar283 (by omega)) ?_
    refine DE.q rfl rfl rfl rfl (V.ldU (lab := 4) rfl rfl sc225 (i := 6) rfl (by omega) rfl) ?_
    refine DE.q rfl rfl rfl rfl (V.and32 rfl rfl) ?_
    refine DE.q rfl rfl rfl rfl (V.xor32 rfl rfl) ?_
    refine DE.q rfl rfl rfl rfl (V.add32 rfl rfl) ?_
    refine DE.q rfl rfl rfl rfl (V.mv rfl) ?_
    refine DE.q rfl rfl rfl rfl (V.iaA rfl rfl ar227 (by omega)) ?_
    refine DE.q rfl rfl rfl rfl (V.ldK hK rfl (by simpa using hk) sc225) ?_
    refine DE.q rfl rfl rfl rfl (V.add32 rfl rfl) ?_
    refine DE.q rfl rfl rfl rfl (V.mv rfl) ?_
    refine DE.q rfl rfl rfl rfl (V.add32 rfl rfl) ?_
    refine DE.q rfl rfl rfl rfl (V.as rfl) ?_
    refine DE.nil ?_
    refine DT.nil (MSub.refl) ?_
    refine Po.then ?_
    refine C.seq ?_
    refine C.drawM [] [0, 1, 2, 3, 4, 5, 6, 7, 8, 9, 10, 11, 12, 13, 14, 15, 16, 17, 18, 19, 20, 21, 22, 23, 24] mixed (by kernel_rfl) (by kernel_rfl) ?_
    refine DE.q rfl rfl rfl rfl (V.mv rfl) ?_
    refine DE.call rfl rfl rfl rfl tx232 rfl (fun N hN => right_pu _ 2 (by decide) (by decide) _ _ _) ?_
    refine DE.q rfl rfl rfl rfl (V.mv rfl) ?_
    refine DE.call rfl rfl rfl rfl tx232 rfl (fun N hN => right_pu _ 13 (by decide) (by decide) _ _ _) ?_
    refine DE.q rfl rfl rfl rfl (V.xor32 rfl rfl) ?_
    refine DE.q rfl rfl rfl rfl (V.mv rfl) ?_
    refine DE.call rfl rfl rfl rfl tx232 rfl (fun N hN => right_pu _ 22 (by decide) (by decide) _ _ _) ?_
    refine DE.q rfl rfl rfl rfl (V.xor32 rfl rfl) ?_
    refine DE.q rfl rfl rfl rfl (V.mv rfl) ?_
    refine DE.q rfl rfl rfl rfl (V.iaA rfl rfl ar283 (by omega)) ?_
    refine DE.q rfl rfl rfl rfl (V.ldU (lab := 4) rfl rfl sc225 (i := 1) rfl (by omega) rfl) ?_
    refine DE.q rfl rfl rfl rfl (V.and32 rfl rfl) ?_
    refine DE.q rfl rfl rfl rfl (V.mv rfl) ?_
    refine DE.q rfl rfl rfl rfl (V.iaA rfl rfl ar283 (by omega)) ?_
    refine DE.q rfl rfl rfl rfl (V.ldU (lab := 4) rfl rfl sc225 (i := 2) rfl (by omega) rfl) ?_
    refine DE.q rfl rfl rfl rfl (V.and32 rfl rfl) ?_
    refine DE.q rfl rfl rfl rfl (V.xor32 rfl rfl) ?_
    refine DE.q rfl rfl rfl rfl (V.iaA rfl rfl ar283 (by omega)) ?_
    refine DE.q rfl rfl rfl rfl (V.ldU (lab := 4) rfl rfl sc225 (i := 1) rfl (by omega) rfl) ?_
    refine DE.q rfl rfl rfl rfl (V.iaA rfl rfl ar283 (by omega)) ?_
    refine DE.q rfl rfl rfl rfl (V.ldU (lab := 4) rfl rfl sc225 (i := 2) rfl (by omega) rfl) ?_
    refine DE.q rfl rfl rfl rfl (V.and32 rfl rfl) ?_
    refine DE.q rfl rfl rfl rfl (V.xor32 rfl rfl) ?_
    refine DE.q rfl rfl rfl rfl (V.add32 rfl rfl) ?_
    refine DE.q rfl rfl rfl rfl (V.as rfl) ?_
    refine DE.nil ?_
    refine DT.nil (MSub.refl) ?_
    refine Po.then ?_
    refine C.seq ?_
    refine C.drawM [2] [0, 1] mixed (by kernel_rfl) (by kernel_rfl) ?_
    refine DE.q rfl rfl rfl rfl (V.slA (lo := 1) (hi := 8) rfl ar283 ⟨_, rfl⟩ rfl (by decide) (by decide) (by decide)) ?_
    refine DE.q rfl rfl rfl rfl (V.slA (lo := 0) (hi := 7) rfl ar283 rfl ⟨_, rfl⟩ (by decide) (by decide) (by decide)) ?_
    refine DE.nil ?_
    refine DT.o (by kernel_rfl) (MSub.refl) rfl rfl fun Kc hKc => ?_
    refine JO.copy (lab := 4) (srcs := [wv a0, wv a1, wv a2, wv a3, wv a4, wv a5, wv a6]) (vs' := uni wv 1 [a0, a0, a1, a2, a3, a4, a5, a6]) rfl rfl rfl sl304 rfl (src_box (lab := 4) rfl (fun j u hj => seven_get (a7 := a7) hj)) (ones_words [a0, a1, a2, a3, a4, a5, a6]) rfl (by simp [lsz_uni]) rfl (hKc _ _ _ (Hp.le_refl _) ?_)
    clear hKc Kc
    refine DT.nil' (by kernel_rfl) ?_
    refine Po.then ?_
    refine C.seq ?_
    refine C.reg ?_
    refine J.q rfl rfl rfl (V.mv rfl) ?_
    refine J.q rfl rfl rfl (V.mv rfl) ?_
    refine J.q rfl rfl rfl (V.add32 rfl rfl) ?_
    refine J.q rfl rfl rfl (V.iaA rfl rfl ar283 (by omega)) ?_
    refine J.one rfl (JO.stU (lab := 4) rfl rfl rfl sz225 (i := 0) rfl (by omega) ?_)
    refine J.nil ?_
    refine Po.then ?_
    refine C.reg ?_
    refine J.q rfl rfl rfl (V.iaA rfl rfl ar283 (by omega)) ?_
    refine J.q rfl rfl rfl (V.ldU (lab := 4) rfl rfl sc225 (i := 4) rfl (by omega) rfl) ?_
    refine J.q rfl rfl rfl (V.mv rfl) ?_
    refine J.q rfl rfl rfl (V.add32 rfl rfl) ?_
    refine J.q rfl rfl rfl (V.iaA rfl rfl ar283 (by omega)) ?_
    refine J.one rfl (JO.stU (lab := 4) rfl rfl rfl sz225 (i := 4) rfl (by omega) ?_)
    refine J.nil ?_
    refine Po.blkN ?_
    refine Po.then ?_
    refine C.reg ?_
    refine J.q rfl rfl rfl (V.add rfl rfl (by omega)) ?_
    refine J.q rfl rfl rfl (V.mv rfl) ?_
    refine J.nil ?_
    exact Po.roundP (i + 1) (by first | omega | (dsimp only; omega)) (Sub.cons rfl <| Sub.cons rfl <| Sub.cons rfl <| Sub.cons rfl <| Sub.cons rfl <| Sub.nil) (MSub.pullE rfl (by rw [roundsTo, hv8]; rfl) <| MSub.pull rfl <| MSub.refl) (by first | omega | (dsimp only; omega))
  · obtain rfl : i = 64 := by omega
    refine C.exit ?_
    refine Po.thenX ?_
    refine Po.thenX ?_
    refine Po.blkX ?_
    refine Po.then ?_
    refine C.seq ?_
    refine C.reg ?_
    refine J.q rfl rfl rfl (V.ldW 4 rfl rfl ag283 (by simp [lsz_uni, hl8, roundsTo_length hl8])) ?_
    refine J.q rfl rfl rfl (V.mv rfl) ?_
    refine J.nil ?_
    refine Po.then ?_
    refine C.block ?_
    refine C.loopP (fun (i : Nat) => i ≤ 8) (fun (i : Nat) => [(92, .int .i64 (i : Int)), (91, ag (uni wv 1 (roundsTo h (sched b) 64))), (0, .pointer (some ⟨bh, 0, none⟩))]) (fun (i : Nat) => (100, St bh (uni wv 1 (cto h b i)) 283) :: (4, St b4 (uni wv 1 (roundsTo h (sched b) 64)) 283) :: M) (fun (i : Nat) => 8 - i) 0 (by first | omega | (dsimp only; omega)) (Sub.cons rfl <| Sub.cons rfl <| Sub.cons rfl <| Sub.nil) (MSub.pullE rfl (by rw [cto0]) <| MSub.pull rfl <| MSub.refl) fun i hok => ?_
    refine C.seq ?_
    refine C.reg ?_
    refine J.q rfl rfl rfl (V.lss rfl rfl) ?_
    refine J.nil ?_
    refine Po.then ?_
    refine C.seq ?_
    refine C.ifd rfl (fun h93 => ?_) (fun h93 => ?_)
    · have hi : i < 8 := by omega
      have hx : (roundsTo h (sched b) 64)[i]? = some ((roundsTo h (sched b) 64).getD i 0) := getD_some (by rw [roundsTo_length hl8]; omega)
      refine C.skip ?_
      refine Po.then ?_
      refine C.seq ?_
      refine C.block ?_
      refine C.seq ?_
      refine C.reg ?_
      refine J.q rfl rfl rfl (V.mv rfl) ?_
      refine J.q rfl rfl rfl (V.ixU rfl rfl ar283 sc225 hx rfl hi (fun _ => rfl)) ?_
      refine J.q rfl rfl rfl (V.as rfl) ?_
      refine J.q rfl rfl rfl (V.as rfl) ?_
      refine J.nil ?_
      refine Po.then ?_
      refine C.drawM [9] [0, 1, 2, 3, 4, 5, 6, 7, 8] mixed (by kernel_rfl) (by kernel_rfl) ?_
      refine DE.q rfl rfl rfl rfl (V.mv rfl) ?_
      refine DE.q rfl rfl rfl rfl (V.mv rfl) ?_
      refine DE.q rfl rfl rfl rfl (V.nc rfl) ?_
      refine DE.q rfl rfl rfl rfl (V.iaA rfl rfl ar283 (by omega)) ?_
      refine DE.q rfl rfl rfl rfl (V.ldU (lab := 100) rfl rfl sc225 (i := i) (cto_at hl8 hi) (by omega) rfl) ?_
      refine DE.q rfl rfl rfl rfl (V.mv rfl) ?_
      refine DE.q rfl rfl rfl rfl (V.add32 rfl rfl) ?_
      refine DE.q rfl rfl rfl rfl (V.nc rfl) ?_
      refine DE.q rfl rfl rfl rfl (V.iaA rfl rfl ar283 (by omega)) ?_
      refine DE.nil ?_
      refine DT.o (by kernel_rfl) (MSub.refl) rfl rfl fun Kc hKc => ?_
      refine JO.stU (lab := 100) rfl rfl rfl sz225 (i := i) (cto_at hl8 hi) (by omega) (hKc _ _ _ (Hp.le_refl _) ?_)
      clear hKc Kc
      refine DT.nil' (by kernel_rfl) ?_
      refine Po.blkN ?_
      refine Po.then ?_
      refine C.reg ?_
      refine J.q rfl rfl rfl (V.add rfl rfl (by omega)) ?_
      refine J.q rfl rfl rfl (V.mv rfl) ?_
      refine J.nil ?_
      exact Po.roundP (i + 1) (by first | omega | (dsimp only; omega)) (Sub.cons rfl <| Sub.cons rfl <| Sub.cons rfl <| Sub.nil) (MSub.pullE rfl (by rw [cto_set hl8 hi]) <| MSub.pull rfl <| MSub.refl) (by first | omega | (dsimp only; omega))
    · obtain rfl : i = 8 := by omega
      refine C.exit ?_
      refine Po.thenX ?_
      refine Po.thenX ?_
      refine Po.blkX ?_
      exact Po.end0 rfl rfl fun W hI => ⟨_, _, rfl, ⟨rfl, rfl⟩, (hI.sub (MSub.pullE rfl (by rw [cto8 hl8]) <| MSub.drop <| MSub.refl))⟩
end Go.Proofs
namespace Go.Proofs
open Go Go.Sx Go.Db
set_option maxRecDepth 100000
theorem el73 : El Tryz.prog 73 5 1 1 := El.of Tryz.underlying73 (by kernel_rfl) (by decide)
theorem zr174 : Zr Tryz.prog 174 (uni bv 1 (List.replicate 32 0)) := by unfold Zr; kernel_rfl
theorem tx208 : Tx Tryz.prog 208 := ⟨Tryz.f208, Tryz.func208, rfl, by kernel_rfl⟩
theorem tx209 : Tx Tryz.prog 209 := ⟨Tryz.f209, Tryz.func209, rfl, by kernel_rfl⟩
theorem tx210 : Tx Tryz.prog 210 := ⟨Tryz.f210, Tryz.func210, rfl, by kernel_rfl⟩
theorem ar174 : Ar Tryz.prog 174 32 5 1 := ⟨Tryz.underlying174, by kernel_rfl⟩
theorem sz5 : (Tryz.prog.info? 5).map (·.size) = some 1 := by kernel_rfl
theorem ag174 : Ag Tryz.prog 174 32 := ⟨⟨_, Tryz.underlying174, rfl⟩, by kernel_rfl⟩
theorem sz174 : (Tryz.prog.info? 174).map (·.size) = some 32 := by kernel_rfl
theorem sl173 : Sl Tryz.prog 173 73 1 := ⟨Tryz.underlying173, by kernel_rfl⟩
theorem sc73 : Sc Tryz.prog 73 := ⟨⟨_, Tryz.underlying73, rfl⟩, by kernel_rfl⟩
theorem ar29 : Ar Tryz.prog 29 8 5 1 := ⟨Tryz.underlying29, by kernel_rfl⟩
theorem zr29 : Zr Tryz.prog 29 [(8, hv h0)] := by unfold Zr; kernel_rfl
theorem tx181 : Tx Tryz.prog 181 := ⟨Tryz.f181, Tryz.func181, rfl, by kernel_rfl⟩
theorem ag29 : Ag Tryz.prog 29 8 := ⟨⟨_, Tryz.underlying29, rfl⟩, by kernel_rfl⟩
theorem sz29 : (Tryz.prog.info? 29).map (·.size) = some 8 := by kernel_rfl
theorem el173 : El Tryz.prog 173 73 1 24 := El.of Tryz.underlying173 (by kernel_rfl) (by decide)
theorem tx146 : Tx Tryz.prog 146 := ⟨Tryz.f146, Tryz.func146, rfl, by kernel_rfl⟩

theorem bclone_fn (l : Nat) (v : Value) (xs : List (List Value)) (w0 : World) (ro : Hp) (M : Res) (hR : RS ro v 1 xs) (hb : xs.length * 1 ≤ 140737488355328) (hm : xs.length ≤ maxLen) : Sx.Fn Tryz.prog 208 #[v] w0 ro M (fun u M1 => M1 = (l, Ow u 5 1 xs) :: M) := by
  refine Sx.Fn.enter Tryz.func208 rfl rfl ?_
  refine C.seq ?_
  refine C.reg ?_
  refine J.q rfl rfl rfl (V.as rfl) ?_
  refine J.nil ?_
  refine Po.then ?_
  refine C.seq ?_
  refine C.seq ?_
  refine C.reg ?_
  refine J.q rfl rfl rfl (V.mv rfl) ?_
  refine J.q rfl rfl rfl (V.nilR rfl (by assumption) Tryz.underlying73) ?_
  refine J.nil ?_
  refine Po.then ?_
  refine C.ite rfl (fun h4 => ?_) (fun h4 => ?_)
  · obtain rfl := hR.nil h4
    refine C.seq ?_
    refine C.nilO 5 5 1 ?_
    refine C.reg ?_
    refine J.q rfl rfl rfl (V.as rfl) ?_
    refine J.nil ?_
    refine Po.then ?_
    refine C.ret ?_
    refine Po.thenR ?_
    exact Po.end1 rfl rfl rfl fun W hI => ⟨_, _, rfl, rfl, (hI.sub (MSub.pullL (l := 5) rfl <| MSub.refl))⟩
  · refine C.skip ?_
    refine Po.then ?_
    refine C.seq ?_
    refine C.reg ?_
    refine J.one rfl (JO.bsl (l := 5) rfl el73 rfl rfl rfl Cs.nil (by decide) fun v5 => ?_)
    refine J.q rfl rfl rfl (V.mv rfl) ?_
    refine J.one rfl (JO.appR (l := 5) rfl rfl rfl el73 rfl (by assumption) (by simpa using hb) (by simpa using hm) fun v7 => ?_)
    refine J.q rfl rfl rfl (V.as rfl) ?_
    refine J.nil ?_
    refine Po.then ?_
    refine C.ret ?_
    exact Po.end1 rfl rfl rfl fun W hI => ⟨_, _, rfl, rfl, (hI.sub (MSub.pullL (l := 5) rfl <| MSub.refl))⟩

theorem start_pu (w0 : World) (ro : Hp) (M : Res) : Pu Tryz.prog 209 #[] w0 ro M (ag (uni wv 1 hh)) := by
  refine Pu.enter Tryz.func209 rfl rfl ?_
  refine C.seq ?_
  refine C.reg ?_
  refine J.one rfl (JO.alloc (l := 0) rfl zr283 fun b0 => ?_)
  refine J.nil ?_
  refine Po.then ?_
  refine C.seq ?_
  refine C.reg ?_
  refine J.q rfl rfl rfl (V.bldA (cs := flat (uni wv 1 (List.replicate 8 0))) (cs' := flat (uni wv 1 hh)) ar283 rfl zr283 rfl start_parts (by kernel_rfl)) ?_
  refine J.one rfl (JO.stS (us := uni wv 1 hh) (l := 0) rfl rfl rfl sz283 (by simp [lsz_uni]) (by simp [lsz_uni, hh]) ?_)
  refine J.nil ?_
  refine Po.then ?_
  refine C.ret ?_
  exact Po.end1 rfl rfl (RV.cS (l := 0) rfl rfl ag283 (by simp [lsz_uni, hh])) fun W hI => ⟨rfl, hI.drop⟩

theorem Sum_pu (v : Value) (b : List UInt8) (w0 : World) (ro : Hp) (M : Res) (hK : RoK ro) (hR : RS ro v 1 (bys b)) (hl : b.length ≤ 1099511627776) : Pu Tryz.prog 181 #[v] w0 ro M (ag (uni bv 1 (sha b))) := by
  refine Pu.enter Tryz.func181 rfl rfl ?_
  refine C.seq ?_
  refine C.reg ?_
  refine J.one rfl (JO.alloc (l := 2) rfl zr174 fun b2 => ?_)
  refine J.nil ?_
  refine Po.then ?_
  refine C.seq ?_
  refine C.reg ?_
  refine J.q rfl rfl rfl (V.mv rfl) ?_
  refine J.call rfl tx208 rfl (bclone_fn 9 _ _ _ _ _ (by assumption) (by simp [bys_length]; omega) (by simp [bys_length, maxLen]; omega)) ?_ 
  rintro v9 _ rfl
  refine J.one rfl (JO.bsl (l := 10) rfl el73 rfl rfl rfl Cs.all (by decide) fun v10 => ?_)
  refine J.one rfl (JO.appO (l := 9) (l2 := 10) rfl rfl rfl el73 rfl rfl (by simp [bys]; omega) (by simp [bys, maxLen]; omega) fun v11 => ?_)
  refine J.q rfl rfl rfl (V.as rfl) ?_
  refine J.nil ?_
  refine Po.then ?_
  refine C.seq ?_
  refine C.block ?_
  refine C.loopP (fun (x : Nat × Value) => x.1 ≤ zeros b.length) (fun (x : Nat × Value) => [(3, x.2), (0, v), (2, .pointer (some ⟨b2, 0, none⟩))]) (fun (x : Nat × Value) => (9, Ow x.2 5 1 (bys (b ++ 128 :: List.replicate x.1 0))) :: (2, St b2 (uni bv 1 (List.replicate 32 0)) 174) :: M) (fun (x : Nat × Value) => zeros b.length - x.1) (0, v11) (by first | omega | (dsimp only; omega)) (Sub.cons rfl <| Sub.cons rfl <| Sub.cons rfl <| Sub.nil) (MSub.pullE rfl (by exact sum_start' b v11 _ rfl) <| MSub.pull rfl <| MSub.drop <| MSub.refl) fun x hok => ?_
  obtain ⟨z, u⟩ := x
  dsimp only at hok ⊢
  refine C.seq ?_
  refine C.seq ?_
  refine C.reg ?_
  refine J.q rfl rfl rfl (V.mv rfl) ?_
  refine J.q rfl rfl rfl (V.lenO (l := 9) rfl rfl Tryz.underlying73) ?_
  refine J.q rfl rfl rfl (V.rem rfl rfl (by omega)) ?_
  refine J.q rfl rfl rfl (V.neq rfl rfl) ?_
  refine J.nil ?_
  refine Po.then ?_
  refine C.ifd rfl (fun h15 => ?_) (fun h15 => ?_)
  · have hz : z < zeros b.length := sum_t b z hok h15
    have hb := sum_b1 b z [[Value.int .u8 0]] rfl hl hz
    refine C.skip ?_
    refine Po.then ?_
    refine C.block ?_
    refine C.reg ?_
    refine J.q rfl rfl rfl (V.mv rfl) ?_
    refine J.one rfl (JO.bsl (l := 17) rfl el73 rfl rfl rfl Cs.all (by decide) fun v17 => ?_)
    refine J.one rfl (JO.appO (l := 9) (l2 := 17) rfl rfl rfl el73 rfl rfl hb.1 hb.2 fun v18 => ?_)
    refine J.q rfl rfl rfl (V.as rfl) ?_
    refine J.nil ?_
    refine Po.blkN ?_
    exact Po.roundP (z + 1, v18) (by first | omega | (dsimp only; omega)) (Sub.cons rfl <| Sub.cons rfl <| Sub.cons rfl <| Sub.nil) (MSub.pullE rfl (by exact sum_zero b z v18 _ rfl) <| MSub.pull rfl <| MSub.drop <| MSub.refl) (by first | omega | (dsimp only; omega))
  · obtain rfl : z = zeros b.length := sum_f b z hok h15
    refine C.exit ?_
    refine Po.thenX ?_
    refine Po.thenX ?_
    refine Po.blkX ?_
    refine Po.then ?_
    refine C.seq ?_
    refine C.seq ?_
    refine C.reg ?_
    refine J.q rfl rfl rfl (V.as rfl) ?_
    refine J.nil ?_
    refine Po.then ?_
    refine C.block ?_
    refine C.loopP (fun (x : Nat × Value) => x.1 ≤ 8) (fun (x : Nat × Value) => [(4, .int .i64 (7 - (x.1 : Int))), (3, x.2), (0, v), (2, .pointer (some ⟨b2, 0, none⟩))]) (fun (x : Nat × Value) => (9, Ow x.2 5 1 (bys (b ++ 128 :: (List.replicate (zeros b.length) 0 ++ (len8 b.length).take x.1)))) :: (2, St b2 (uni bv 1 (List.replicate 32 0)) 174) :: M) (fun (x : Nat × Value) => 8 - x.1) (0, u) (by first | omega | (dsimp only; omega)) (Sub.cons rfl <| Sub.cons rfl <| Sub.cons rfl <| Sub.cons rfl <| Sub.nil) (MSub.pullE rfl (by simp) <| MSub.pull rfl <| MSub.refl) fun x hok => ?_
    obtain ⟨k, w⟩ := x
    dsimp only at hok ⊢
    refine C.seq ?_
    refine C.seq ?_
    refine C.reg ?_
    refine J.q rfl rfl rfl (V.mv rfl) ?_
    refine J.q rfl rfl rfl (V.geq rfl rfl) ?_
    refine J.nil ?_
    refine Po.then ?_
    refine C.ifd rfl (fun h20 => ?_) (fun h20 => ?_)
    · have hk8 : k < 8 := by omega
      have hb := sum_b3 b k [[bv ((len8 b.length).getD k 0)]] rfl hl
      refine C.skip ?_
      refine Po.then ?_
      refine C.seq ?_
      refine C.block ?_
      refine C.reg ?_
      refine J.q rfl rfl rfl (V.mv rfl) ?_
      refine J.q rfl rfl rfl (V.mv rfl) ?_
      refine J.q rfl rfl rfl (V.lenR rfl hR Tryz.underlying73) ?_
      refine J.q rfl rfl rfl (V.to (V.cv rfl Tryz.underlying3 Tryz.underlying229) (sum_u64 b hl)) ?_
      refine J.q rfl rfl rfl (V.to (V.shl rfl rfl (by decide)) (sum_shl b hl)) ?_
      refine J.q rfl rfl rfl (V.mv rfl) ?_
      refine J.q rfl rfl rfl (V.mul rfl rfl (by omega)) ?_
      refine J.q rfl rfl rfl (V.shr rfl rfl (by simp [IntKind.bits]; omega)) ?_
      refine J.q rfl rfl rfl (V.to (V.cv rfl Tryz.underlying229 Tryz.underlying5) (sum_byte b k hl hk8)) ?_
      refine J.one rfl (JO.bsl (l := 32) rfl el73 rfl rfl rfl Cs.all (by decide) fun v32 => ?_)
      refine J.one rfl (JO.appO (l := 9) (l2 := 32) rfl rfl rfl el73 rfl rfl hb.1 hb.2 fun v33 => ?_)
      refine J.q rfl rfl rfl (V.as rfl) ?_
      refine J.nil ?_
      refine Po.blkN ?_
      refine Po.then ?_
      refine C.reg ?_
      refine J.q rfl rfl rfl (V.mv rfl) ?_
      refine J.q rfl rfl rfl (V.sub' rfl rfl (by omega)) ?_
      refine J.q rfl rfl rfl (V.as rfl) ?_
      refine J.nil ?_
      exact Po.roundP (k + 1, v33) (by first | omega | (dsimp only; omega)) (Sub.cons' rfl (by rw [show ((k + 1 : Nat) : Int) = (k : Int) + 1 from rfl]; congr 1; omega) <| Sub.cons rfl <| Sub.cons rfl <| Sub.cons rfl <| Sub.nil) (MSub.pullE rfl (by exact sum_len b k v33 _ _ hk8 rfl) <| MSub.pull rfl <| MSub.drop <| MSub.refl) (by first | omega | (dsimp only; omega))
    · obtain rfl : k = 8 := by omega
      refine C.exit ?_
      refine Po.thenX ?_
      refine Po.thenX ?_
      refine Po.blkX ?_
      refine Po.then ?_
      refine C.seq ?_
      refine C.freeze (l := 9) rfl fun k9 hA9 hl9 hr9 => ?_
      have hRp : RS (Hp.or ro k9) w 1 (bys (padded b)) := by
        have := hA9.rs (ro := Hp.or ro k9) hr9
        rwa [sum_pad] at this
      replace hK := hK.mono hl9
      refine C.reg ?_
      refine J.callP rfl tx209 rfl (start_pu _ _ _) ?_ 
      refine J.one rfl (JO.alloc (l := 5) rfl zr283 fun b5 => ?_)
      refine J.one rfl (JO.stS (l := 5) rfl rfl rfl sz283 (by simp [lsz_uni, sha_length, hh, digestTo_length]) (by simp [lsz_uni, sha_length, hh, digestTo_length]) ?_)
      refine J.nil ?_
      refine Po.then ?_
      refine C.seq ?_
      refine C.block ?_
      refine C.loopP (fun (x : Nat × Value) => RS (Hp.or ro k9) x.2 1 (bys ((padded b).drop (64 * x.1))) ∧ 64 * x.1 ≤ (padded b).length) (fun (x : Nat × Value) => [(3, x.2), (5, .pointer (some ⟨b5, 0, none⟩)), (2, .pointer (some ⟨b2, 0, none⟩))]) (fun (x : Nat × Value) => (100, St b5 (uni wv 1 (digestTo (padded b) x.1)) 283) :: (2, St b2 (uni bv 1 (List.replicate 32 0)) 174) :: M) (fun (x : Nat × Value) => (padded b).length - 64 * x.1) (0, w) ⟨by simpa using hRp, by omega⟩ (Sub.cons rfl <| Sub.cons rfl <| Sub.cons rfl <| Sub.nil) (MSub.pullL (l := 5) rfl <| MSub.pull rfl <| MSub.refl) fun x hok => ?_
      obtain ⟨k, q⟩ := x
      obtain ⟨hq, hk⟩ := hok
      dsimp only at hq hk ⊢
      refine C.seq ?_
      refine C.seq ?_
      refine C.reg ?_
      refine J.q rfl rfl rfl (V.mv rfl) ?_
      refine J.q rfl rfl rfl (V.to (V.lenR rfl hq Tryz.underlying73) rfl) ?_
      refine J.q rfl rfl rfl (V.gtr rfl rfl) ?_
      refine J.nil ?_
      refine Po.then ?_
      refine C.ifd rfl (fun h37 => ?_) (fun h37 => ?_)
      · have hfull : 64 ≤ (padded b).length - 64 * k := sum_more b k hk h37
        have hRs := sum_chunk hq (by rw [List.length_drop]; exact hfull)
        refine C.skip ?_
        refine Po.then ?_
        refine C.seq ?_
        refine C.block ?_
        refine C.reg ?_
        refine J.q rfl rfl rfl (V.mv rfl) ?_
        refine J.q rfl rfl rfl (V.slR (lo := 0) (hi := 64) rfl hq sl73 rfl ⟨_, rfl⟩ (by omega) (by simp [bys]; omega)) ?_
        refine J.call rfl tx210 rfl (Fn.at (l := 100) rfl (block_fn b5 _ _ _ _ _ _ hK hRs (by simp; omega) (digestTo_length _ _))) ?_ 
        rintro _ _ ⟨rfl, rfl⟩
        refine J.nil ?_
        refine Po.blkN ?_
        refine Po.then ?_
        refine C.reg ?_
        refine J.q rfl rfl rfl (V.mv rfl) ?_
        refine J.q rfl rfl rfl (V.slR (lo := 64) (hi := (padded b).length - 64 * k) rfl hq sl73 ⟨_, rfl⟩ (by simp [bys, bnd]) (by omega) (by simp [bys])) ?_
        refine J.q rfl rfl rfl (V.as rfl) ?_
        refine J.nil ?_
        exact Po.roundP (k + 1, subS q 64 ((padded b).length - 64 * k) 1) ⟨sum_rest hq hfull, by omega⟩ (Sub.cons rfl <| Sub.cons rfl <| Sub.cons rfl <| Sub.nil) (MSub.pullE rfl (by rfl) <| MSub.pull rfl <| MSub.refl) (by first | omega | (dsimp only; omega))
      · obtain rfl : k = (padded b).length / 64 := sum_done b k hk h37
        refine C.exit ?_
        refine Po.thenX ?_
        refine Po.thenX ?_
        refine Po.blkX ?_
        refine Po.then ?_
        refine C.seq ?_
        refine C.reg ?_
        refine J.one rfl (JO.alloc (l := 6) rfl zr174 fun b6 => ?_)
        refine J.nil ?_
        refine Po.then ?_
        refine C.seq ?_
        refine C.seq ?_
        refine C.reg ?_
        refine J.q rfl rfl rfl (V.mv rfl) ?_
        refine J.nil ?_
        refine Po.then ?_
        refine C.block ?_
        refine C.loopP (fun (i : Nat) => i ≤ 32) (fun (i : Nat) => [(43, .int .i64 (i : Int)), (5, .pointer (some ⟨b5, 0, none⟩)), (6, .pointer (some ⟨b6, 0, none⟩)), (2, .pointer (some ⟨b2, 0, none⟩))]) (fun (i : Nat) => (6, St b6 (uni bv 1 (shto b i)) 174) :: (100, St b5 (uni wv 1 (digestTo (padded b) ((padded b).length / 64))) 283) :: (2, St b2 (uni bv 1 (List.replicate 32 0)) 174) :: M) (fun (i : Nat) => 32 - i) 0 (by first | omega | (dsimp only; omega)) (Sub.cons rfl <| Sub.cons rfl <| Sub.cons rfl <| Sub.cons rfl <| Sub.nil) (MSub.pullE rfl (by rfl) <| MSub.pull rfl <| MSub.pull rfl <| MSub.refl) fun i hok => ?_
        refine C.seq ?_
        refine C.reg ?_
        refine J.q rfl rfl rfl (V.lss rfl rfl) ?_
        refine J.nil ?_
        refine Po.then ?_
        refine C.seq ?_
        refine C.ifd rfl (fun h44 => ?_) (fun h44 => ?_)
        · have hi : i < 32 := by omega
          refine C.skip ?_
          refine Po.then ?_
          refine C.seq ?_
          refine C.block ?_
          refine C.seq ?_
          refine C.reg ?_
          refine J.q rfl rfl rfl (V.mv rfl) ?_
          refine J.q rfl rfl rfl (V.as rfl) ?_
          refine J.nil ?_
          refine Po.then ?_
          refine C.reg ?_
          refine J.q rfl rfl rfl (V.mv rfl) ?_
          refine J.q rfl rfl rfl (V.mv rfl) ?_
          refine J.q rfl rfl rfl (V.quo rfl rfl (by omega)) ?_
          refine J.q rfl rfl rfl (V.iaA rfl rfl ar283 (by omega)) ?_
          refine J.q rfl rfl rfl (V.ldU (lab := 100) rfl rfl sc225 (i := i / 4) (getD_some (d := 0) (by rw [digestTo_length]; omega)) (by omega) rfl) ?_
          refine J.q rfl rfl rfl (V.mv rfl) ?_
          refine J.q rfl rfl rfl (V.rem rfl rfl (by omega)) ?_
          refine J.q rfl rfl rfl (V.mul rfl rfl (by omega)) ?_
          refine J.q rfl rfl rfl (V.to (V.sub' rfl rfl (by omega)) (out_shift i)) ?_
          refine J.q rfl rfl rfl (V.shr32 rfl rfl (out_lt i)) ?_
          refine J.q rfl rfl rfl (V.cvWB rfl Tryz.underlying225 Tryz.underlying5) ?_
          refine J.q rfl rfl rfl (V.iaA rfl rfl ar174 (by omega)) ?_
          refine J.one rfl (JO.stU (lab := 6) rfl rfl rfl sz5 (i := i) (shto_at b hi) (by omega) ?_)
          refine J.nil ?_
          refine Po.blkN ?_
          refine Po.then ?_
          refine C.reg ?_
          refine J.q rfl rfl rfl (V.add rfl rfl (by omega)) ?_
          refine J.q rfl rfl rfl (V.mv rfl) ?_
          refine J.nil ?_
          exact Po.roundP (i + 1) (by first | omega | (dsimp only; omega)) (Sub.cons rfl <| Sub.cons rfl <| Sub.cons rfl <| Sub.cons rfl <| Sub.nil) (MSub.pullE rfl (by rw [shto_set b hi]) <| MSub.pull rfl <| MSub.pull rfl <| MSub.refl) (by first | omega | (dsimp only; omega))
        · obtain rfl : i = 32 := by omega
          rw [shto_32]
          refine C.exit ?_
          refine Po.thenX ?_
          refine Po.thenX ?_
          refine Po.blkX ?_
          refine Po.then ?_
          refine C.seq ?_
          refine C.reg ?_
          refine J.q rfl rfl rfl (V.ldW 6 rfl rfl ag174 (by simp [lsz_uni, sha_length, hh, digestTo_length])) ?_
          refine J.one rfl (JO.stS (l := 2) rfl rfl rfl sz174 (by simp [lsz_uni, sha_length, hh, digestTo_length]) (by simp [lsz_uni, sha_length, hh, digestTo_length]) ?_)
          refine J.nil ?_
          refine Po.then ?_
          refine C.ret ?_
          exact Po.end1 rfl rfl (RV.cS (l := 2) rfl rfl ag174 (by simp [lsz_uni, sha_length, hh, digestTo_length])) fun W hI => ⟨rfl, hI.drop.drop.drop.unro⟩

theorem Of_pu (x0 : UInt8) (v : Value) (ps : List (List UInt8)) (w0 : World) (ro : Hp) (M : Res) (hK : RoK ro) (hP : PS ro v ps) (hl : (packed ps).length ≤ 1099511627775) : Pu Tryz.prog 146 #[bv x0, v] w0 ro M (hv (hOf x0 ps)) := by
  obtain ⟨rows, hR, hrl, hrow⟩ := hP
  refine Pu.enter Tryz.func146 rfl rfl ?_
  refine C.seq ?_
  refine C.reg ?_
  refine J.one rfl (JO.alloc (l := 4) rfl zr29 fun b4 => ?_)
  refine J.nil ?_
  refine Po.then ?_
  refine C.seq ?_
  refine C.reg ?_
  refine J.q rfl rfl rfl (V.mv rfl) ?_
  refine J.one rfl (JO.bsl (l := 12) rfl el73 rfl rfl rfl Cs.all (by decide) fun v12 => ?_)
  refine J.q rfl rfl rfl (V.as rfl) ?_
  refine J.nil ?_
  refine Po.then ?_
  refine C.seq ?_
  refine C.seq ?_
  refine C.reg ?_
  refine J.q rfl rfl rfl (V.mv rfl) ?_
  refine J.q rfl rfl rfl (V.to (V.lenR rfl hR Tryz.underlying173) (by rw [hrl])) ?_
  refine J.q rfl rfl rfl (V.mv rfl) ?_
  refine J.nil ?_
  refine Po.then ?_
  refine C.block ?_
  refine C.loopP (fun (x : Nat × Value) => x.1 ≤ ps.length) (fun (x : Nat × Value) => [(15, .int .i64 (x.1 : Int)), (14, .int .i64 (ps.length : Int)), (13, v), (5, x.2), (4, .pointer (some ⟨b4, 0, none⟩))]) (fun (x : Nat × Value) => (12, Ow x.2 5 1 (bys (x0 :: packed (ps.take x.1)))) :: (4, St b4 [(8, hv h0)] 29) :: M) (fun (x : Nat × Value) => ps.length - x.1) (0, v12) (by first | omega | (dsimp only; omega)) (Sub.cons rfl <| Sub.cons rfl <| Sub.cons rfl <| Sub.cons rfl <| Sub.cons rfl <| Sub.nil) (MSub.pullE rfl (by rfl) <| MSub.pull rfl <| MSub.refl) fun x hok => ?_
  obtain ⟨i, w⟩ := x
  dsimp only at hok ⊢
  refine C.seq ?_
  refine C.reg ?_
  refine J.q rfl rfl rfl (V.lss rfl rfl) ?_
  refine J.nil ?_
  refine Po.then ?_
  refine C.seq ?_
  refine C.ifd rfl (fun h16 => ?_) (fun h16 => ?_)
  · have hi : i < ps.length := by omega
    obtain ⟨p, hp⟩ : ∃ p, ps[i]? = some p := ⟨_, List.getElem?_eq_getElem hi⟩
    obtain ⟨q, hrq, hq⟩ := hrow i p hp
    have hget : rows[((i : Int)).toNat]? = some [q] := by simpa using hrq
    have hpl := packed_le hp
    have hpn := packed_len ps
    refine C.skip ?_
    refine Po.then ?_
    refine C.seq ?_
    refine C.block ?_
    refine C.seq ?_
    refine C.reg ?_
    refine J.q rfl rfl rfl (V.iaR rfl hR rfl sl173 (by omega)) ?_
    refine J.q rfl rfl rfl (V.ldRs rfl hR hget sc73) ?_
    refine J.q rfl rfl rfl (V.as rfl) ?_
    refine J.nil ?_
    refine Po.then ?_
    refine C.seq ?_
    refine C.reg ?_
    refine J.q rfl rfl rfl (V.mv rfl) ?_
    refine J.q rfl rfl rfl (V.to (V.lenR rfl hq Tryz.underlying73) (by rw [bys_length])) ?_
    refine J.q rfl rfl rfl (V.as rfl) ?_
    refine J.nil ?_
    refine Po.then ?_
    refine C.reg ?_
    refine J.q rfl rfl rfl (V.mv rfl) ?_
    refine J.q rfl rfl rfl (V.mv rfl) ?_
    refine J.q rfl rfl rfl (V.to (V.cv rfl Tryz.underlying3 Tryz.underlying5) (byte_of _)) ?_
    refine J.q rfl rfl rfl (V.mv rfl) ?_
    refine J.q rfl rfl rfl (V.shr rfl rfl (by decide)) ?_
    refine J.q rfl rfl rfl (V.to (V.cv rfl Tryz.underlying3 Tryz.underlying5) (of_byte _ 8)) ?_
    refine J.q rfl rfl rfl (V.mv rfl) ?_
    refine J.q rfl rfl rfl (V.shr rfl rfl (by decide)) ?_
    refine J.q rfl rfl rfl (V.to (V.cv rfl Tryz.underlying3 Tryz.underlying5) (of_byte _ 16)) ?_
    refine J.q rfl rfl rfl (V.mv rfl) ?_
    refine J.q rfl rfl rfl (V.shr rfl rfl (by decide)) ?_
    refine J.q rfl rfl rfl (V.to (V.cv rfl Tryz.underlying3 Tryz.underlying5) (of_byte _ 24)) ?_
    refine J.one rfl (JO.bsl (l := 33) rfl el73 rfl rfl rfl Cs.all (by decide) fun v33 => ?_)
    refine J.one rfl (JO.appO (l := 12) (l2 := 33) rfl rfl rfl el73 rfl rfl (by simp [bys_length]; omega) (by simp [bys_length, maxLen]; omega) fun v34 => ?_)
    refine J.q rfl rfl rfl (V.mv rfl) ?_
    refine J.one rfl (JO.appR (l := 12) rfl rfl rfl el73 rfl (by assumption) (by simp [bys_length]; omega) (by simp [bys_length, maxLen]; omega) fun v36 => ?_)
    refine J.q rfl rfl rfl (V.as rfl) ?_
    refine J.nil ?_
    refine Po.blkN ?_
    refine Po.then ?_
    refine C.reg ?_
    refine J.q rfl rfl rfl (V.add rfl rfl (by omega)) ?_
    refine J.q rfl rfl rfl (V.mv rfl) ?_
    refine J.nil ?_
    exact Po.roundP (i + 1, v36) (by first | omega | (dsimp only; omega)) (Sub.cons rfl <| Sub.cons rfl <| Sub.cons rfl <| Sub.cons rfl <| Sub.cons rfl <| Sub.nil) (MSub.pullE rfl (by exact of_step hp _) <| MSub.pull rfl <| MSub.drop <| MSub.refl) (by first | omega | (dsimp only; omega))
  · obtain rfl : i = ps.length := by omega
    rw [List.take_length]
    refine C.exit ?_
    refine Po.thenX ?_
    refine Po.thenX ?_
    refine Po.blkX ?_
    refine Po.then ?_
    refine C.seq ?_
    refine C.freeze (l := 12) rfl fun k12 hA12 hl12 hr12 => ?_
    have hRx := hA12.rs (ro := Hp.or ro k12) hr12
    replace hK := hK.mono hl12
    refine C.reg ?_
    refine J.q rfl rfl rfl (V.mv rfl) ?_
    refine J.callP rfl tx181 rfl (Sum_pu _ _ _ _ _ hK hRx (by simp; omega)) ?_ 
    refine J.one rfl (JO.alloc (l := 9) rfl zr174 fun b9 => ?_)
    refine J.one rfl (JO.stS (l := 9) rfl rfl rfl sz174 (by simp [lsz_uni, sha_length]) (by simp [lsz_uni, sha_length]) ?_)
    refine J.nil ?_
    refine Po.then ?_
    refine C.seq ?_
    refine C.reg ?_
    refine J.one rfl (JO.alloc (l := 10) rfl zr29 fun b10 => ?_)
    refine J.nil ?_
    refine Po.then ?_
    refine C.seq ?_
    refine C.drawM [2] [0, 1] mixed (by kernel_rfl) (by kernel_rfl) ?_
    refine DE.q rfl rfl rfl rfl (V.slA (lo := 0) (hi := 8) rfl ar29 rfl rfl (by decide) (by decide) (by decide)) ?_
    refine DE.q rfl rfl rfl rfl (V.slA (lo := 0) (hi := 32) rfl ar174 rfl rfl (by decide) (by decide) (by decide)) ?_
    refine DE.nil ?_
    refine DT.o (by kernel_rfl) (MSub.refl) rfl rfl fun Kc hKc => ?_
    refine JO.copy (lab := 10) (srcs := ((sha (x0 :: packed ps)).take 8).map bv) (vs' := [(8, hv (hOf x0 ps))]) rfl rfl rfl sl73 rfl (src_box (lab := 9) rfl (fun j u hj => of_src hj)) (ones_bytes _) (by simp [sha_length]) (by simp [sha_length, lsz]) (of_flat _ _) (hKc _ _ _ (Hp.le_refl _) ?_)
    clear hKc Kc
    refine DT.nil' (by kernel_rfl) ?_
    refine Po.then ?_
    refine C.seq ?_
    refine C.reg ?_
    refine J.q rfl rfl rfl (V.ldA (i := 0) 10 rfl rfl ag29 rfl rfl) ?_
    refine J.one rfl (JO.st (i := 0) (l := 4) rfl rfl rfl sz29 rfl rfl ?_)
    refine J.nil ?_
    refine Po.then ?_
    refine C.ret ?_
    exact Po.end1 rfl rfl (RV.cA (l := 4) rfl rfl ag29 rfl) fun W hI => ⟨rfl, hI.drop.drop.drop.unro⟩

theorem Two_pu (x : UInt8) (a b : Hash) (w0 : World) (ro : Hp) (M : Res) (hK : RoK ro) : Pu Tryz.prog 180 #[bv x, hv a, hv b] w0 ro M (hv (two x a b)) := by
  refine Pu.enter Tryz.func180 rfl rfl ?_
  refine C.seq ?_
  refine C.reg ?_
  refine J.one rfl (JO.box1 (l := 4) rfl rfl fun b4 => ?_)
  refine J.one rfl (JO.box1 (l := 5) rfl rfl fun b5 => ?_)
  refine J.one rfl (JO.alloc (l := 6) rfl zr29 fun b6 => ?_)
  refine J.nil ?_
  refine Po.then ?_
  refine C.seq ?_
  refine C.drawM [3, 4, 5] [0, 1, 2] mixed (by kernel_rfl) (by kernel_rfl) ?_
  refine DE.q rfl rfl rfl rfl (V.mv rfl) ?_
  refine DE.q rfl rfl rfl rfl (V.slA (lo := 0) (hi := 8) rfl ar29 rfl rfl (by decide) (by decide) (by decide)) ?_
  refine DE.q rfl rfl rfl rfl (V.slA (lo := 0) (hi := 8) rfl ar29 rfl rfl (by decide) (by decide) (by decide)) ?_
  refine DE.nil ?_
  refine DT.o (by kernel_rfl) (MSub.refl) rfl rfl fun Kc hKc => ?_
  refine JO.bsl (l := 10) rfl el173 rfl rfl rfl Cs.all (by decide) fun v10 => (hKc _ _ _ (Hp.le_refl _) ?_)
  clear hKc Kc
  refine DT.o (by kernel_rfl) (MSub.drop MSub.refl) rfl rfl fun Kc hKc => ?_
  refine JO.callP rfl tx146 rfl (Pu.lend (l := 4) rfl fun k4 hA4 hl4 hr4 => Pu.lend (l := 5) rfl fun k5 hA5 hl5 hr5 => Pu.lend (l := 10) rfl fun k10 hA10 hl10 hr10 => Of_pu _ _ _ _ _ _ (((hK.mono hl4).mono hl5).mono hl10) (ps_two (hA10.rs hr10) (((rs_hash (st_ro hA4 hr4)).mono hl5).mono hl10) ((rs_hash (st_ro hA5 hr5)).mono hl10)) (by simp [packed, le4])) (hKc _ _ _ (Hp.le_refl _) ?_)
  clear hKc Kc
  refine DT.o' (by kernel_rfl) (by kernel_rfl) rfl rfl fun Kc hKc => ?_
  refine JO.st (i := 0) (l := 6) rfl rfl rfl sz29 rfl rfl (hKc _ _ _ (Hp.le_refl _) ?_)
  clear hKc Kc
  refine DT.nil' (by kernel_rfl) ?_
  refine Po.then ?_
  refine C.ret ?_
  exact Po.end1 rfl rfl (RV.cA (l := 6) rfl rfl ag29 rfl) fun W hI => ⟨rfl, hI.drop.drop.drop.drop⟩
end Go.Proofs
namespace Go.Proofs
open Go Go.Sx Go.Db
set_option maxRecDepth 100000
theorem ar226 : Ar Tryz.prog 226 8 225 1 := ⟨Tryz.underlying226, by kernel_rfl⟩
theorem zr226 : Zr Tryz.prog 226 (uni wv 1 (List.replicate 8 0)) := by unfold Zr; kernel_rfl
theorem sz226 : (Tryz.prog.info? 226).map (·.size) = some 8 := by kernel_rfl
theorem tx150 : Tx Tryz.prog 150 := ⟨Tryz.f150, Tryz.func150, rfl, by kernel_rfl⟩
theorem tx151 : Tx Tryz.prog 151 := ⟨Tryz.f151, Tryz.func151, rfl, by kernel_rfl⟩
theorem ag226 : Ag Tryz.prog 226 8 := ⟨⟨_, Tryz.underlying226, rfl⟩, by kernel_rfl⟩

theorem turned_pu (x s : UInt32) (h0 : 0 < s.toNat) (h1 : s.toNat < 32) (w0 : World) (ro : Hp) (M : Res) : Pu Tryz.prog 151 #[wv x, .int .u64 (s.toNat : Int)] w0 ro M (wv (rotr x s)) := by
  refine Pu.enter Tryz.func151 rfl rfl ?_
  refine C.seq ?_
  refine C.reg ?_
  refine J.q rfl rfl rfl (V.as rfl) ?_
  refine J.nil ?_
  refine Po.then ?_
  refine C.seq ?_
  refine C.reg ?_
  refine J.q rfl rfl rfl (V.mv rfl) ?_
  refine J.q rfl rfl rfl (V.mv rfl) ?_
  refine J.q rfl rfl rfl (V.shr32 rfl rfl h1) ?_
  refine J.q rfl rfl rfl (V.mv rfl) ?_
  refine J.q rfl rfl rfl (V.mv rfl) ?_
  refine J.q rfl rfl rfl (V.to (V.subW rfl rfl) (turn1 s h1)) ?_
  refine J.q rfl rfl rfl (V.shl32 rfl rfl (rot3 s h0 h1)) ?_
  refine J.q rfl rfl rfl (V.to (V.or32 rfl rfl) (turn2 x s)) ?_
  refine J.q rfl rfl rfl (V.as rfl) ?_
  refine J.nil ?_
  refine Po.then ?_
  refine C.ret ?_
  exact Po.end1 rfl rfl rfl fun W hI => ⟨rfl, hI⟩

theorem rounds_pu (w0 : World) (ro : Hp) (M : Res) : Pu Tryz.prog 150 #[] w0 ro M (ag (uni wv 1 kk)) := by
  refine Pu.enter Tryz.func150 rfl rfl ?_
  refine C.seq ?_
  refine C.reg ?_
  refine J.one rfl (JO.alloc (l := 0) rfl zr227 fun b0 => ?_)
  refine J.nil ?_
  refine Po.then ?_
  refine C.seq ?_
  refine C.reg ?_
  refine J.q rfl rfl rfl (V.bldU (enc := wv) (l := kk) ar227 rfl zr227 (by kernel_rfl) (by kernel_rfl) (by kernel_rfl) (fun _ => rfl)) ?_
  refine J.one rfl (JO.stS (us := uni wv 1 kk) (l := 0) rfl rfl rfl sz227 (by simp [lsz_uni]) (by simp [lsz_uni, kk]) ?_)
  refine J.nil ?_
  refine Po.then ?_
  refine C.ret ?_
  exact Po.end1 rfl rfl (RV.cS (l := 0) rfl rfl ag227 (by simp [lsz_uni, kk])) fun W hI => ⟨rfl, hI.drop⟩

theorem rSum_pu (v : Value) (b : List UInt8) (w0 : World) (ro : Hp) (M : Res) (hR : RS ro v 1 (bys b)) (hl : b.length ≤ 1099511627776) : Pu Tryz.prog 95 #[v] w0 ro M (ag (uni bv 1 (sha b))) := by
  refine Pu.enter Tryz.func95 rfl rfl ?_
  refine C.seq ?_
  refine C.reg ?_
  refine J.one rfl (JO.alloc (l := 2) rfl zr174 fun b2 => ?_)
  refine J.nil ?_
  refine Po.then ?_
  refine C.seq ?_
  refine C.reg ?_
  refine J.q rfl rfl rfl (V.bldU (enc := wv) (l := hh) ar226 rfl zr226 (by kernel_rfl) (by kernel_rfl) (by kernel_rfl) (fun _ => rfl)) ?_
  refine J.one rfl (JO.alloc (l := 3) rfl zr226 fun b3 => ?_)
  refine J.one rfl (JO.stS (l := 3) rfl rfl rfl sz226 (by simp [lsz_uni, sha_length, hh, kk, digestTo_length, sched_length, spr0_length, roundsTo_length]) (by simp [lsz_uni, sha_length, hh, kk, digestTo_length, sched_length, spr0_length, roundsTo_length]) ?_)
  refine J.nil ?_
  refine Po.then ?_
  refine C.seq ?_
  refine C.reg ?_
  refine J.callP rfl tx150 rfl (rounds_pu _ _ _) ?_ 
  refine J.one rfl (JO.alloc (l := 4) rfl zr227 fun b4 => ?_)
  refine J.one rfl (JO.stS (l := 4) rfl rfl rfl sz227 (by simp [lsz_uni, sha_length, hh, kk, digestTo_length, sched_length, spr0_length, roundsTo_length]) (by simp [lsz_uni, sha_length, hh, kk, digestTo_length, sched_length, spr0_length, roundsTo_length]) ?_)
  refine J.nil ?_
  refine Po.then ?_
  refine C.seq ?_
  refine C.nilO 5 5 1 ?_
  refine C.reg ?_
  refine J.q rfl rfl rfl (V.mv rfl) ?_
  refine J.one rfl (JO.appR (l := 5) rfl rfl rfl el73 rfl (by assumption) (by simp [bys]; omega) (by simp [bys, maxLen]; omega) fun v25 => ?_)
  refine J.one rfl (JO.bsl (l := 26) rfl el73 rfl rfl rfl Cs.all (by decide) fun v26 => ?_)
  refine J.one rfl (JO.appO (l := 5) (l2 := 26) rfl rfl rfl el73 rfl rfl (by simp [bys]; omega) (by simp [bys, maxLen]; omega) fun v27 => ?_)
  refine J.q rfl rfl rfl (V.as rfl) ?_
  refine J.nil ?_
  refine Po.then ?_
  refine C.seq ?_
  refine C.block ?_
  refine C.loopP (fun (x : Nat × Value) => x.1 ≤ zeros b.length) (fun (x : Nat × Value) => [(5, x.2), (0, v), (4, .pointer (some ⟨b4, 0, none⟩)), (3, .pointer (some ⟨b3, 0, none⟩)), (2, .pointer (some ⟨b2, 0, none⟩))]) (fun (x : Nat × Value) => (5, Ow x.2 5 1 (bys (b ++ 128 :: List.replicate x.1 0))) :: (4, St b4 (uni wv 1 (kk)) 227) :: (3, St b3 (uni wv 1 (hh)) 226) :: (2, St b2 (uni bv 1 (List.replicate 32 0)) 174) :: M) (fun (x : Nat × Value) => zeros b.length - x.1) (0, v27) (by first | omega | (dsimp only; omega)) (Sub.cons rfl <| Sub.cons rfl <| Sub.cons rfl <| Sub.cons rfl <| Sub.cons rfl <| Sub.nil) (MSub.pullE rfl (by exact sum_start' b v27 _ rfl) <| MSub.pull rfl <| MSub.pull rfl <| MSub.pull rfl <| MSub.drop <| MSub.refl) fun x hok => ?_
  obtain ⟨z, u⟩ := x
  dsimp only at hok ⊢
  refine C.seq ?_
  refine C.seq ?_
  refine C.reg ?_
  refine J.q rfl rfl rfl (V.mv rfl) ?_
  refine J.q rfl rfl rfl (V.lenO (l := 5) rfl rfl Tryz.underlying73) ?_
  refine J.q rfl rfl rfl (V.rem rfl rfl (by omega)) ?_
  refine J.q rfl rfl rfl (V.neq rfl rfl) ?_
  refine J.nil ?_
  refine Po.then ?_
  refine C.ifd rfl (fun h31 => ?_) (fun h31 => ?_)
  · have hz : z < zeros b.length := sum_t b z hok h31
    have hb := sum_b1 b z [[Value.int .u8 0]] rfl hl hz
    refine C.skip ?_
    refine Po.then ?_
    refine C.block ?_
    refine C.reg ?_
    refine J.q rfl rfl rfl (V.mv rfl) ?_
    refine J.one rfl (JO.bsl (l := 33) rfl el73 rfl rfl rfl Cs.all (by decide) fun v33 => ?_)
    refine J.one rfl (JO.appO (l := 5) (l2 := 33) rfl rfl rfl el73 rfl rfl hb.1 hb.2 fun v34 => ?_)
    refine J.q rfl rfl rfl (V.as rfl) ?_
    refine J.nil ?_
    refine Po.blkN ?_
    exact Po.roundP (z + 1, v34) (by first | omega | (dsimp only; omega)) (Sub.cons rfl <| Sub.cons rfl <| Sub.cons rfl <| Sub.cons rfl <| Sub.cons rfl <| Sub.nil) (MSub.pullE rfl (by exact sum_zero b z v34 _ rfl) <| MSub.pull rfl <| MSub.pull rfl <| MSub.pull rfl <| MSub.drop <| MSub.refl) (by first | omega | (dsimp only; omega))
  · obtain rfl : z = zeros b.length := sum_f b z hok h31
    refine C.exit ?_
    refine Po.thenX ?_
    refine Po.thenX ?_
    refine Po.blkX ?_
    refine Po.then ?_
    refine C.seq ?_
    refine C.seq ?_
    refine C.reg ?_
    refine J.q rfl rfl rfl (V.as rfl) ?_
    refine J.nil ?_
    refine Po.then ?_
    refine C.block ?_
    refine C.loopP (fun (x : Nat × Value) => x.1 ≤ 8) (fun (x : Nat × Value) => [(6, .int .i64 (7 - (x.1 : Int))), (5, x.2), (0, v), (4, .pointer (some ⟨b4, 0, none⟩)), (3, .pointer (some ⟨b3, 0, none⟩)), (2, .pointer (some ⟨b2, 0, none⟩))]) (fun (x : Nat × Value) => (5, Ow x.2 5 1 (bys (b ++ 128 :: (List.replicate (zeros b.length) 0 ++ (len8 b.length).take x.1)))) :: (4, St b4 (uni wv 1 (kk)) 227) :: (3, St b3 (uni wv 1 (hh)) 226) :: (2, St b2 (uni bv 1 (List.replicate 32 0)) 174) :: M) (fun (x : Nat × Value) => 8 - x.1) (0, u) (by first | omega | (dsimp only; omega)) (Sub.cons rfl <| Sub.cons rfl <| Sub.cons rfl <| Sub.cons rfl <| Sub.cons rfl <| Sub.cons rfl <| Sub.nil) (MSub.pullE rfl (by simp) <| MSub.pull rfl <| MSub.pull rfl <| MSub.pull rfl <| MSub.refl) fun x hok => ?_
    obtain ⟨j, w⟩ := x
    dsimp only at hok ⊢
    refine C.seq ?_
    refine C.seq ?_
    refine C.reg ?_
    refine J.q rfl rfl rfl (V.mv rfl) ?_
    refine J.q rfl rfl rfl (V.geq rfl rfl) ?_
    refine J.nil ?_
    refine Po.then ?_
    refine C.ifd rfl (fun h36 => ?_) (fun h36 => ?_)
    · have hj8 : j < 8 := by omega
      have hb := sum_b3 b j [[bv ((len8 b.length).getD j 0)]] rfl hl
      refine C.skip ?_
      refine Po.then ?_
      refine C.seq ?_
      refine C.block ?_
      refine C.reg ?_
      refine J.q rfl rfl rfl (V.mv rfl) ?_
      refine J.q rfl rfl rfl (V.mv rfl) ?_
      refine J.q rfl rfl rfl (V.to (V.lenR rfl hR Tryz.underlying73) (by rw [bys_length])) ?_
      refine J.q rfl rfl rfl (V.to (V.cv rfl Tryz.underlying3 Tryz.underlying229) (len_u64 b hl)) ?_
      refine J.q rfl rfl rfl (V.to (V.mulW rfl rfl) (mul8_u64 b hl)) ?_
      refine J.q rfl rfl rfl (V.mv rfl) ?_
      refine J.q rfl rfl rfl (V.mul rfl rfl (by omega)) ?_
      refine J.q rfl rfl rfl (V.to (V.cv rfl Tryz.underlying3 Tryz.underlying84) (amt_u64 (by omega) (by omega))) ?_
      refine J.q rfl rfl rfl (V.shr rfl rfl (by simp [IntKind.bits]; omega)) ?_
      refine J.q rfl rfl rfl (V.to (V.cv rfl Tryz.underlying229 Tryz.underlying5) (sum_byte b j hl hj8)) ?_
      refine J.one rfl (JO.bsl (l := 49) rfl el73 rfl rfl rfl Cs.all (by decide) fun v49 => ?_)
      refine J.one rfl (JO.appO (l := 5) (l2 := 49) rfl rfl rfl el73 rfl rfl hb.1 hb.2 fun v50 => ?_)
      refine J.q rfl rfl rfl (V.as rfl) ?_
      refine J.nil ?_
      refine Po.blkN ?_
      refine Po.then ?_
      refine C.reg ?_
      refine J.q rfl rfl rfl (V.mv rfl) ?_
      refine J.q rfl rfl rfl (V.sub' rfl rfl (by omega)) ?_
      refine J.q rfl rfl rfl (V.as rfl) ?_
      refine J.nil ?_
      exact Po.roundP (j + 1, v50) (by first | omega | (dsimp only; omega)) (Sub.cons' rfl (by rw [show ((j + 1 : Nat) : Int) = (j : Int) + 1 from rfl]; congr 1; omega) <| Sub.cons rfl <| Sub.cons rfl <| Sub.cons rfl <| Sub.cons rfl <| Sub.cons rfl <| Sub.nil) (MSub.pullE rfl (by exact sum_len b j v50 _ _ hj8 rfl) <| MSub.pull rfl <| MSub.pull rfl <| MSub.pull rfl <| MSub.drop <| MSub.refl) (by first | omega | (dsimp only; omega))
    · obtain rfl : j = 8 := by omega
      refine C.exit ?_
      refine Po.thenX ?_
      refine Po.thenX ?_
      refine Po.blkX ?_
      refine Po.then ?_
      refine C.seq ?_
      refine C.seq ?_
      refine C.freeze (l := 5) rfl fun k5 hA5 hl5 hr5 => ?_
      have hRp : RS (Hp.or ro k5) w 1 (bys (padded b)) := by
        have := hA5.rs (ro := Hp.or ro k5) hr5
        rwa [sum_pad] at this
      refine C.reg ?_
      refine J.q rfl rfl rfl (V.as rfl) ?_
      refine J.nil ?_
      refine Po.then ?_
      refine C.block ?_
      refine C.loopP (fun (k : Nat) => 64 * k ≤ (padded b).length) (fun (k : Nat) => [(7, .int .i64 ((64 * k : Nat) : Int)), (5, w), (4, .pointer (some ⟨b4, 0, none⟩)), (3, .pointer (some ⟨b3, 0, none⟩)), (2, .pointer (some ⟨b2, 0, none⟩))]) (fun (k : Nat) => (4, St b4 (uni wv 1 (kk)) 227) :: (3, St b3 (uni wv 1 (digestTo (padded b) k)) 226) :: (2, St b2 (uni bv 1 (List.replicate 32 0)) 174) :: M) (fun (k : Nat) => (padded b).length - 64 * k) 0 (by omega) (Sub.cons rfl <| Sub.cons rfl <| Sub.cons rfl <| Sub.cons rfl <| Sub.cons rfl <| Sub.nil) (MSub.pull rfl <| MSub.pull rfl <| MSub.pull rfl <| MSub.refl) fun k hok => ?_
      have hpm := padded_mod b
      have hpb := padded_length b
      have hzl := zeros_le b.length
      refine C.seq ?_
      refine C.seq ?_
      refine C.reg ?_
      refine J.q rfl rfl rfl (V.mv rfl) ?_
      refine J.q rfl rfl rfl (V.mv rfl) ?_
      refine J.q rfl rfl rfl (V.lenR rfl hRp Tryz.underlying73) ?_
      refine J.q rfl rfl rfl (V.lss rfl rfl) ?_
      refine J.nil ?_
      refine Po.then ?_
      refine C.ifd rfl (fun h54 => ?_) (fun h54 => ?_)
      · have hk0 : 64 * k < (padded b).length := by rw [bys_length] at h54; omega
        have hcl := chunk_length hk0
        refine C.skip ?_
        refine Po.then ?_
        refine C.seq ?_
        refine C.block ?_
        refine C.seq ?_
        refine C.reg ?_
        refine J.one rfl (JO.alloc (l := 8) rfl zr227 fun b8 => ?_)
        refine J.nil ?_
        refine Po.then ?_
        refine C.seq ?_
        refine C.seq ?_
        refine C.reg ?_
        refine J.q rfl rfl rfl (V.as rfl) ?_
        refine J.nil ?_
        refine Po.then ?_
        refine C.block ?_
        refine C.loopP (fun (i : Nat) => i ≤ 16) (fun (i : Nat) => [(9, .int .i64 (i : Int)), (8, .pointer (some ⟨b8, 0, none⟩)), (7, .int .i64 ((64 * k : Nat) : Int)), (5, w), (4, .pointer (some ⟨b4, 0, none⟩)), (3, .pointer (some ⟨b3, 0, none⟩)), (2, .pointer (some ⟨b2, 0, none⟩))]) (fun (i : Nat) => (8, St b8 (uni wv 1 (spr0 (chunk b k) i)) 227) :: (4, St b4 (uni wv 1 (kk)) 227) :: (3, St b3 (uni wv 1 (digestTo (padded b) k)) 226) :: (2, St b2 (uni bv 1 (List.replicate 32 0)) 174) :: M) (fun (i : Nat) => 16 - i) 0 (by first | omega | (dsimp only; omega)) (Sub.cons rfl <| Sub.cons rfl <| Sub.cons rfl <| Sub.cons rfl <| Sub.cons rfl <| Sub.cons rfl <| Sub.cons rfl <| Sub.nil) (MSub.pullE rfl (by rfl) <| MSub.pull rfl <| MSub.pull rfl <| MSub.pull rfl <| MSub.refl) fun i hok => ?_
        refine C.seq ?_
        refine C.seq ?_
        refine C.reg ?_
        refine J.q rfl rfl rfl (V.mv rfl) ?_
        refine J.q rfl rfl rfl (V.lss rfl rfl) ?_
        refine J.nil ?_
        refine Po.then ?_
        refine C.ifd rfl (fun h58 => ?_) (fun h58 => ?_)
        · have hi : i < 16 := by omega
          rw [spr0_eq _ (by omega)]
          refine C.skip ?_
          refine Po.then ?_
          refine C.seq ?_
          refine C.block ?_
          refine C.drawM [43] [0, 1, 2, 3, 4, 5, 6, 7, 8, 9, 10, 11, 12, 13, 14, 15, 16, 17, 18, 19, 20, 21, 22, 23, 24, 25, 26, 27, 28, 29, 30, 31, 32, 33, 34, 35, 36, 37, 38, 39, 40, 41, 42] mixed (by kernel_rfl) (by kernel_rfl) ?_
          refine DE.q rfl rfl rfl rfl (V.mv rfl) ?_
          refine DE.q rfl rfl rfl rfl (V.mv rfl) ?_
          refine DE.q rfl rfl rfl rfl (V.mv rfl) ?_
          refine DE.q rfl rfl rfl rfl (V.mv rfl) ?_
          refine DE.q rfl rfl rfl rfl (V.mul rfl rfl (by omega)) ?_
          refine DE.q rfl rfl rfl rfl (V.add rfl rfl (by omega)) ?_
          refine DE.q rfl rfl rfl rfl (V.iaR rfl hRp rfl sl73 (by rw [bys_length]; omega)) ?_
          refine DE.q rfl rfl rfl rfl (V.ldRs rfl hRp (chunk_get (j := 0) hk0 hi (by decide) (by omega)) sc5) ?_
          refine DE.q rfl rfl rfl rfl (V.cvBW rfl Tryz.underlying5 Tryz.underlying225) ?_
          refine DE.q rfl rfl rfl rfl (V.shl32 (s := 24) rfl rfl (by decide)) ?_
          refine DE.q rfl rfl rfl rfl (V.mv rfl) ?_
          refine DE.q rfl rfl rfl rfl (V.mv rfl) ?_
          refine DE.q rfl rfl rfl rfl (V.mv rfl) ?_
          refine DE.q rfl rfl rfl rfl (V.mul rfl rfl (by omega)) ?_
          refine DE.q rfl rfl rfl rfl (V.add rfl rfl (by omega)) ?_
          refine DE.q rfl rfl rfl rfl (V.add rfl rfl (by omega)) ?_
          refine DE.q rfl rfl rfl rfl (V.iaR rfl hRp rfl sl73 (by rw [bys_length]; omega)) ?_
          refine DE.q rfl rfl rfl rfl (V.ldRs rfl hRp (chunk_get (j := 1) hk0 hi (by decide) (by omega)) sc5) ?_
          refine DE.q rfl rfl rfl rfl (V.cvBW rfl Tryz.underlying5 Tryz.underlying225) ?_
          refine DE.q rfl rfl rfl rfl (V.shl32 (s := 16) rfl rfl (by decide)) ?_
          refine DE.q rfl rfl rfl rfl (V.or32 rfl rfl) ?_
          refine DE.q rfl rfl rfl rfl (V.mv rfl) ?_
          refine DE.q rfl rfl rfl rfl (V.mv rfl) ?_
          refine DE.q rfl rfl rfl rfl (V.mv rfl) ?_
          refine DE.q rfl rfl rfl rfl (V.mul rfl rfl (by omega)) ?_
          refine DE.q rfl rfl rfl rfl (V.add rfl rfl (by omega)) ?_
          refine DE.q rfl rfl rfl rfl (V.add rfl rfl (by omega)) ?_
          refine DE.q rfl rfl rfl rfl (V.iaR rfl hRp rfl sl73 (by rw [bys_length]; omega)) ?_
          refine DE.q rfl rfl rfl rfl (V.ldRs rfl hRp (chunk_get (j := 2) hk0 hi (by decide) (by omega)) sc5) ?_
          refine DE.q rfl rfl rfl rfl (V.cvBW rfl Tryz.underlying5 Tryz.underlying225) ?_
          refine DE.q rfl rfl rfl rfl (V.shl32 (s := 8) rfl rfl (by decide)) ?_
          refine DE.q rfl rfl rfl rfl (V.or32 rfl rfl) ?_
          refine DE.q rfl rfl rfl rfl (V.mv rfl) ?_
          refine DE.q rfl rfl rfl rfl (V.mv rfl) ?_
          refine DE.q rfl rfl rfl rfl (V.mv rfl) ?_
          refine DE.q rfl rfl rfl rfl (V.mul rfl rfl (by omega)) ?_
          refine DE.q rfl rfl rfl rfl (V.add rfl rfl (by omega)) ?_
          refine DE.q rfl rfl rfl rfl (V.add rfl rfl (by omega)) ?_
          refine DE.q rfl rfl rfl rfl (V.iaR rfl hRp rfl sl73 (by rw [bys_length]; omega)) ?_
          refine DE.q rfl rfl rfl rfl (V.ldRs rfl hRp (chunk_get (j := 3) hk0 hi (by decide) (by omega)) sc5) ?_
          refine DE.q rfl rfl rfl rfl (V.cvBW rfl Tryz.underlying5 Tryz.underlying225) ?_
          refine DE.q rfl rfl rfl rfl (V.or32 rfl rfl) ?_
          refine DE.q rfl rfl rfl rfl (V.iaA rfl rfl ar227 (by omega)) ?_
          refine DE.nil ?_
          refine DT.o (by kernel_rfl) (MSub.refl) rfl rfl fun Kc hKc => ?_
          refine JO.stU (lab := 8) rfl rfl rfl sz225 (spr_at _ i _) (by omega) (hKc _ _ _ (Hp.le_refl _) ?_)
          clear hKc Kc
          refine DT.nil' (by kernel_rfl) ?_
          refine Po.blkN ?_
          refine Po.then ?_
          refine C.reg ?_
          refine J.q rfl rfl rfl (V.mv rfl) ?_
          refine J.q rfl rfl rfl (V.add rfl rfl (by omega)) ?_
          refine J.q rfl rfl rfl (V.as rfl) ?_
          refine J.nil ?_
          exact Po.roundP (i + 1) (by first | omega | (dsimp only; omega)) (Sub.cons rfl <| Sub.cons rfl <| Sub.cons rfl <| Sub.cons rfl <| Sub.cons rfl <| Sub.cons rfl <| Sub.cons rfl <| Sub.nil) (MSub.pullE rfl (by rw [spr_set, spr_next (chunk b k) i (by rw [if_pos hi]; exact word_eq _ _ _ _ _ _ rfl rfl rfl rfl)]) <| MSub.pull rfl <| MSub.pull rfl <| MSub.pull rfl <| MSub.refl) (by first | omega | (dsimp only; omega))
        · obtain rfl : i = 16 := by omega
          refine C.exit ?_
          refine Po.thenX ?_
          refine Po.thenX ?_
          refine Po.blkX ?_
          refine Po.then ?_
          refine C.seq ?_
          refine C.seq ?_
          refine C.reg ?_
          refine J.q rfl rfl rfl (V.as rfl) ?_
          refine J.nil ?_
          refine Po.then ?_
          refine C.block ?_
          refine C.loopP (fun (i : Nat) => 16 ≤ i ∧ i ≤ 64) (fun (i : Nat) => [(10, .int .i64 (i : Int)), (8, .pointer (some ⟨b8, 0, none⟩)), (7, .int .i64 ((64 * k : Nat) : Int)), (5, w), (4, .pointer (some ⟨b4, 0, none⟩)), (3, .pointer (some ⟨b3, 0, none⟩)), (2, .pointer (some ⟨b2, 0, none⟩))]) (fun (i : Nat) => (8, St b8 (uni wv 1 (spr0 (chunk b k) i)) 227) :: (4, St b4 (uni wv 1 (kk)) 227) :: (3, St b3 (uni wv 1 (digestTo (padded b) k)) 226) :: (2, St b2 (uni bv 1 (List.replicate 32 0)) 174) :: M) (fun (i : Nat) => 64 - i) 16 (by first | omega | (dsimp only; omega)) (Sub.cons rfl <| Sub.cons rfl <| Sub.cons rfl <| Sub.cons rfl <| Sub.cons rfl <| Sub.cons rfl <| Sub.cons rfl <| Sub.nil) (MSub.pull rfl <| MSub.pull rfl <| MSub.pull rfl <| MSub.pull rfl <| MSub.refl) fun i hok => ?_
          refine C.seq ?_
          refine C.seq ?_
          refine C.reg ?_
          refine J.q rfl rfl rfl (V.mv rfl) ?_
          refine J.q rfl rfl rfl (V.lss rfl rfl) ?_
          refine J.nil ?_
          refine Po.then ?_
          refine C.ifd rfl (fun h105 => ?_) (fun h105 => ?_)
          · have hi : i < 64 := by omega
            rw [spr0_eq _ hi]
            refine C.skip ?_
            refine Po.then ?_
            refine C.seq ?_
            refine C.block ?_
            refine C.seq ?_
            refine C.drawM [] [0, 1, 2, 3, 4, 5, 6, 7, 8, 9] mixed (by kernel_rfl) (by kernel_rfl) ?_
            refine DE.q rfl rfl rfl rfl (V.mv rfl) ?_
            refine DE.q rfl rfl rfl rfl (V.sub' rfl rfl (by omega)) ?_
            refine DE.q rfl rfl rfl rfl (V.iaA rfl rfl ar227 (by omega)) ?_
            refine DE.q rfl rfl rfl rfl (V.ldU (lab := 8) rfl rfl sc225 (spr_old _ (j := i - 15) 0 (by omega)) (by omega) rfl) ?_
            refine DE.q rfl rfl rfl rfl (V.mv rfl) ?_
            refine DE.q rfl rfl rfl rfl (V.sub' rfl rfl (by omega)) ?_
            refine DE.q rfl rfl rfl rfl (V.iaA rfl rfl ar227 (by omega)) ?_
            refine DE.q rfl rfl rfl rfl (V.ldU (lab := 8) rfl rfl sc225 (spr_old _ (j := i - 2) 0 (by omega)) (by omega) rfl) ?_
            refine DE.q rfl rfl rfl rfl (V.as rfl) ?_
            refine DE.q rfl rfl rfl rfl (V.as rfl) ?_
            refine DE.nil ?_
            refine DT.nil (MSub.refl) ?_
            refine Po.then ?_
            refine C.drawM [29] [0, 1, 2, 3, 4, 5, 6, 7, 8, 9, 10, 11, 12, 13, 14, 15, 16, 17, 18, 19, 20, 21, 22, 23, 24, 25, 26, 27, 28] mixed (by kernel_rfl) (by kernel_rfl) ?_
            refine DE.q rfl rfl rfl rfl (V.mv rfl) ?_
            refine DE.q rfl rfl rfl rfl (V.mv rfl) ?_
            refine DE.q rfl rfl rfl rfl (V.sub' rfl rfl (by omega)) ?_
            refine DE.q rfl rfl rfl rfl (V.iaA rfl rfl ar227 (by omega)) ?_
            refine DE.q rfl rfl rfl rfl (V.ldU (lab := 8) rfl rfl sc225 (spr_old _ (j := i - 16) 0 (by omega)) (by omega) rfl) ?_
            refine DE.q rfl rfl rfl rfl (V.mv rfl) ?_
            refine DE.call rfl rfl rfl rfl tx151 rfl (fun N hN => turned_pu _ 7 (by decide) (by decide) _ _ _) ?_
            refine DE.q rfl rfl rfl rfl (V.mv rfl) ?_
            refine DE.call rfl rfl rfl rfl tx151 rfl (fun N hN => turned_pu _ 18 (by decide) (by decide) _ _ _) ?_
            refine DE.q rfl rfl rfl rfl (V.xor32 rfl rfl) ?_
            refine DE.q rfl rfl rfl rfl (V.mv rfl) ?_
            refine DE.q rfl rfl rfl rfl (V.shr32 (s := 3) rfl rfl (by decide)) ?_
            refine DE.q rfl rfl rfl rfl (V.xor32 rfl rfl) ?_
            refine DE.q rfl rfl rfl rfl (V.add32 rfl rfl) ?_
            refine DE.q rfl rfl rfl rfl (V.mv rfl) ?_
            refine DE.q rfl rfl rfl rfl (V.sub' rfl rfl (by omega)) ?_
            refine DE.q rfl rfl rfl rfl (V.iaA rfl rfl ar227 (by omega)) ?_
            refine DE.q rfl rfl rfl rfl (V.ldU (lab := 8) rfl rfl sc225 (spr_old _ (j := i - 7) 0 (by omega)) (by omega) rfl) ?_
            refine DE.q rfl rfl rfl rfl (V.add32 rfl rfl) ?_
            refine DE.q rfl rfl rfl rfl (V.mv rfl) ?_
            refine DE.call rfl rfl rfl rfl tx151 rfl (fun N hN => turned_pu _ 17 (by decide) (by decide) _ _ _) ?_
            refine DE.q rfl rfl rfl rfl (V.mv rfl) ?_
            refine DE.call rfl rfl rfl rfl tx151 rfl (fun N hN => turned_pu _ 19 (by decide) (by decide) _ _ _) ?_
            refine DE.q rfl rfl rfl rfl (V.xor32 rfl rfl) ?_
            refine DE.q rfl rfl rfl rfl (V.mv rfl) ?_
            refine DE.q rfl rfl rfl rfl (V.shr32 (s := 10) rfl rfl (by decide)) ?_
            refine DE.q rfl rfl rfl rfl (V.xor32 rfl rfl) ?_
            refine DE.q rfl rfl rfl rfl (V.add32 rfl rfl) ?_
            refine DE.q rfl rfl rfl rfl (V.iaA rfl rfl ar227 (by omega)) ?_
            refine DE.nil ?_
            refine DT.o (by kernel_rfl) (MSub.refl) rfl rfl fun Kc hKc => ?_
            refine JO.stU (lab := 8) rfl rfl rfl sz225 (spr_at _ i _) (by omega) (hKc _ _ _ (Hp.le_refl _) ?_)
            clear hKc Kc
            refine DT.nil' (by kernel_rfl) ?_
            refine Po.blkN ?_
            refine Po.then ?_
            refine C.reg ?_
            refine J.q rfl rfl rfl (V.mv rfl) ?_
            refine J.q rfl rfl rfl (V.add rfl rfl (by omega)) ?_
            refine J.q rfl rfl rfl (V.as rfl) ?_
            refine J.nil ?_
            exact Po.roundP (i + 1) (by first | omega | (dsimp only; omega)) (Sub.cons rfl <| Sub.cons rfl <| Sub.cons rfl <| Sub.cons rfl <| Sub.cons rfl <| Sub.cons rfl <| Sub.cons rfl <| Sub.nil) (MSub.pullE rfl (by rw [spr_set, spr_next (chunk b k) i (sched_eq _ _ hok.1 rfl)]) <| MSub.pull rfl <| MSub.pull rfl <| MSub.pull rfl <| MSub.refl) (by first | omega | (dsimp only; omega))
          · obtain rfl : i = 64 := by omega
            rw [spr0_64]
            refine C.exit ?_
            refine Po.thenX ?_
            refine Po.thenX ?_
            refine Po.blkX ?_
            refine Po.then ?_
            refine C.seq ?_
            refine C.reg ?_
            refine J.q rfl rfl rfl (V.ldW 3 rfl rfl ag226 (by simp [lsz_uni, sha_length, hh, kk, digestTo_length, sched_length, spr0_length, roundsTo_length])) ?_
            refine J.one rfl (JO.alloc (l := 13) rfl zr226 fun b13 => ?_)
            refine J.one rfl (JO.stS (l := 13) rfl rfl rfl sz226 (by simp [lsz_uni, sha_length, hh, kk, digestTo_length, sched_length, spr0_length, roundsTo_length]) (by simp [lsz_uni, sha_length, hh, kk, digestTo_length, sched_length, spr0_length, roundsTo_length]) ?_)
            refine J.nil ?_
            refine Po.then ?_
            refine C.seq ?_
            refine C.seq ?_
            refine C.reg ?_
            refine J.q rfl rfl rfl (V.as rfl) ?_
            refine J.nil ?_
            refine Po.then ?_
            refine C.block ?_
            refine C.loopP (fun (r : Nat) => r ≤ 64) (fun (r : Nat) => [(14, .int .i64 (r : Int)), (13, .pointer (some ⟨b13, 0, none⟩)), (8, .pointer (some ⟨b8, 0, none⟩)), (7, .int .i64 ((64 * k : Nat) : Int)), (5, w), (4, .pointer (some ⟨b4, 0, none⟩)), (3, .pointer (some ⟨b3, 0, none⟩)), (2, .pointer (some ⟨b2, 0, none⟩))]) (fun (r : Nat) => (13, St b13 (uni wv 1 (roundsTo (digestTo (padded b) k) (sched (chunk b k)) r)) 226) :: (8, St b8 (uni wv 1 (sched (chunk b k))) 227) :: (4, St b4 (uni wv 1 (kk)) 227) :: (3, St b3 (uni wv 1 (digestTo (padded b) k)) 226) :: (2, St b2 (uni bv 1 (List.replicate 32 0)) 174) :: M) (fun (r : Nat) => 64 - r) 0 (by first | omega | (dsimp only; omega)) (Sub.cons rfl <| Sub.cons rfl <| Sub.cons rfl <| Sub.cons rfl <| Sub.cons rfl <| Sub.cons rfl <| Sub.cons rfl <| Sub.cons rfl <| Sub.nil) (MSub.pullE rfl (by rfl) <| MSub.pull rfl <| MSub.pull rfl <| MSub.pull rfl <| MSub.pull rfl <| MSub.refl) fun r hok => ?_
            refine C.seq ?_
            refine C.seq ?_
            refine C.reg ?_
            refine J.q rfl rfl rfl (V.mv rfl) ?_
            refine J.q rfl rfl rfl (V.lss rfl rfl) ?_
            refine J.nil ?_
            refine Po.then ?_
            refine C.ifd rfl (fun h147 => ?_) (fun h147 => ?_)
            · have hr : r < 64 := by omega
              have hx : (sched (chunk b k))[r]? = some ((sched (chunk b k)).getD r 0) := getD_some (by rw [sched_length]; omega)
              have hkk : kk[r]? = some (kk.getD r 0) := getD_some hr
              obtain ⟨a0, a1, a2, a3, a4, a5, a6, a7, hv8⟩ := eight (roundsTo_length (h := digestTo (padded b) k) (w := sched (chunk b k)) (digestTo_length _ _) r)
              rw [hv8]
              refine C.skip ?_
              refine Po.then ?_
              refine C.seq ?_
              refine C.block ?_
              refine C.seq ?_
              refine C.drawM [] [0, 1, 2, 3, 4, 5] mixed (by kernel_rfl) (by kernel_rfl) ?_
              refine DE.q rfl rfl rfl rfl (V.iaA rfl rfl ar226 (by omega)) ?_
              refine DE.q rfl rfl rfl rfl (V.ldU (lab := 13) rfl rfl sc225 (i := 0) rfl (by omega) rfl) ?_
              refine DE.q rfl rfl rfl rfl (V.iaA rfl rfl ar226 (by omega)) ?_
              refine DE.q rfl rfl rfl rfl (V.ldU (lab := 13) rfl rfl sc225 (i := 4) rfl (by omega) rfl) ?_
              refine DE.q rfl rfl rfl rfl (V.as rfl) ?_
              refine DE.q rfl rfl rfl rfl (V.as rfl) ?_
              refine DE.nil ?_
              refine DT.nil (MSub.refl) ?_
              refine Po.then ?_
              refine C.seq ?_
              refine C.drawM [] [0, 1, 2, 3, 4, 5, 6, 7, 8, 9, 10, 11, 12, 13, 14, 15, 16, 17, 18, 19, 20, 21, 22, 23, 24, 25, 26, 27, 28, 29, 30] mixed (by kernel_rfl) (by kernel_rfl) ?_
              refine DE.q rfl rfl rfl rfl (V.iaA rfl rfl ar226 (by omega)) ?_
              refine DE.q rfl rfl rfl rfl (V.ldU (lab := 13) rfl rfl sc225 (i := 7) rfl (by omega) rfl) ?_
              refine DE.q rfl rfl rfl rfl (V.mv rfl) ?_
              refine DE.call rfl rfl rfl rfl tx151 rfl (fun N hN => turned_pu _ 6 (by decide) (by decide) _ _ _) ?_
              refine DE.q rfl rfl rfl rfl (V.mv rfl) ?_
              refine DE.call rfl rfl rfl rfl tx151 rfl (fun N hN => turned_pu _ 11 (by decide) (by decide) _ _ _) ?_
              refine DE.q rfl rfl rfl rfl (V.xor32 rfl rfl) ?_
              refine DE.q rfl rfl rfl rfl (V.mv rfl) ?_
              refine DE.call rfl rfl rfl rfl tx151 rfl (fun N hN => turned_pu _ 25 (by decide) (by decide) _ _ _) ?_
              refine DE.q rfl rfl rfl rfl (V.xor32 rfl rfl) ?_
              refine DE.q rfl rfl rfl rfl (V.add32 rfl rfl) ?_
              refine DE.q rfl rfl rfl rfl (V.mv rfl) ?_
              refine DE.q rfl rfl rfl rfl (V.iaA rfl rfl ar226 (by omega)) ?_
              refine DE.q rfl rfl rfl rfl (V.ldU (lab := 13) rfl rfl sc225 (i := 5) rfl (by omega) rfl) ?_
              refine DE.q rfl rfl rfl rfl (V.and32 rfl rfl) ?_
              refine DE.q rfl rfl rfl rfl (V.mv rfl) ?_
              refine DE.q rfl rfl rfl rfl (V.not32 rfl) ?_
              refine DE.q rfl rfl rfl rfl (V.iaA rfl rfl ar226 (by omega)) ?_
              refine DE.q rfl rfl rfl rfl (V.ldU (lab := 13) rfl rfl sc225 (i := 6) rfl (by omega) rfl) ?_
              refine DE.q rfl rfl rfl rfl (V.and32 rfl rfl) ?_
              refine DE.q rfl rfl rfl rfl (V.xor32 rfl rfl) ?_
              refine DE.q rfl rfl rfl rfl (V.add32 rfl rfl) ?_
              refine DE.q rfl rfl rfl rfl (V.mv rfl) ?_
              refine DE.q rfl rfl rfl rfl (V.iaA rfl rfl ar227 (by omega)) ?_
              refine DE.q rfl rfl rfl rfl (V.ldU (lab := 4) rfl rfl sc225 hkk (by omega) rfl) ?_
              refine DE.q rfl rfl rfl rfl (V.add32 rfl rfl) ?_
              refine DE.q rfl rfl rfl rfl (V.mv rfl) ?_
              refine DE.q rfl rfl rfl rfl (V.iaA rfl rfl ar227 (by omega)) ?_
              refine DE.q rfl rfl rfl rfl (V.ldU (lab := 8) rfl rfl sc225 hx (by omega) rfl) ?_
              refine DE.q rfl rfl rfl rfl (V.add32 rfl rfl) ?_
              refine DE.q rfl rfl rfl rfl (V.as rfl) ?_
              refine DE.nil ?_
              refine DT.nil (MSub.refl) ?_
              refine Po.then ?_
              refine C.seq ?_
              refine C.drawM [] [0, 1, 2, 3, 4, 5, 6, 7, 8, 9, 10, 11, 12, 13, 14, 15, 16, 17, 18, 19, 20, 21, 22, 23, 24] mixed (by kernel_rfl) (by kernel_rfl) ?_
              refine DE.q rfl rfl rfl rfl (V.mv rfl) ?_
              refine DE.call rfl rfl rfl rfl tx151 rfl (fun N hN => turned_pu _ 2 (by decide) (by decide) _ _ _) ?_
              refine DE.q rfl rfl rfl rfl (V.mv rfl) ?_
              refine DE.call rfl rfl rfl rfl tx151 rfl (fun N hN => turned_pu _ 13 (by decide) (by decide) _ _ _) ?_
              refine DE.q rfl rfl rfl rfl (V.xor32 rfl rfl) ?_
              refine DE.q rfl rfl rfl rfl (V.mv rfl) ?_
              refine DE.call rfl rfl rfl rfl tx151 rfl (fun N hN => turned_pu _ 22 (by decide) (by decide) _ _ _) ?_
              refine DE.q rfl rfl rfl rfl (V.xor32 rfl rfl) ?_
              refine DE.q rfl rfl rfl rfl (V.mv rfl) ?_
              refine DE.q rfl rfl rfl rfl (V.iaA rfl rfl ar226 (by omega)) ?_
              refine DE.q rfl rfl rfl rfl (V.ldU (lab := 13) rfl rfl sc225 (i := 1) rfl (by omega) rfl) ?_
              refine DE.q rfl rfl rfl rfl (V.and32 rfl rfl) ?_
              refine DE.q rfl rfl rfl rfl (V.mv rfl) ?_
              refine DE.q rfl rfl rfl rfl (V.iaA rfl rfl ar226 (by omega)) ?_
              refine DE.q rfl rfl rfl rfl (V.ldU (lab := 13) rfl rfl sc225 (i := 2) rfl (by omega) rfl) ?_
              refine DE.q rfl rfl rfl rfl (V.and32 rfl rfl) ?_
              refine DE.q rfl rfl rfl rfl (V.xor32 rfl rfl) ?_
              refine DE.q rfl rfl rfl rfl (V.iaA rfl rfl ar226 (by omega)) ?_
              refine DE.q rfl rfl rfl rfl (V.ldU (lab := 13) rfl rfl sc225 (i := 1) rfl (by omega) rfl) ?_
              refine DE.q rfl rfl rfl rfl (V.iaA rfl rfl ar226 (by omega)) ?_
              refine DE.q rfl rfl rfl rfl (V.ldU (lab := 13) rfl rfl sc225 (i := 2) rfl (by omega) rfl) ?_
              refine DE.q rfl rfl rfl rfl (V.and32 rfl rfl) ?_
              refine DE.q rfl rfl rfl rfl (V.xor32 rfl rfl) ?_
              refine DE.q rfl rfl rfl rfl (V.add32 rfl rfl) ?_
              refine DE.q rfl rfl rfl rfl (V.as rfl) ?_
              refine DE.nil ?_
              refine DT.nil (MSub.refl) ?_
              refine Po.then ?_
              refine C.reg ?_
              refine J.q rfl rfl rfl (V.mv rfl) ?_
              refine J.q rfl rfl rfl (V.mv rfl) ?_
              refine J.q rfl rfl rfl (V.add32 rfl rfl) ?_
              refine J.q rfl rfl rfl (V.iaA rfl rfl ar226 (by omega)) ?_
              refine J.q rfl rfl rfl (V.ldU (lab := 13) rfl rfl sc225 (i := 0) rfl (by omega) rfl) ?_
              refine J.q rfl rfl rfl (V.iaA rfl rfl ar226 (by omega)) ?_
              refine J.q rfl rfl rfl (V.ldU (lab := 13) rfl rfl sc225 (i := 1) rfl (by omega) rfl) ?_
              refine J.q rfl rfl rfl (V.iaA rfl rfl ar226 (by omega)) ?_
              refine J.q rfl rfl rfl (V.ldU (lab := 13) rfl rfl sc225 (i := 2) rfl (by omega) rfl) ?_
              refine J.q rfl rfl rfl (V.iaA rfl rfl ar226 (by omega)) ?_
              refine J.q rfl rfl rfl (V.ldU (lab := 13) rfl rfl sc225 (i := 3) rfl (by omega) rfl) ?_
              refine J.q rfl rfl rfl (V.mv rfl) ?_
              refine J.q rfl rfl rfl (V.add32 rfl rfl) ?_
              refine J.q rfl rfl rfl (V.iaA rfl rfl ar226 (by omega)) ?_
              refine J.q rfl rfl rfl (V.ldU (lab := 13) rfl rfl sc225 (i := 4) rfl (by omega) rfl) ?_
              refine J.q rfl rfl rfl (V.iaA rfl rfl ar226 (by omega)) ?_
              refine J.q rfl rfl rfl (V.ldU (lab := 13) rfl rfl sc225 (i := 5) rfl (by omega) rfl) ?_
              refine J.q rfl rfl rfl (V.iaA rfl rfl ar226 (by omega)) ?_
              refine J.q rfl rfl rfl (V.ldU (lab := 13) rfl rfl sc225 (i := 6) rfl (by omega) rfl) ?_
              refine J.q rfl rfl rfl (V.bldU (enc := wv) (l := [_, _, _, _, _, _, _, _]) ar226 rfl zr226 (by kernel_rfl) rfl rfl (fun _ => rfl)) ?_
              refine J.one rfl (JO.stS (l := 13) rfl rfl rfl sz226 (by simp [lsz_uni]) (by simp [lsz_uni]) ?_)
              refine J.nil ?_
              refine Po.blkN ?_
              refine Po.then ?_
              refine C.reg ?_
              refine J.q rfl rfl rfl (V.mv rfl) ?_
              refine J.q rfl rfl rfl (V.add rfl rfl (by omega)) ?_
              refine J.q rfl rfl rfl (V.as rfl) ?_
              refine J.nil ?_
              exact Po.roundP (r + 1) (by first | omega | (dsimp only; omega)) (Sub.cons rfl <| Sub.cons rfl <| Sub.cons rfl <| Sub.cons rfl <| Sub.cons rfl <| Sub.cons rfl <| Sub.cons rfl <| Sub.cons rfl <| Sub.nil) (MSub.pullE rfl (by rw [roundsTo, hv8]; rfl) <| MSub.pull rfl <| MSub.pull rfl <| MSub.pull rfl <| MSub.pull rfl <| MSub.refl) (by first | omega | (dsimp only; omega))
            · obtain rfl : r = 64 := by omega
              refine C.exit ?_
              refine Po.thenX ?_
              refine Po.thenX ?_
              refine Po.blkX ?_
              refine Po.then ?_
              refine C.seq ?_
              refine C.reg ?_
              refine J.q rfl rfl rfl (V.as rfl) ?_
              refine J.nil ?_
              refine Po.then ?_
              refine C.block ?_
              refine C.loopP (fun (i : Nat) => i ≤ 8) (fun (i : Nat) => [(19, .int .i64 (i : Int)), (13, .pointer (some ⟨b13, 0, none⟩)), (7, .int .i64 ((64 * k : Nat) : Int)), (5, w), (4, .pointer (some ⟨b4, 0, none⟩)), (3, .pointer (some ⟨b3, 0, none⟩)), (2, .pointer (some ⟨b2, 0, none⟩))]) (fun (i : Nat) => (13, St b13 (uni wv 1 (roundsTo (digestTo (padded b) k) (sched (chunk b k)) 64)) 226) :: (4, St b4 (uni wv 1 (kk)) 227) :: (3, St b3 (uni wv 1 (cto (digestTo (padded b) k) (chunk b k) i)) 226) :: (2, St b2 (uni bv 1 (List.replicate 32 0)) 174) :: M) (fun (i : Nat) => 8 - i) 0 (by first | omega | (dsimp only; omega)) (Sub.cons rfl <| Sub.cons rfl <| Sub.cons rfl <| Sub.cons rfl <| Sub.cons rfl <| Sub.cons rfl <| Sub.cons rfl <| Sub.nil) (MSub.pull rfl <| MSub.pull rfl <| MSub.pullE rfl (by rw [cto0]) <| MSub.pull rfl <| MSub.drop <| MSub.refl) fun i hok => ?_
              refine C.seq ?_
              refine C.seq ?_
              refine C.reg ?_
              refine J.q rfl rfl rfl (V.mv rfl) ?_
              refine J.q rfl rfl rfl (V.lss rfl rfl) ?_
              refine J.nil ?_
              refine Po.then ?_
              refine C.ifd rfl (fun h229 => ?_) (fun h229 => ?_)
              · have hi : i < 8 := by omega
                have hx : (roundsTo (digestTo (padded b) k) (sched (chunk b k)) 64)[i]? = some ((roundsTo (digestTo (padded b) k) (sched (chunk b k)) 64).getD i 0) := getD_some (by rw [roundsTo_length (digestTo_length _ _)]; omega)
                refine C.skip ?_
                refine Po.then ?_
                refine C.seq ?_
                refine C.block ?_
                refine C.drawM [9] [0, 1, 2, 3, 4, 5, 6, 7, 8] mixed (by kernel_rfl) (by kernel_rfl) ?_
                refine DE.q rfl rfl rfl rfl (V.mv rfl) ?_
                refine DE.q rfl rfl rfl rfl (V.mv rfl) ?_
                refine DE.q rfl rfl rfl rfl (V.iaA rfl rfl ar226 (by omega)) ?_
                refine DE.q rfl rfl rfl rfl (V.ldU (lab := 3) rfl rfl sc225 (i := i) (cto_at (digestTo_length _ _) hi) (by omega) rfl) ?_
                refine DE.q rfl rfl rfl rfl (V.mv rfl) ?_
                refine DE.q rfl rfl rfl rfl (V.iaA rfl rfl ar226 (by omega)) ?_
                refine DE.q rfl rfl rfl rfl (V.ldU (lab := 13) rfl rfl sc225 hx (by omega) rfl) ?_
                refine DE.q rfl rfl rfl rfl (V.add32 rfl rfl) ?_
                refine DE.q rfl rfl rfl rfl (V.iaA rfl rfl ar226 (by omega)) ?_
                refine DE.nil ?_
                refine DT.o (by kernel_rfl) (MSub.refl) rfl rfl fun Kc hKc => ?_
                refine JO.stU (lab := 3) rfl rfl rfl sz225 (i := i) (cto_at (digestTo_length _ _) hi) (by omega) (hKc _ _ _ (Hp.le_refl _) ?_)
                clear hKc Kc
                refine DT.nil' (by kernel_rfl) ?_
                refine Po.blkN ?_
                refine Po.then ?_
                refine C.reg ?_
                refine J.q rfl rfl rfl (V.mv rfl) ?_
                refine J.q rfl rfl rfl (V.add rfl rfl (by omega)) ?_
                refine J.q rfl rfl rfl (V.as rfl) ?_
                refine J.nil ?_
                exact Po.roundP (i + 1) (by first | omega | (dsimp only; omega)) (Sub.cons rfl <| Sub.cons rfl <| Sub.cons rfl <| Sub.cons rfl <| Sub.cons rfl <| Sub.cons rfl <| Sub.cons rfl <| Sub.nil) (MSub.pull rfl <| MSub.pull rfl <| MSub.pullE rfl (by rw [cto_set (digestTo_length _ _) hi]) <| MSub.pull rfl <| MSub.refl) (by first | omega | (dsimp only; omega))
              · obtain rfl : i = 8 := by omega
                rw [cto8 (digestTo_length _ _)]
                refine C.exit ?_
                refine Po.thenX ?_
                refine Po.thenX ?_
                refine Po.blkX ?_
                refine Po.blkN ?_
                refine Po.then ?_
                refine C.reg ?_
                refine J.q rfl rfl rfl (V.mv rfl) ?_
                refine J.q rfl rfl rfl (V.add rfl rfl (by omega)) ?_
                refine J.q rfl rfl rfl (V.as rfl) ?_
                refine J.nil ?_
                exact Po.roundP (k + 1) (by first | omega | (dsimp only; omega)) (Sub.cons' rfl (by exact congrArg _ (by omega)) <| Sub.cons rfl <| Sub.cons rfl <| Sub.cons rfl <| Sub.cons rfl <| Sub.nil) (MSub.pull rfl <| MSub.pull rfl <| MSub.pull rfl <| MSub.drop <| MSub.refl) (by first | omega | (dsimp only; omega))
      · obtain rfl : k = (padded b).length / 64 := by rw [bys_length] at h54; omega
        refine C.exit ?_
        refine Po.thenX ?_
        refine Po.thenX ?_
        refine Po.blkX ?_
        refine Po.then ?_
        refine C.seq ?_
        refine C.reg ?_
        refine J.one rfl (JO.alloc (l := 20) rfl zr174 fun b20 => ?_)
        refine J.nil ?_
        refine Po.then ?_
        refine C.seq ?_
        refine C.seq ?_
        refine C.reg ?_
        refine J.q rfl rfl rfl (V.as rfl) ?_
        refine J.nil ?_
        refine Po.then ?_
        refine C.block ?_
        refine C.loopP (fun (i : Nat) => i ≤ 32) (fun (i : Nat) => [(21, .int .i64 (i : Int)), (20, .pointer (some ⟨b20, 0, none⟩)), (3, .pointer (some ⟨b3, 0, none⟩)), (2, .pointer (some ⟨b2, 0, none⟩))]) (fun (i : Nat) => (20, St b20 (uni bv 1 (shto b i)) 174) :: (3, St b3 (uni wv 1 (digestTo (padded b) ((padded b).length / 64))) 226) :: (2, St b2 (uni bv 1 (List.replicate 32 0)) 174) :: M) (fun (i : Nat) => 32 - i) 0 (by first | omega | (dsimp only; omega)) (Sub.cons rfl <| Sub.cons rfl <| Sub.cons rfl <| Sub.cons rfl <| Sub.nil) (MSub.pullE rfl (by rfl) <| MSub.pull rfl <| MSub.pull rfl <| MSub.drop <| MSub.refl) fun i hok => ?_
        refine C.seq ?_
        refine C.seq ?_
        refine C.reg ?_
        refine J.q rfl rfl rfl (V.mv rfl) ?_
        refine J.q rfl rfl rfl (V.lss rfl rfl) ?_
        refine J.nil ?_
        refine Po.then ?_
        refine C.ifd rfl (fun h242 => ?_) (fun h242 => ?_)
        · have hi : i < 32 := by omega
          refine C.skip ?_
          refine Po.then ?_
          refine C.seq ?_
          refine C.block ?_
          refine C.reg ?_
          refine J.q rfl rfl rfl (V.mv rfl) ?_
          refine J.q rfl rfl rfl (V.mv rfl) ?_
          refine J.q rfl rfl rfl (V.quo rfl rfl (by omega)) ?_
          refine J.q rfl rfl rfl (V.iaA rfl rfl ar226 (by omega)) ?_
          refine J.q rfl rfl rfl (V.ldU (lab := 3) rfl rfl sc225 (i := i / 4) (getD_some (d := 0) (by rw [digestTo_length]; omega)) (by omega) rfl) ?_
          refine J.q rfl rfl rfl (V.mv rfl) ?_
          refine J.q rfl rfl rfl (V.rem rfl rfl (by omega)) ?_
          refine J.q rfl rfl rfl (V.mul rfl rfl (by omega)) ?_
          refine J.q rfl rfl rfl (V.sub' rfl rfl (by omega)) ?_
          refine J.q rfl rfl rfl (V.to (V.cv rfl Tryz.underlying3 Tryz.underlying84) (out_shiftR i)) ?_
          refine J.q rfl rfl rfl (V.shr32 rfl rfl (out_lt i)) ?_
          refine J.q rfl rfl rfl (V.cvWB rfl Tryz.underlying225 Tryz.underlying5) ?_
          refine J.q rfl rfl rfl (V.iaA rfl rfl ar174 (by omega)) ?_
          refine J.one rfl (JO.stU (lab := 20) rfl rfl rfl sz5 (i := i) (shto_at b hi) (by omega) ?_)
          refine J.nil ?_
          refine Po.blkN ?_
          refine Po.then ?_
          refine C.reg ?_
          refine J.q rfl rfl rfl (V.mv rfl) ?_
          refine J.q rfl rfl rfl (V.add rfl rfl (by omega)) ?_
          refine J.q rfl rfl rfl (V.as rfl) ?_
          refine J.nil ?_
          exact Po.roundP (i + 1) (by first | omega | (dsimp only; omega)) (Sub.cons rfl <| Sub.cons rfl <| Sub.cons rfl <| Sub.cons rfl <| Sub.nil) (MSub.pullE rfl (by rw [shto_set b hi]) <| MSub.pull rfl <| MSub.pull rfl <| MSub.refl) (by first | omega | (dsimp only; omega))
        · obtain rfl : i = 32 := by omega
          rw [shto_32]
          refine C.exit ?_
          refine Po.thenX ?_
          refine Po.thenX ?_
          refine Po.blkX ?_
          refine Po.then ?_
          refine C.seq ?_
          refine C.reg ?_
          refine J.q rfl rfl rfl (V.ldW 20 rfl rfl ag174 (by simp [lsz_uni, sha_length, hh, kk, digestTo_length, sched_length, spr0_length, roundsTo_length])) ?_
          refine J.one rfl (JO.stS (l := 2) rfl rfl rfl sz174 (by simp [lsz_uni, sha_length, hh, kk, digestTo_length, sched_length, spr0_length, roundsTo_length]) (by simp [lsz_uni, sha_length, hh, kk, digestTo_length, sched_length, spr0_length, roundsTo_length]) ?_)
          refine J.nil ?_
          refine Po.then ?_
          refine C.ret ?_
          exact Po.end1 rfl rfl (RV.cS (l := 2) rfl rfl ag174 (by simp [lsz_uni, sha_length, hh, kk, digestTo_length, sched_length, spr0_length, roundsTo_length])) fun W hI => ⟨rfl, hI.drop.drop.drop.unro⟩
end Go.Proofs
