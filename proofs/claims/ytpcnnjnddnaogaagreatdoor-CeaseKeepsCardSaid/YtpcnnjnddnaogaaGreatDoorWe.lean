import Derived.Test.YtpcnnjnddnaogaaGreatDoorWd
import Derived.Test.YtpcnnjnddnaogaaGreatDoorEd
import Derived.Test.YtpcnnjnddnaogaaGreatDoorProg
set_option linter.unusedVariables false
set_option linter.unusedSimpArgs false
set_option linter.unusedSectionVars false
set_option linter.unnecessarySimpa false
set_option exponentiation.threshold 1000
namespace Go.Proofs
open Go Go.Sx Go.Db
set_option maxRecDepth 100000
theorem tx134 : Tx Tryz.prog 134 := ⟨Tryz.f134, Tryz.func134, rfl, by kernel_rfl⟩
theorem tx176 : Tx Tryz.prog 176 := ⟨Tryz.f176, Tryz.func176, rfl, by kernel_rfl⟩
theorem tx179 : Tx Tryz.prog 179 := ⟨Tryz.f179, Tryz.func179, rfl, by kernel_rfl⟩
theorem tx135 : Tx Tryz.prog 135 := ⟨Tryz.f135, Tryz.func135, rfl, by kernel_rfl⟩
theorem eqv46 : ∀ (a b : ClaimD), Eqv Tryz.prog 10000 46 (ag a.lv) (ag b.lv) (decide (a = b)) := fun a b => by
  refine Eqv.to (Eqv.st (k := 9999) Tryz.underlying46 (by kernel_rfl) (EF.cons (by decide) (Pt.l1 (i := 0) sc3 rfl rfl rfl) (Pt.l1 (i := 0) sc3 rfl rfl rfl) (Eqv.up (Eqv.int Tryz.underlying3) (by decide)) <| EF.cons (by decide) (Pt.l1 (i := 1) sc3 rfl rfl rfl) (Pt.l1 (i := 1) sc3 rfl rfl rfl) (Eqv.up (Eqv.int Tryz.underlying3) (by decide)) <| EF.cons (by decide) (Pt.lP (i := 2) (n := 3) ag31 rfl rfl rfl) (Pt.lP (i := 2) (n := 3) ag31 rfl rfl rfl) (Eqv.up (Eqv.st (k := 9989) Tryz.underlying31 (by kernel_rfl) (EF.cons (by decide) (Pt.lA (i := 0) ag29 rfl rfl) (Pt.lA (i := 0) ag29 rfl rfl) (Eqv.up (Eqv.hash ht29 _ _) (by decide)) <| EF.cons (by decide) (Pt.l1 (i := 1) sc3 rfl rfl rfl) (Pt.l1 (i := 1) sc3 rfl rfl rfl) (Eqv.up (Eqv.int Tryz.underlying3) (by decide)) <| EF.cons (by decide) (Pt.l1 (i := 2) sc3 rfl rfl rfl) (Pt.l1 (i := 2) sc3 rfl rfl rfl) (Eqv.up (Eqv.int Tryz.underlying3) (by decide)) <| EF.nil)) (by decide)) <| EF.cons (by decide) (Pt.lA (i := 5) ag44 rfl rfl) (Pt.lA (i := 5) ag44 rfl rfl) (Eqv.up (Eqv.hashes ht29 Tryz.underlying44 sz29 ag29 _ _) (by decide)) <| EF.nil)) ?_
  obtain ⟨s, x, ⟨o, m, k⟩, p⟩ := a
  obtain ⟨s1, x1, ⟨o1, m1, k1⟩, p1⟩ := b
  rw [Bool.eq_iff_iff]; simp [and_assoc]
theorem eg46 : Tryz.prog.eqGuardType Tryz.prog.depth 46 = false := by kernel_rfl
theorem fo48_5 : Fo Tryz.prog 48 5 5 := ⟨_, _, 3, Tryz.underlying48, rfl, rfl, by kernel_rfl⟩
theorem fo48_6 : Fo Tryz.prog 48 6 9 := ⟨_, _, 20, Tryz.underlying48, rfl, rfl, by kernel_rfl⟩
theorem zr43 : Zr Tryz.prog 43 [(1, .int .i64 0), (1, .int .i64 0), (1, .int .i64 0), (8, hv h0), (8, hv h0), (1, .slice none 0 0), (1, .slice none 0 0)] := by unfold Zr; kernel_rfl
theorem sz43 : (Tryz.prog.info? 43).map (·.size) = some 21 := by kernel_rfl
theorem fo48_1 : Fo Tryz.prog 48 1 1 := ⟨_, _, 0, Tryz.underlying48, rfl, rfl, by kernel_rfl⟩
theorem fo48_2 : Fo Tryz.prog 48 2 2 := ⟨_, _, 0, Tryz.underlying48, rfl, rfl, by kernel_rfl⟩
theorem sc35 : Sc Tryz.prog 35 := ⟨⟨_, Tryz.underlying35, rfl⟩, by kernel_rfl⟩
theorem fo48_3 : Fo Tryz.prog 48 3 3 := ⟨_, _, 0, Tryz.underlying48, rfl, rfl, by kernel_rfl⟩
theorem fo48_4 : Fo Tryz.prog 48 4 4 := ⟨_, _, 0, Tryz.underlying48, rfl, rfl, by kernel_rfl⟩
theorem sc37 : Sc Tryz.prog 37 := ⟨⟨_, Tryz.underlying37, rfl⟩, by kernel_rfl⟩
theorem fo48_7 : Fo Tryz.prog 48 7 30 := ⟨_, _, 139, Tryz.underlying48, rfl, rfl, by kernel_rfl⟩
theorem ag46 : Ag Tryz.prog 46 140 := ⟨⟨_, Tryz.underlying46, rfl⟩, by kernel_rfl⟩
theorem zr46 : Zr Tryz.prog 46 [(1, .int .i64 0), (1, .int .i64 0), (8, hv h0), (1, .int .i64 0), (1, .int .i64 0), (128, hvs z16)] := by unfold Zr; kernel_rfl
theorem pl46 : Pls Tryz.prog 46 [(0, 1), (1, 1), (2, 10), (12, 128)] := ⟨_, Tryz.underlying46, by kernel_rfl⟩
theorem fo48_0 : Fo Tryz.prog 48 0 0 := ⟨_, _, 0, Tryz.underlying48, rfl, rfl, by kernel_rfl⟩
theorem ag48 : Ag Tryz.prog 48 170 := ⟨⟨_, Tryz.underlying48, rfl⟩, by kernel_rfl⟩
theorem tx140 : Tx Tryz.prog 140 := ⟨Tryz.f140, Tryz.func140, rfl, by kernel_rfl⟩
theorem tx138 : Tx Tryz.prog 138 := ⟨Tryz.f138, Tryz.func138, rfl, by kernel_rfl⟩
theorem pl43 : Pls Tryz.prog 43 [(0, 1), (1, 1), (2, 1), (3, 8), (11, 8), (19, 1), (20, 1)] := ⟨_, Tryz.underlying43, by kernel_rfl⟩
theorem tx139 : Tx Tryz.prog 139 := ⟨Tryz.f139, Tryz.func139, rfl, by kernel_rfl⟩
theorem sz46 : (Tryz.prog.info? 46).map (·.size) = some 140 := by kernel_rfl

theorem within_pu (x a b : Int) (w0 : World) (ro : Hp) (M : Res) : Pu Tryz.prog 134 #[iv x, iv a, iv b] w0 ro M (.bool (decide (a ≤ x ∧ x ≤ b))) := by
  refine Pu.enter Tryz.func134 rfl rfl ?_
  refine C.seq ?_
  refine C.reg ?_
  refine J.q rfl rfl rfl (V.as rfl) ?_
  refine J.nil ?_
  refine Po.then ?_
  refine C.seq ?_
  refine C.reg ?_
  refine J.q rfl rfl rfl (V.mv rfl) ?_
  refine J.q rfl rfl rfl (V.mv rfl) ?_
  refine J.q rfl rfl rfl (V.geq rfl rfl) ?_
  refine J.mvB rfl rfl fun gb10 hgb10 => ?_
  refine J.gv rfl rfl rfl rfl rfl rfl (fun hg => by subst hg; exact V.mv rfl) ?_
  refine J.gv rfl rfl rfl rfl rfl rfl (fun hg => by subst hg; exact V.mv rfl) ?_
  refine J.gv rfl rfl rfl rfl rfl rfl (fun hg => by subst hg; exact V.leq rfl rfl) ?_
  refine J.q rfl rfl rfl (V.and rfl rfl rfl) ?_
  refine J.q rfl rfl rfl (V.as rfl) ?_
  refine J.nil ?_
  refine Po.then ?_
  refine C.ret ?_
  subst hgb10
  exact Po.end1 rfl rfl rfl fun W hI => ⟨(by exact eB (by rw [Bool.decide_and])), hI⟩

theorem txMoney_pu (x : Int) (w0 : World) (ro : Hp) (M : Res) : Pu Tryz.prog 176 #[iv x] w0 ro M (.bool (decide (1 ≤ x ∧ x ≤ 1125899906842624))) := by
  refine Pu.enter Tryz.func176 rfl rfl ?_
  refine C.seq ?_
  refine C.reg ?_
  refine J.q rfl rfl rfl (V.as rfl) ?_
  refine J.nil ?_
  refine Po.then ?_
  refine C.seq ?_
  refine C.reg ?_
  refine J.q rfl rfl rfl (V.mv rfl) ?_
  refine J.callP rfl tx134 rfl (within_pu _ _ _ _ _ _) ?_ 
  refine J.q rfl rfl rfl (V.as rfl) ?_
  refine J.nil ?_
  refine Po.then ?_
  refine C.ret ?_
  exact Po.end1 rfl rfl rfl fun W hI => ⟨rfl, hI⟩

theorem account_pu (x a : Int) (w0 : World) (ro : Hp) (M : Res) : Pu Tryz.prog 179 #[iv x, iv a] w0 ro M (.bool (decide (mayAcc x a))) := by
  refine Pu.enter Tryz.func179 rfl rfl ?_
  refine C.seq ?_
  refine C.reg ?_
  refine J.q rfl rfl rfl (V.as rfl) ?_
  refine J.nil ?_
  refine Po.then ?_
  refine C.seq ?_
  refine C.reg ?_
  refine J.q rfl rfl rfl (V.mv rfl) ?_
  refine J.callP rfl tx134 rfl (within_pu _ _ _ _ _ _) ?_ 
  refine J.mvB rfl rfl fun gb7 hgb7 => ?_
  refine J.gv rfl rfl rfl rfl rfl rfl (fun hg => by subst hg; exact V.mv rfl) ?_
  refine J.gcv rfl rfl rfl rfl tx134 (fun hg => by subst hg; rfl) (fun hg => by subst hg; exact within_pu _ _ _ _ _ _) ?_
  refine J.q rfl rfl rfl (V.and rfl rfl rfl) ?_
  refine J.q rfl rfl rfl (V.as rfl) ?_
  refine J.nil ?_
  refine Po.then ?_
  refine C.ret ?_
  subst hgb7
  exact Po.end1 rfl rfl rfl fun W hI => ⟨(by exact eB (by rw [Bool.eq_iff_iff]; simp only [Bool.and_eq_true, decide_eq_true_eq]; exact Iff.rfl)), hI⟩

theorem txOuts_pu (l : List OutD) (v : Value) (w0 : World) (ro : Hp) (M : Res) (hR : RS ro v 9 (rws OutD.lv l)) (hn : l.length ≤ 1000000) : Pu Tryz.prog 135 #[v] w0 ro M (.bool (decide (mayOuts l))) := by
  obtain ⟨aV, cV, rfl, _⟩ := hR.shape
  refine Pu.enter Tryz.func135 rfl rfl ?_
  refine C.seq ?_
  refine C.reg ?_
  refine J.q rfl rfl rfl (V.as rfl) ?_
  refine J.nil ?_
  refine Po.then ?_
  refine C.seq ?_
  refine C.seq ?_
  refine C.reg ?_
  refine J.q rfl rfl rfl (V.mv rfl) ?_
  refine J.q rfl rfl rfl (V.to (V.lenR rfl hR Tryz.underlying36) (by rw [rws_length])) ?_
  refine J.q rfl rfl rfl (V.mv rfl) ?_
  refine J.nil ?_
  refine Po.then ?_
  refine C.block ?_
  refine C.loopP (fun (k : Nat) => k ≤ l.length ∧ ∀ j x, j < k → l[j]? = some x → mayOut x) (fun (k : Nat) => [(7, .int .i64 (k : Int)), (6, .int .i64 (l.length : Int)), (5, .slice aV (rws OutD.lv l).length cV), (0, .slice aV (rws OutD.lv l).length cV)]) (fun (k : Nat) => M) (fun (k : Nat) => l.length - k) 0 ⟨by omega, fun j x hj => by omega⟩ (Sub.cons rfl <| Sub.cons rfl <| Sub.cons rfl <| Sub.cons rfl <| Sub.nil) (MSub.refl) fun k hok => ?_
  refine C.seq ?_
  refine C.reg ?_
  refine J.q rfl rfl rfl (V.lss rfl rfl) ?_
  refine J.nil ?_
  refine Po.then ?_
  refine C.seq ?_
  refine C.ite rfl (fun h8 => ?_) (fun h8 => ?_)
  · have hk : k < l.length := by simp at h8; omega
    obtain ⟨x, hx⟩ : ∃ x, l[k]? = some x := ⟨_, List.getElem?_eq_getElem hk⟩
    refine C.skip ?_
    refine Po.then ?_
    refine C.seq ?_
    refine C.block ?_
    refine C.seq ?_
    refine C.reg ?_
    refine J.q rfl rfl rfl (V.iaR rfl hR rfl sl36 (by rw [rws_length]; omega)) ?_
    refine J.q rfl rfl rfl (V.to (V.ldR rfl hR (rws_get hx) ag59) (show _ = ag x.lv from rfl)) ?_
    refine J.one rfl (JO.alloc (l := 4) rfl zr59 fun b4 => ?_)
    refine J.one rfl (JO.stS (l := 4) rfl rfl rfl sz59 rfl rfl ?_)
    refine J.nil ?_
    refine Po.then ?_
    refine C.seq ?_
    refine C.reg ?_
    refine J.q rfl rfl rfl (V.fa rfl fo59_0) ?_
    refine J.q rfl rfl rfl (V.ldA (i := 0) 4 rfl rfl ag29 rfl rfl) ?_
    refine J.callP rfl tx145 rfl (Zero_pu _ _ _ _) ?_ 
    refine J.mvB rfl rfl fun gb14 hgb14 => ?_
    refine J.gv rfl rfl rfl rfl rfl rfl (fun hg => by subst hg; exact V.fa rfl fo59_1) ?_
    refine J.gv rfl rfl rfl rfl rfl rfl (fun hg => by subst hg; exact V.ldS (i := 1) 4 rfl rfl sc3 rfl rfl rfl) ?_
    refine J.gcv rfl rfl rfl rfl tx176 (fun hg => by subst hg; rfl) (fun hg => by subst hg; exact txMoney_pu _ _ _ _) ?_
    refine J.gv rfl rfl rfl rfl rfl rfl (fun hg => by subst hg; exact V.noD rfl) ?_
    refine J.q rfl rfl rfl (V.or rfl rfl rfl) ?_
    refine J.nil ?_
    refine Po.then ?_
    refine C.ite rfl (fun hb => ?_) (fun hb => ?_)
    · subst hgb14
      try simp only [Bool.and_eq_true, Bool.or_eq_true, Bool.and_eq_false_iff, Bool.or_eq_false_iff, Bool.not_eq_true', Bool.not_eq_false', decide_eq_true_eq, decide_eq_false_iff_not] at hb
      have hno : ¬ mayOuts l := fun hm => by
        have h1 := hm.1 x (List.mem_of_getElem? hx)
        obtain ⟨a1, a2, a3⟩ := h1
        simp at hb
        rcases hb with hb | hb
        · exact a1 hb
        · omega
      rw [decide_eq_false hno]
      refine C.seq ?_
      refine C.reg ?_
      refine J.q rfl rfl rfl (V.as rfl) ?_
      refine J.nil ?_
      refine Po.then ?_
      refine C.ret ?_
      refine Po.blkR ?_
      refine Po.thenR ?_
      refine Po.thenR ?_
      refine Po.blkR ?_
      refine Po.thenR ?_
      exact Po.end1 rfl rfl rfl fun W hI => ⟨rfl, hI.drop⟩
    · subst hgb14
      try simp only [Bool.and_eq_true, Bool.or_eq_true, Bool.and_eq_false_iff, Bool.or_eq_false_iff, Bool.not_eq_true', Bool.not_eq_false', decide_eq_true_eq, decide_eq_false_iff_not] at hb
      refine C.skip ?_
      refine Po.blkN ?_
      refine Po.then ?_
      refine C.reg ?_
      refine J.q rfl rfl rfl (V.add rfl rfl (by omega)) ?_
      refine J.q rfl rfl rfl (V.mv rfl) ?_
      refine J.nil ?_
      exact Po.roundP (k + 1) ⟨by omega, fun j x1 hj hx1 => by
            rcases Nat.lt_or_ge j k with hjk | hjk
            · exact hok.2 j x1 hjk hx1
            · obtain rfl : j = k := by omega
              rw [hx] at hx1; cases hx1
              simp at hb; exact ⟨hb.1, hb.2.1, hb.2.2⟩⟩ (Sub.cons rfl <| Sub.cons rfl <| Sub.cons rfl <| Sub.cons rfl <| Sub.nil) (MSub.drop <| MSub.refl) (by first | omega | (dsimp only; omega))
  · obtain ⟨hk1, hk2⟩ := hok
    obtain rfl : k = l.length := by simp at h8; omega
    have hall : ∀ x ∈ l, mayOut x := fun x hx => by
      obtain ⟨j, hj⟩ := List.getElem?_of_mem hx
      exact hk2 j x (List.getElem?_eq_some_iff.1 hj).1 hj
    refine C.exit ?_
    refine Po.thenX ?_
    refine Po.thenX ?_
    refine Po.blkX ?_
    refine Po.then ?_
    refine C.seq ?_
    refine C.reg ?_
    refine J.q rfl rfl rfl (V.mv rfl) ?_
    refine J.q rfl rfl rfl (V.to (V.lenR rfl hR Tryz.underlying36) (by rw [rws_length])) ?_
    refine J.q rfl rfl rfl (V.leq rfl rfl) ?_
    refine J.q rfl rfl rfl (V.as rfl) ?_
    refine J.nil ?_
    refine Po.then ?_
    refine C.ret ?_
    exact Po.end1 rfl rfl rfl fun W hI => ⟨(by exact eB (by rw [Bool.eq_iff_iff]; simp only [decide_eq_true_eq]; exact ⟨fun h => ⟨hall, by omega⟩, fun h => by have := h.2; omega⟩)), hI⟩

theorem txFwds_pu (l : List FwdD) (v : Value) (w0 : World) (ro : Hp) (M : Res) (hR : RS ro v 11 (rws FwdD.lv l)) (hn : l.length ≤ 1000000) : Pu Tryz.prog 137 #[v] w0 ro M (.bool (decide (mayFwds l))) := by
  obtain ⟨aV, cV, rfl, _⟩ := hR.shape
  refine Pu.enter Tryz.func137 rfl rfl ?_
  refine C.seq ?_
  refine C.reg ?_
  refine J.q rfl rfl rfl (V.as rfl) ?_
  refine J.nil ?_
  refine Po.then ?_
  refine C.seq ?_
  refine C.seq ?_
  refine C.reg ?_
  refine J.q rfl rfl rfl (V.mv rfl) ?_
  refine J.q rfl rfl rfl (V.to (V.lenR rfl hR Tryz.underlying37) (by rw [rws_length])) ?_
  refine J.q rfl rfl rfl (V.mv rfl) ?_
  refine J.nil ?_
  refine Po.then ?_
  refine C.block ?_
  refine C.loopP (fun (k : Nat) => k ≤ l.length ∧ ∀ j x, j < k → l[j]? = some x → mayFwd x) (fun (k : Nat) => [(7, .int .i64 (k : Int)), (6, .int .i64 (l.length : Int)), (5, .slice aV (rws FwdD.lv l).length cV), (0, .slice aV (rws FwdD.lv l).length cV)]) (fun (k : Nat) => M) (fun (k : Nat) => l.length - k) 0 ⟨by omega, fun j x hj => by omega⟩ (Sub.cons rfl <| Sub.cons rfl <| Sub.cons rfl <| Sub.cons rfl <| Sub.nil) (MSub.refl) fun k hok => ?_
  refine C.seq ?_
  refine C.reg ?_
  refine J.q rfl rfl rfl (V.lss rfl rfl) ?_
  refine J.nil ?_
  refine Po.then ?_
  refine C.seq ?_
  refine C.ite rfl (fun h8 => ?_) (fun h8 => ?_)
  · have hk : k < l.length := by simp at h8; omega
    obtain ⟨x, hx⟩ : ∃ x, l[k]? = some x := ⟨_, List.getElem?_eq_getElem hk⟩
    refine C.skip ?_
    refine Po.then ?_
    refine C.seq ?_
    refine C.block ?_
    refine C.seq ?_
    refine C.reg ?_
    refine J.q rfl rfl rfl (V.iaR rfl hR rfl sl37 (by rw [rws_length]; omega)) ?_
    refine J.q rfl rfl rfl (V.to (V.ldR rfl hR (rws_get hx) ag150) (show _ = ag x.lv from rfl)) ?_
    refine J.one rfl (JO.alloc (l := 4) rfl zr150 fun b4 => ?_)
    refine J.one rfl (JO.stS (l := 4) rfl rfl rfl sz150 rfl rfl ?_)
    refine J.nil ?_
    refine Po.then ?_
    refine C.seq ?_
    refine C.reg ?_
    refine J.q rfl rfl rfl (V.fa rfl fo150_0) ?_
    refine J.q rfl rfl rfl (V.ldS (i := 0) 4 rfl rfl sc3 rfl rfl rfl) ?_
    refine J.q rfl rfl rfl (V.fa rfl fo150_1) ?_
    refine J.q rfl rfl rfl (V.ldS (i := 1) 4 rfl rfl sc3 rfl rfl rfl) ?_
    refine J.callP rfl tx179 rfl (account_pu _ _ _ _ _) ?_ 
    refine J.q rfl rfl rfl (V.noD rfl) ?_
    refine J.mvB rfl rfl fun gb17 hgb17 => ?_
    refine J.gv rfl rfl rfl rfl rfl rfl (fun hg => by subst hg; exact V.fa rfl fo150_2) ?_
    refine J.gv rfl rfl rfl rfl rfl rfl (fun hg => by subst hg; exact V.ldA (i := 2) 4 rfl rfl ag29 rfl rfl) ?_
    refine J.gcv rfl rfl rfl rfl tx145 (fun hg => by subst hg; rfl) (fun hg => by subst hg; exact Zero_pu _ _ _ _) ?_
    refine J.q rfl rfl rfl (V.or rfl rfl rfl) ?_
    refine J.mvB rfl rfl fun gb22 hgb22 => ?_
    refine J.gv rfl rfl rfl rfl rfl rfl (fun hg => by subst hg; exact V.fa rfl fo150_3) ?_
    refine J.gv rfl rfl rfl rfl rfl rfl (fun hg => by subst hg; exact V.ldS (i := 3) 4 rfl rfl sc3 rfl rfl rfl) ?_
    refine J.gcv rfl rfl rfl rfl tx176 (fun hg => by subst hg; rfl) (fun hg => by subst hg; exact txMoney_pu _ _ _ _) ?_
    refine J.gv rfl rfl rfl rfl rfl rfl (fun hg => by subst hg; exact V.noD rfl) ?_
    refine J.q rfl rfl rfl (V.or rfl rfl rfl) ?_
    refine J.nil ?_
    refine Po.then ?_
    refine C.ite rfl (fun hb => ?_) (fun hb => ?_)
    · subst hgb17 hgb22
      try simp only [Bool.and_eq_true, Bool.or_eq_true, Bool.and_eq_false_iff, Bool.or_eq_false_iff, Bool.not_eq_true', Bool.not_eq_false', decide_eq_true_eq, decide_eq_false_iff_not] at hb
      have hno : ¬ mayFwds l := fun hm => by
        have h1 := hm.1 x (List.mem_of_getElem? hx)
        obtain ⟨a0, a1, a2, a3⟩ := h1
        simp at hb
        rcases hb with (hb | hb) | hb
        · exact hb a0
        · exact a1 hb
        · omega
      rw [decide_eq_false hno]
      refine C.seq ?_
      refine C.reg ?_
      refine J.q rfl rfl rfl (V.as rfl) ?_
      refine J.nil ?_
      refine Po.then ?_
      refine C.ret ?_
      refine Po.blkR ?_
      refine Po.thenR ?_
      refine Po.thenR ?_
      refine Po.blkR ?_
      refine Po.thenR ?_
      exact Po.end1 rfl rfl rfl fun W hI => ⟨rfl, hI.drop⟩
    · subst hgb17 hgb22
      try simp only [Bool.and_eq_true, Bool.or_eq_true, Bool.and_eq_false_iff, Bool.or_eq_false_iff, Bool.not_eq_true', Bool.not_eq_false', decide_eq_true_eq, decide_eq_false_iff_not] at hb
      refine C.skip ?_
      refine Po.blkN ?_
      refine Po.then ?_
      refine C.reg ?_
      refine J.q rfl rfl rfl (V.add rfl rfl (by omega)) ?_
      refine J.q rfl rfl rfl (V.mv rfl) ?_
      refine J.nil ?_
      exact Po.roundP (k + 1) ⟨by omega, fun j x1 hj hx1 => by
            rcases Nat.lt_or_ge j k with hjk | hjk
            · exact hok.2 j x1 hjk hx1
            · obtain rfl : j = k := by omega
              rw [hx] at hx1; cases hx1
              simp at hb; exact ⟨hb.1.1, hb.1.2, hb.2.1, hb.2.2⟩⟩ (Sub.cons rfl <| Sub.cons rfl <| Sub.cons rfl <| Sub.cons rfl <| Sub.nil) (MSub.drop <| MSub.refl) (by first | omega | (dsimp only; omega))
  · obtain ⟨hk1, hk2⟩ := hok
    obtain rfl : k = l.length := by simp at h8; omega
    have hall : ∀ x ∈ l, mayFwd x := fun x hx => by
      obtain ⟨j, hj⟩ := List.getElem?_of_mem hx
      exact hk2 j x (List.getElem?_eq_some_iff.1 hj).1 hj
    refine C.exit ?_
    refine Po.thenX ?_
    refine Po.thenX ?_
    refine Po.blkX ?_
    refine Po.then ?_
    refine C.seq ?_
    refine C.reg ?_
    refine J.q rfl rfl rfl (V.mv rfl) ?_
    refine J.q rfl rfl rfl (V.to (V.lenR rfl hR Tryz.underlying37) (by rw [rws_length])) ?_
    refine J.q rfl rfl rfl (V.leq rfl rfl) ?_
    refine J.q rfl rfl rfl (V.as rfl) ?_
    refine J.nil ?_
    refine Po.then ?_
    refine C.ret ?_
    exact Po.end1 rfl rfl rfl fun W hI => ⟨(by exact eB (by rw [Bool.eq_iff_iff]; simp only [decide_eq_true_eq]; exact ⟨fun h => ⟨hall, by omega⟩, fun h => by have := h.2; omega⟩)), hI⟩

theorem txClaim_pu (c : ClaimD) (w0 : World) (ro : Hp) (M : Res) : Pu Tryz.prog 139 #[ag c.lv] w0 ro M (.bool (decide (mayClaim c))) := by
  refine Pu.enter Tryz.func139 rfl rfl ?_
  refine C.seq ?_
  refine C.reg ?_
  refine J.one rfl (JO.boxS (l := 1) rfl rfl fun b1 => ?_)
  refine J.q rfl rfl rfl (V.as rfl) ?_
  refine J.nil ?_
  refine Po.then ?_
  refine C.seq ?_
  refine C.reg ?_
  refine J.q rfl rfl rfl (V.fa rfl fo46_0) ?_
  refine J.q rfl rfl rfl (V.ldS (i := 0) 1 rfl rfl sc3 rfl rfl rfl) ?_
  refine J.q rfl rfl rfl (V.fa rfl fo46_1) ?_
  refine J.q rfl rfl rfl (V.ldS (i := 1) 1 rfl rfl sc3 rfl rfl rfl) ?_
  refine J.callP rfl tx179 rfl (account_pu _ _ _ _ _) ?_ 
  refine J.mvB rfl rfl fun gb8 hgb8 => ?_
  refine J.gv rfl rfl rfl rfl rfl rfl (fun hg => by subst hg; exact V.fa rfl fo46_2) ?_
  refine J.gv rfl rfl rfl rfl rfl rfl (fun hg => by subst hg; exact V.fa rfl fo31_0) ?_
  refine J.gv rfl rfl rfl rfl rfl rfl (fun hg => by subst hg; exact V.ldA (i := 2) 1 rfl rfl ag29 rfl rfl) ?_
  refine J.gcv rfl rfl rfl rfl tx145 (fun hg => by subst hg; rfl) (fun hg => by subst hg; exact Zero_pu _ _ _ _) ?_
  refine J.gv rfl rfl rfl rfl rfl rfl (fun hg => by subst hg; exact V.noD rfl) ?_
  refine J.q rfl rfl rfl (V.and rfl rfl rfl) ?_
  refine J.mvB rfl rfl fun gb15 hgb15 => ?_
  refine J.gv rfl rfl rfl rfl rfl rfl (fun hg => by subst hg; exact V.fa rfl fo46_2) ?_
  refine J.gv rfl rfl rfl rfl rfl rfl (fun hg => by subst hg; exact V.fa rfl fo31_1) ?_
  refine J.gv rfl rfl rfl rfl rfl rfl (fun hg => by subst hg; exact V.ldS (i := 3) 1 rfl rfl sc3 rfl rfl rfl) ?_
  refine J.gcv rfl rfl rfl rfl tx176 (fun hg => by subst hg; rfl) (fun hg => by subst hg; exact txMoney_pu _ _ _ _) ?_
  refine J.q rfl rfl rfl (V.and rfl rfl rfl) ?_
  refine J.mvB rfl rfl fun gb21 hgb21 => ?_
  refine J.gv rfl rfl rfl rfl rfl rfl (fun hg => by subst hg; exact V.fa rfl fo46_2) ?_
  refine J.gv rfl rfl rfl rfl rfl rfl (fun hg => by subst hg; exact V.fa rfl fo31_2) ?_
  refine J.gv rfl rfl rfl rfl rfl rfl (fun hg => by subst hg; exact V.ldS (i := 4) 1 rfl rfl sc3 rfl rfl rfl) ?_
  refine J.gcv rfl rfl rfl rfl tx134 (fun hg => by subst hg; rfl) (fun hg => by subst hg; exact within_pu _ _ _ _ _ _) ?_
  refine J.q rfl rfl rfl (V.and rfl rfl rfl) ?_
  refine J.q rfl rfl rfl (V.as rfl) ?_
  refine J.nil ?_
  refine Po.then ?_
  refine C.ret ?_
  subst hgb8 hgb15 hgb21
  exact Po.end1 rfl rfl rfl fun W hI => ⟨(by exact eB (by rw [Bool.eq_iff_iff]; simp only [Bool.and_eq_true, decide_eq_true_eq]; simp only [mayClaim, and_assoc, ne_eq, Bool.not_eq_true', decide_eq_false_iff_not])), hI.drop⟩

theorem txCert_pu (c : CertD) (vo vs : Value) (w0 : World) (ro : Hp) (M : Res) (hR : CertRS ro c vo vs) (hn : c.outs.length ≤ 1000000) (hm : c.sigs.length ≤ 1000000) : Pu Tryz.prog 138 #[ag (c.lv vo vs)] w0 ro M (.bool (decide (mayCert c))) := by
  obtain ⟨aO, cO, rfl, _⟩ := hR.o.shape
  obtain ⟨aS, cS, rfl, _⟩ := hR.s.shape
  have hO := hR.o
  have hS := hR.s
  refine Pu.enter Tryz.func138 rfl rfl ?_
  refine C.seq ?_
  refine C.reg ?_
  refine J.one rfl (JO.boxS (l := 1) rfl rfl fun b1 => ?_)
  refine J.q rfl rfl rfl (V.as rfl) ?_
  refine J.nil ?_
  refine Po.then ?_
  refine C.seq ?_
  refine C.seq ?_
  refine C.reg ?_
  refine J.q rfl rfl rfl (V.fa rfl fo43_6) ?_
  refine J.q rfl rfl rfl (V.ldS (i := 6) 1 rfl rfl sc41 rfl (by kernel_rfl) rfl) ?_
  refine J.q rfl rfl rfl (V.to (V.lenR rfl hS Tryz.underlying41) (by rw [rws_length])) ?_
  refine J.q rfl rfl rfl (V.mv rfl) ?_
  refine J.nil ?_
  refine Po.then ?_
  refine C.block ?_
  refine C.loopP (fun (k : Nat) => k ≤ c.sigs.length ∧ ∀ j x, j < k → c.sigs[j]? = some x → maySigned x) (fun (k : Nat) => [(9, .int .i64 (k : Int)), (8, .int .i64 (c.sigs.length : Int)), (7, .slice aS (rws SignedD.lv c.sigs).length cS), (1, .pointer (some ⟨b1, 0, none⟩))]) (fun (k : Nat) => (1, St b1 (c.lv (.slice aO (rws OutD.lv c.outs).length cO) (.slice aS (rws SignedD.lv c.sigs).length cS)) 43) :: M) (fun (k : Nat) => c.sigs.length - k) 0 ⟨by omega, fun j x hj => by omega⟩ (Sub.cons rfl <| Sub.cons rfl <| Sub.cons rfl <| Sub.cons rfl <| Sub.nil) (MSub.pull rfl <| MSub.refl) fun k hok => ?_
  refine C.seq ?_
  refine C.reg ?_
  refine J.q rfl rfl rfl (V.lss rfl rfl) ?_
  refine J.nil ?_
  refine Po.then ?_
  refine C.seq ?_
  refine C.ite rfl (fun h10 => ?_) (fun h10 => ?_)
  · have hk : k < c.sigs.length := by simp at h10; omega
    obtain ⟨x, hx⟩ : ∃ x, c.sigs[k]? = some x := ⟨_, List.getElem?_eq_getElem hk⟩
    refine C.skip ?_
    refine Po.then ?_
    refine C.seq ?_
    refine C.block ?_
    refine C.seq ?_
    refine C.reg ?_
    refine J.q rfl rfl rfl (V.iaR rfl hS rfl sl41 (by rw [rws_length]; omega)) ?_
    refine J.q rfl rfl rfl (V.to (V.ldR rfl hS (rws_get hx) ag192) (show _ = ag x.lv from rfl)) ?_
    refine J.one rfl (JO.alloc (l := 4) rfl zr192 fun b4 => ?_)
    refine J.one rfl (JO.stS (l := 4) rfl rfl rfl sz192 rfl rfl ?_)
    refine J.nil ?_
    refine Po.then ?_
    refine C.seq ?_
    refine C.reg ?_
    refine J.q rfl rfl rfl (V.fa rfl fo192_0) ?_
    refine J.q rfl rfl rfl (V.ldS (i := 0) 4 rfl rfl sc3 rfl rfl rfl) ?_
    refine J.callP rfl tx134 rfl (within_pu _ _ _ _ _ _) ?_ 
    refine J.q rfl rfl rfl (V.noD rfl) ?_
    refine J.mvB rfl rfl fun gb17 hgb17 => ?_
    refine J.gv rfl rfl rfl rfl rfl rfl (fun hg => by subst hg; exact V.fa rfl fo192_1) ?_
    refine J.gv rfl rfl rfl rfl rfl rfl (fun hg => by subst hg; exact V.fa rfl fo190_0) ?_
    refine J.gv rfl rfl rfl rfl rfl rfl (fun hg => by subst hg; exact V.ldS (i := 1) 4 rfl rfl sc3 rfl rfl rfl) ?_
    refine J.gcv rfl rfl rfl rfl tx134 (fun hg => by subst hg; rfl) (fun hg => by subst hg; exact within_pu _ _ _ _ _ _) ?_
    refine J.gv rfl rfl rfl rfl rfl rfl (fun hg => by subst hg; exact V.noD rfl) ?_
    refine J.q rfl rfl rfl (V.or rfl rfl rfl) ?_
    refine J.nil ?_
    refine Po.then ?_
    refine C.ite rfl (fun hb => ?_) (fun hb => ?_)
    · subst hgb17
      try simp only [Bool.and_eq_true, Bool.or_eq_true, Bool.and_eq_false_iff, Bool.or_eq_false_iff, Bool.not_eq_true', Bool.not_eq_false', decide_eq_true_eq, decide_eq_false_iff_not] at hb
      have hno : ¬ mayCert c := fun hm => by
        have h1 := hm.1 x (List.mem_of_getElem? hx)
        obtain ⟨a1, a2⟩ := h1
        simp at hb
        omega
      rw [decide_eq_false hno]
      refine C.seq ?_
      refine C.reg ?_
      refine J.q rfl rfl rfl (V.as rfl) ?_
      refine J.nil ?_
      refine Po.then ?_
      refine C.ret ?_
      refine Po.blkR ?_
      refine Po.thenR ?_
      refine Po.thenR ?_
      refine Po.blkR ?_
      refine Po.thenR ?_
      exact Po.end1 rfl rfl rfl fun W hI => ⟨rfl, hI.drop.drop⟩
    · subst hgb17
      try simp only [Bool.and_eq_true, Bool.or_eq_true, Bool.and_eq_false_iff, Bool.or_eq_false_iff, Bool.not_eq_true', Bool.not_eq_false', decide_eq_true_eq, decide_eq_false_iff_not] at hb
      refine C.skip ?_
      refine Po.blkN ?_
      refine Po.then ?_
      refine C.reg ?_
      refine J.q rfl rfl rfl (V.add rfl rfl (by omega)) ?_
      refine J.q rfl rfl rfl (V.mv rfl) ?_
      refine J.nil ?_
      exact Po.roundP (k + 1) ⟨by omega, fun j x1 hj hx1 => by
            rcases Nat.lt_or_ge j k with hjk | hjk
            · exact hok.2 j x1 hjk hx1
            · obtain rfl : j = k := by omega
              rw [hx] at hx1; cases hx1
              simp at hb; exact hb⟩ (Sub.cons rfl <| Sub.cons rfl <| Sub.cons rfl <| Sub.cons rfl <| Sub.nil) (MSub.pull rfl <| MSub.drop <| MSub.refl) (by first | omega | (dsimp only; omega))
  · obtain ⟨hk1, hk2⟩ := hok
    obtain rfl : k = c.sigs.length := by simp at h10; omega
    have hall : ∀ x ∈ c.sigs, maySigned x := fun x hx => by
      obtain ⟨j, hj⟩ := List.getElem?_of_mem hx
      exact hk2 j x (List.getElem?_eq_some_iff.1 hj).1 hj
    refine C.exit ?_
    refine Po.thenX ?_
    refine Po.thenX ?_
    refine Po.blkX ?_
    refine Po.then ?_
    refine C.seq ?_
    refine C.reg ?_
    refine J.q rfl rfl rfl (V.fa rfl fo43_0) ?_
    refine J.q rfl rfl rfl (V.ldS (i := 0) 1 rfl rfl sc3 rfl rfl rfl) ?_
    refine J.callP rfl tx134 rfl (within_pu _ _ _ _ _ _) ?_ 
    refine J.mvB rfl rfl fun gb28 hgb28 => ?_
    refine J.gv rfl rfl rfl rfl rfl rfl (fun hg => by subst hg; exact V.fa rfl fo43_1) ?_
    refine J.gv rfl rfl rfl rfl rfl rfl (fun hg => by subst hg; exact V.ldS (i := 1) 1 rfl rfl sc3 rfl rfl rfl) ?_
    refine J.gcv rfl rfl rfl rfl tx134 (fun hg => by subst hg; rfl) (fun hg => by subst hg; exact within_pu _ _ _ _ _ _) ?_
    refine J.q rfl rfl rfl (V.and rfl rfl rfl) ?_
    refine J.mvB rfl rfl fun gb33 hgb33 => ?_
    refine J.gv rfl rfl rfl rfl rfl rfl (fun hg => by subst hg; exact V.fa rfl fo43_2) ?_
    refine J.gv rfl rfl rfl rfl rfl rfl (fun hg => by subst hg; exact V.ldS (i := 2) 1 rfl rfl sc3 rfl rfl rfl) ?_
    refine J.gcv rfl rfl rfl rfl tx134 (fun hg => by subst hg; rfl) (fun hg => by subst hg; exact within_pu _ _ _ _ _ _) ?_
    refine J.q rfl rfl rfl (V.and rfl rfl rfl) ?_
    refine J.q rfl rfl rfl (V.as rfl) ?_
    refine J.nil ?_
    refine Po.then ?_
    refine C.seq ?_
    refine C.reg ?_
    refine J.q rfl rfl rfl (V.mv rfl) ?_
    refine J.mvB rfl rfl fun gb39 hgb39 => ?_
    refine J.gv rfl rfl rfl rfl rfl rfl (fun hg => by subst hg; exact V.fa rfl fo43_5) ?_
    refine J.gv rfl rfl rfl rfl rfl rfl (fun hg => by subst hg; exact V.ldS (i := 5) 1 rfl rfl sc36 rfl (by kernel_rfl) rfl) ?_
    refine J.gcv rfl rfl rfl rfl tx135 (fun hg => by subst hg; rfl) (fun hg => by subst hg; exact txOuts_pu _ _ _ _ _ hO hn) ?_
    refine J.q rfl rfl rfl (V.and rfl rfl rfl) ?_
    refine J.mvB rfl rfl fun gb44 hgb44 => ?_
    refine J.gv rfl rfl rfl rfl rfl rfl (fun hg => by subst hg; exact V.fa rfl fo43_6) ?_
    refine J.gv rfl rfl rfl rfl rfl rfl (fun hg => by subst hg; exact V.ldS (i := 6) 1 rfl rfl sc41 rfl (by kernel_rfl) rfl) ?_
    refine J.gv rfl rfl rfl rfl rfl rfl (fun hg => by subst hg; exact V.to (V.lenR rfl hS Tryz.underlying41) (by rw [rws_length])) ?_
    refine J.gcv rfl rfl rfl rfl tx134 (fun hg => by subst hg; rfl) (fun hg => by subst hg; exact within_pu _ _ _ _ _ _) ?_
    refine J.q rfl rfl rfl (V.and rfl rfl rfl) ?_
    refine J.q rfl rfl rfl (V.as rfl) ?_
    refine J.nil ?_
    refine Po.then ?_
    refine C.ret ?_
    subst hgb28 hgb33 hgb39 hgb44
    exact Po.end1 rfl rfl rfl fun W hI => ⟨(by exact eB (by rw [Bool.eq_iff_iff]; simp only [Bool.and_eq_true, decide_eq_true_eq]; unfold mayCert; exact ⟨fun h => ⟨hall, h.1.1.1.1, h.1.1.1.2, h.1.1.2, h.1.2, by omega, by omega⟩, fun h => ⟨⟨⟨⟨h.2.1, h.2.2.1⟩, h.2.2.2.1⟩, h.2.2.2.2.1⟩, by omega, by omega⟩⟩)), hI.drop⟩

theorem txEmpty_pu (t : TxD) (v : TxV) (w0 : World) (ro : Hp) (M : Res) (hT : TxRS ro t v) (hm : TxSm t) : Pu Tryz.prog 140 #[ag (t.lv v)] w0 ro M (.bool (decide (emptyTx t))) := by
  obtain ⟨vi, vo, vf, vk, vc, vg⟩ := v
  have hI : RS ro vi 298 (rws InD.lv t.ins) := hT.i
  obtain ⟨aI, cI, rfl, _⟩ := hI.shape
  have hO : RS ro vo 9 (rws OutD.lv t.outs) := hT.o
  obtain ⟨aO, cO, rfl, _⟩ := hO.shape
  have hF : RS ro vf 11 (rws FwdD.lv t.fwds) := hT.f
  obtain ⟨aF, cF, rfl, _⟩ := hF.shape
  have hK : RS ro vk 8 (hkR t.par.keys) := hT.k
  obtain ⟨aK, cK, rfl, _⟩ := hK.shape
  have hC : RS ro vc 9 (rws OutD.lv t.cert.outs) := hT.co
  obtain ⟨aC, cC, rfl, _⟩ := hC.shape
  have hG : RS ro vg 282 (rws SignedD.lv t.cert.sigs) := hT.cs
  obtain ⟨aG, cG, rfl, _⟩ := hG.shape
  have hm1 := hm.i
  have hm2 := hm.o
  have hm3 := hm.f
  have hm4 := hm.co
  have hm5 := hm.cs
  have hm6 := hm.k
  refine Pu.enter Tryz.func140 rfl rfl ?_
  refine C.seq ?_
  refine C.reg ?_
  refine J.one rfl (JO.boxS (l := 1) rfl rfl fun b1 => ?_)
  refine J.q rfl rfl rfl (V.as rfl) ?_
  refine J.nil ?_
  refine Po.then ?_
  refine C.seq ?_
  refine C.draw [4, 5, 6, 7] [0, 1, 2, 3] [(1, St b1 (t.lv ⟨.slice aI (rws InD.lv t.ins).length cI, .slice aO (rws OutD.lv t.outs).length cO, .slice aF (rws FwdD.lv t.fwds).length cF, .slice aK (hkR t.par.keys).length cK, .slice aC (rws OutD.lv t.cert.outs).length cC, .slice aG (rws SignedD.lv t.cert.sigs).length cG⟩) 48)] mixed (by kernel_rfl) (by kernel_rfl) ?_
  refine DE.q rfl rfl rfl rfl (V.fa rfl fo48_5) ?_
  refine DE.q rfl rfl rfl rfl (V.to (V.ldP (i := 5) (k := 4) 1 rfl rfl ag40 rfl (by kernel_rfl) (by kernel_rfl)) (show _ = ag (t.par.lv (.slice aK (hkR t.par.keys).length cK)) from rfl)) ?_
  refine DE.q rfl rfl rfl rfl (V.fa rfl fo48_6) ?_
  refine DE.q rfl rfl rfl rfl (V.to (V.ldP (i := 9) (k := 7) 1 rfl rfl ag43 rfl (by kernel_rfl) (by kernel_rfl)) (show _ = ag (t.cert.lv (.slice aC (rws OutD.lv t.cert.outs).length cC) (.slice aG (rws SignedD.lv t.cert.sigs).length cG)) from rfl)) ?_
  refine DE.nil ?_
  refine DT.o2 (i := 4) (j := 5) (by kernel_rfl) (by decide) (MSub.pull rfl <| MSub.nil) ?_ ?_
  · refine DO.o (rest := [5, 6, 7]) (by decide) (by decide) rfl rfl fun Kc hKc => ?_
    refine JO.alloc (l := 3) rfl zr40 fun b3 => (hKc _ _ _ (Hp.le_refl _) ?_)
    clear hKc Kc
    refine DT.o (by kernel_rfl) (MSub.pull rfl <| MSub.nil) rfl rfl fun Kc hKc => ?_
    refine JO.alloc (l := 4) rfl zr43 fun b4 => (hKc _ _ _ (Hp.le_refl _) ?_)
    clear hKc Kc
    refine DT.o (by kernel_rfl) (MSub.pull rfl <| MSub.nil) rfl rfl fun Kc hKc => ?_
    refine JO.stS (l := 3) rfl rfl rfl sz40 rfl rfl (hKc _ _ _ (Hp.le_refl _) ?_)
    clear hKc Kc
    refine DT.o (by kernel_rfl) (MSub.pull rfl <| MSub.nil) rfl rfl fun Kc hKc => ?_
    refine JO.stS (l := 4) rfl rfl rfl sz43 (by kernel_rfl) (by kernel_rfl) (hKc _ _ _ (Hp.le_refl _) ?_)
    clear hKc Kc
    refine DT.nil' (by kernel_rfl) ?_
    refine Po.then ?_
    refine C.seq ?_
    refine C.reg ?_
    refine J.q rfl rfl rfl (V.fa rfl fo40_0) ?_
    refine J.q rfl rfl rfl (V.ldS (i := 0) 3 rfl rfl sc3 rfl rfl rfl) ?_
    refine J.q rfl rfl rfl (V.eql rfl rfl) ?_
    refine J.mvB rfl rfl fun gb14 hgb14 => ?_
    refine J.gv rfl rfl rfl rfl rfl rfl (fun hg => by subst hg; exact V.fa rfl fo40_1) ?_
    refine J.gv rfl rfl rfl rfl rfl rfl (fun hg => by subst hg; exact V.ldS (i := 1) 3 rfl rfl sc3 rfl rfl rfl) ?_
    refine J.gv rfl rfl rfl rfl rfl rfl (fun hg => by subst hg; exact V.eql rfl rfl) ?_
    refine J.q rfl rfl rfl (V.and rfl rfl rfl) ?_
    refine J.mvB rfl rfl fun gb19 hgb19 => ?_
    refine J.gv rfl rfl rfl rfl rfl rfl (fun hg => by subst hg; exact V.fa rfl fo40_2) ?_
    refine J.gv rfl rfl rfl rfl rfl rfl (fun hg => by subst hg; exact V.ldS (i := 2) 3 rfl rfl sc3 rfl rfl rfl) ?_
    refine J.gv rfl rfl rfl rfl rfl rfl (fun hg => by subst hg; exact V.eql rfl rfl) ?_
    refine J.q rfl rfl rfl (V.and rfl rfl rfl) ?_
    refine J.mvB rfl rfl fun gb24 hgb24 => ?_
    refine J.gv rfl rfl rfl rfl rfl rfl (fun hg => by subst hg; exact V.fa rfl fo40_3) ?_
    refine J.gv rfl rfl rfl rfl rfl rfl (fun hg => by subst hg; exact V.ldS (i := 3) 3 rfl rfl sc38 rfl rfl rfl) ?_
    refine J.gv rfl rfl rfl rfl rfl rfl (fun hg => by subst hg; exact V.to (V.lenR rfl hK Tryz.underlying38) (by rw [hkR_length])) ?_
    refine J.gv rfl rfl rfl rfl rfl rfl (fun hg => by subst hg; exact V.eql rfl rfl) ?_
    refine J.q rfl rfl rfl (V.and rfl rfl rfl) ?_
    refine J.q rfl rfl rfl (V.as rfl) ?_
    refine J.nil ?_
    refine Po.then ?_
    refine C.seq ?_
    refine C.reg ?_
    refine J.q rfl rfl rfl (V.fa rfl fo43_0) ?_
    refine J.q rfl rfl rfl (V.ldS (i := 0) 4 rfl rfl sc3 rfl rfl rfl) ?_
    refine J.q rfl rfl rfl (V.eql rfl rfl) ?_
    refine J.mvB rfl rfl fun gb33 hgb33 => ?_
    refine J.gv rfl rfl rfl rfl rfl rfl (fun hg => by subst hg; exact V.fa rfl fo43_1) ?_
    refine J.gv rfl rfl rfl rfl rfl rfl (fun hg => by subst hg; exact V.ldS (i := 1) 4 rfl rfl sc3 rfl rfl rfl) ?_
    refine J.gv rfl rfl rfl rfl rfl rfl (fun hg => by subst hg; exact V.eql rfl rfl) ?_
    refine J.q rfl rfl rfl (V.and rfl rfl rfl) ?_
    refine J.mvB rfl rfl fun gb38 hgb38 => ?_
    refine J.gv rfl rfl rfl rfl rfl rfl (fun hg => by subst hg; exact V.fa rfl fo43_2) ?_
    refine J.gv rfl rfl rfl rfl rfl rfl (fun hg => by subst hg; exact V.ldS (i := 2) 4 rfl rfl sc3 rfl rfl rfl) ?_
    refine J.gv rfl rfl rfl rfl rfl rfl (fun hg => by subst hg; exact V.eql rfl rfl) ?_
    refine J.q rfl rfl rfl (V.and rfl rfl rfl) ?_
    refine J.mvB rfl rfl fun gb43 hgb43 => ?_
    refine J.gv rfl rfl rfl rfl rfl rfl (fun hg => by subst hg; exact V.fa rfl fo43_3) ?_
    refine J.gv rfl rfl rfl rfl rfl rfl (fun hg => by subst hg; exact V.ldA (i := 3) 4 rfl rfl ag29 rfl rfl) ?_
    refine J.gcv rfl rfl rfl rfl tx145 (fun hg => by subst hg; rfl) (fun hg => by subst hg; exact Zero_pu _ _ _ _) ?_
    refine J.q rfl rfl rfl (V.and rfl rfl rfl) ?_
    refine J.mvB rfl rfl fun gb48 hgb48 => ?_
    refine J.gv rfl rfl rfl rfl rfl rfl (fun hg => by subst hg; exact V.fa rfl fo43_4) ?_
    refine J.gv rfl rfl rfl rfl rfl rfl (fun hg => by subst hg; exact V.ldA (i := 4) 4 rfl rfl ag29 rfl rfl) ?_
    refine J.gcv rfl rfl rfl rfl tx145 (fun hg => by subst hg; rfl) (fun hg => by subst hg; exact Zero_pu _ _ _ _) ?_
    refine J.q rfl rfl rfl (V.and rfl rfl rfl) ?_
    refine J.mvB rfl rfl fun gb53 hgb53 => ?_
    refine J.gv rfl rfl rfl rfl rfl rfl (fun hg => by subst hg; exact V.fa rfl fo43_5) ?_
    refine J.gv rfl rfl rfl rfl rfl rfl (fun hg => by subst hg; exact V.ldS (i := 5) 4 rfl rfl sc36 rfl (by kernel_rfl) rfl) ?_
    refine J.gv rfl rfl rfl rfl rfl rfl (fun hg => by subst hg; exact V.to (V.lenR rfl hC Tryz.underlying36) (by rw [rws_length])) ?_
    refine J.gv rfl rfl rfl rfl rfl rfl (fun hg => by subst hg; exact V.fa rfl fo43_6) ?_
    refine J.gv rfl rfl rfl rfl rfl rfl (fun hg => by subst hg; exact V.ldS (i := 6) 4 rfl rfl sc41 rfl (by kernel_rfl) rfl) ?_
    refine J.gv rfl rfl rfl rfl rfl rfl (fun hg => by subst hg; exact V.to (V.lenR rfl hG Tryz.underlying41) (by rw [rws_length])) ?_
    refine J.gv rfl rfl rfl rfl rfl rfl (fun hg => by subst hg; exact V.add rfl rfl (by omega)) ?_
    refine J.gv rfl rfl rfl rfl rfl rfl (fun hg => by subst hg; exact V.eql rfl rfl) ?_
    refine J.q rfl rfl rfl (V.and rfl rfl rfl) ?_
    refine J.q rfl rfl rfl (V.as rfl) ?_
    refine J.nil ?_
    refine Po.then ?_
    refine C.seq ?_
    refine C.reg ?_
    refine J.q rfl rfl rfl (V.fa rfl fo48_1) ?_
    refine J.q rfl rfl rfl (V.ldS (i := 1) 1 rfl rfl sc3 rfl rfl rfl) ?_
    refine J.q rfl rfl rfl (V.eql rfl rfl) ?_
    refine J.mvB rfl rfl fun gb66 hgb66 => ?_
    refine J.gv rfl rfl rfl rfl rfl rfl (fun hg => by subst hg; exact V.fa rfl fo48_2) ?_
    refine J.gv rfl rfl rfl rfl rfl rfl (fun hg => by subst hg; exact V.ldS (i := 2) 1 rfl rfl sc35 rfl rfl rfl) ?_
    refine J.gv rfl rfl rfl rfl rfl rfl (fun hg => by subst hg; exact V.to (V.lenR rfl hI Tryz.underlying35) (by rw [rws_length])) ?_
    refine J.gv rfl rfl rfl rfl rfl rfl (fun hg => by subst hg; exact V.fa rfl fo48_3) ?_
    refine J.gv rfl rfl rfl rfl rfl rfl (fun hg => by subst hg; exact V.ldS (i := 3) 1 rfl rfl sc36 rfl rfl rfl) ?_
    refine J.gv rfl rfl rfl rfl rfl rfl (fun hg => by subst hg; exact V.to (V.lenR rfl hO Tryz.underlying36) (by rw [rws_length])) ?_
    refine J.gv rfl rfl rfl rfl rfl rfl (fun hg => by subst hg; exact V.add rfl rfl (by omega)) ?_
    refine J.gv rfl rfl rfl rfl rfl rfl (fun hg => by subst hg; exact V.fa rfl fo48_4) ?_
    refine J.gv rfl rfl rfl rfl rfl rfl (fun hg => by subst hg; exact V.ldS (i := 4) 1 rfl rfl sc37 rfl rfl rfl) ?_
    refine J.gv rfl rfl rfl rfl rfl rfl (fun hg => by subst hg; exact V.to (V.lenR rfl hF Tryz.underlying37) (by rw [rws_length])) ?_
    refine J.gv rfl rfl rfl rfl rfl rfl (fun hg => by subst hg; exact V.add rfl rfl (by omega)) ?_
    refine J.gv rfl rfl rfl rfl rfl rfl (fun hg => by subst hg; exact V.eql rfl rfl) ?_
    refine J.q rfl rfl rfl (V.and rfl rfl rfl) ?_
    refine J.mvB rfl rfl fun gb80 hgb80 => ?_
    refine J.gv rfl rfl rfl rfl rfl rfl (fun hg => by subst hg; exact V.mv rfl) ?_
    refine J.q rfl rfl rfl (V.and rfl rfl rfl) ?_
    refine J.mvB rfl rfl fun gb83 hgb83 => ?_
    refine J.gv rfl rfl rfl rfl rfl rfl (fun hg => by subst hg; exact V.mv rfl) ?_
    refine J.q rfl rfl rfl (V.and rfl rfl rfl) ?_
    refine J.mvB rfl rfl fun gb86 hgb86 => ?_
    refine J.gv rfl rfl rfl rfl rfl rfl (fun hg => by subst hg; exact V.fa rfl fo48_7) ?_
    refine J.gv rfl rfl rfl rfl rfl rfl (fun hg => by subst hg; exact V.to (V.ldP (i := 16) (k := 6) 1 rfl rfl ag46 rfl (by kernel_rfl) (by kernel_rfl)) (show _ = ag t.claim.lv from rfl)) ?_
    refine J.gv rfl rfl rfl rfl rfl rfl (fun hg => by subst hg; exact V.to (V.bld rfl zr46 pl46 (Put.nil)) (show _ = ag ClaimD.zero.lv from rfl)) ?_
    refine J.gv rfl rfl rfl rfl rfl rfl (fun hg => by subst hg; exact V.eqlV (xs := (flat t.claim.lv).toArray) (ys := (flat ClaimD.zero.lv).toArray) rfl rfl eg46 (eqv46 t.claim ClaimD.zero)) ?_
    refine J.q rfl rfl rfl (V.and rfl rfl rfl) ?_
    refine J.q rfl rfl rfl (V.as rfl) ?_
    refine J.nil ?_
    refine Po.then ?_
    refine C.ret ?_
    subst hgb14 hgb19 hgb24 hgb33 hgb38 hgb43 hgb48 hgb53 hgb66 hgb80 hgb83 hgb86
    exact Po.end1 rfl rfl rfl fun W hI => ⟨(by exact eB (by rw [Bool.eq_iff_iff]; simp only [Bool.and_eq_true, decide_eq_true_eq]; rw [emptyTx_iff]; exact ⟨fun ⟨⟨⟨⟨a1, a2⟩, ⟨⟨⟨b1, b2⟩, b3⟩, b4⟩⟩, ⟨⟨⟨⟨⟨c1, c2⟩, c3⟩, c4⟩, c5⟩, c6⟩⟩, d⟩ => ⟨a1, by omega, ⟨b1, b2, b3, by omega⟩, ⟨c1, c2, c3, c4, c5, by omega⟩, d⟩, fun ⟨a1, a2, ⟨b1, b2, b3, b4⟩, ⟨c1, c2, c3, c4, c5, c6⟩, d⟩ => ⟨⟨⟨⟨a1, by omega⟩, ⟨⟨⟨b1, b2⟩, b3⟩, by omega⟩⟩, ⟨⟨⟨⟨⟨c1, c2⟩, c3⟩, c4⟩, c5⟩, by omega⟩⟩, d⟩⟩)), hI.drop.drop.drop⟩
  · refine DO.o (rest := [4, 6, 7]) (by decide) (by decide) rfl rfl fun Kc hKc => ?_
    refine JO.alloc (l := 4) rfl zr43 fun b4 => (hKc _ _ _ (Hp.le_refl _) ?_)
    clear hKc Kc
    refine DT.o (by kernel_rfl) (MSub.pull rfl <| MSub.nil) rfl rfl fun Kc hKc => ?_
    refine JO.alloc (l := 3) rfl zr40 fun b3 => (hKc _ _ _ (Hp.le_refl _) ?_)
    clear hKc Kc
    refine DT.o (by kernel_rfl) (MSub.pull rfl <| MSub.nil) rfl rfl fun Kc hKc => ?_
    refine JO.stS (l := 3) rfl rfl rfl sz40 rfl rfl (hKc _ _ _ (Hp.le_refl _) ?_)
    clear hKc Kc
    refine DT.o (by kernel_rfl) (MSub.pull rfl <| MSub.nil) rfl rfl fun Kc hKc => ?_
    refine JO.stS (l := 4) rfl rfl rfl sz43 (by kernel_rfl) (by kernel_rfl) (hKc _ _ _ (Hp.le_refl _) ?_)
    clear hKc Kc
    refine DT.nil' (by kernel_rfl) ?_
    refine Po.then ?_
    refine C.seq ?_
    refine C.reg ?_
    refine J.q rfl rfl rfl (V.fa rfl fo40_0) ?_
    refine J.q rfl rfl rfl (V.ldS (i := 0) 3 rfl rfl sc3 rfl rfl rfl) ?_
    refine J.q rfl rfl rfl (V.eql rfl rfl) ?_
    refine J.mvB rfl rfl fun gb14 hgb14 => ?_
    refine J.gv rfl rfl rfl rfl rfl rfl (fun hg => by subst hg; exact V.fa rfl fo40_1) ?_
    refine J.gv rfl rfl rfl rfl rfl rfl (fun hg => by subst hg; exact V.ldS (i := 1) 3 rfl rfl sc3 rfl rfl rfl) ?_
    refine J.gv rfl rfl rfl rfl rfl rfl (fun hg => by subst hg; exact V.eql rfl rfl) ?_
    refine J.q rfl rfl rfl (V.and rfl rfl rfl) ?_
    refine J.mvB rfl rfl fun gb19 hgb19 => ?_
    refine J.gv rfl rfl rfl rfl rfl rfl (fun hg => by subst hg; exact V.fa rfl fo40_2) ?_
    refine J.gv rfl rfl rfl rfl rfl rfl (fun hg => by subst hg; exact V.ldS (i := 2) 3 rfl rfl sc3 rfl rfl rfl) ?_
    refine J.gv rfl rfl rfl rfl rfl rfl (fun hg => by subst hg; exact V.eql rfl rfl) ?_
    refine J.q rfl rfl rfl (V.and rfl rfl rfl) ?_
    refine J.mvB rfl rfl fun gb24 hgb24 => ?_
    refine J.gv rfl rfl rfl rfl rfl rfl (fun hg => by subst hg; exact V.fa rfl fo40_3) ?_
    refine J.gv rfl rfl rfl rfl rfl rfl (fun hg => by subst hg; exact V.ldS (i := 3) 3 rfl rfl sc38 rfl rfl rfl) ?_
    refine J.gv rfl rfl rfl rfl rfl rfl (fun hg => by subst hg; exact V.to (V.lenR rfl hK Tryz.underlying38) (by rw [hkR_length])) ?_
    refine J.gv rfl rfl rfl rfl rfl rfl (fun hg => by subst hg; exact V.eql rfl rfl) ?_
    refine J.q rfl rfl rfl (V.and rfl rfl rfl) ?_
    refine J.q rfl rfl rfl (V.as rfl) ?_
    refine J.nil ?_
    refine Po.then ?_
    refine C.seq ?_
    refine C.reg ?_
    refine J.q rfl rfl rfl (V.fa rfl fo43_0) ?_
    refine J.q rfl rfl rfl (V.ldS (i := 0) 4 rfl rfl sc3 rfl rfl rfl) ?_
    refine J.q rfl rfl rfl (V.eql rfl rfl) ?_
    refine J.mvB rfl rfl fun gb33 hgb33 => ?_
    refine J.gv rfl rfl rfl rfl rfl rfl (fun hg => by subst hg; exact V.fa rfl fo43_1) ?_
    refine J.gv rfl rfl rfl rfl rfl rfl (fun hg => by subst hg; exact V.ldS (i := 1) 4 rfl rfl sc3 rfl rfl rfl) ?_
    refine J.gv rfl rfl rfl rfl rfl rfl (fun hg => by subst hg; exact V.eql rfl rfl) ?_
    refine J.q rfl rfl rfl (V.and rfl rfl rfl) ?_
    refine J.mvB rfl rfl fun gb38 hgb38 => ?_
    refine J.gv rfl rfl rfl rfl rfl rfl (fun hg => by subst hg; exact V.fa rfl fo43_2) ?_
    refine J.gv rfl rfl rfl rfl rfl rfl (fun hg => by subst hg; exact V.ldS (i := 2) 4 rfl rfl sc3 rfl rfl rfl) ?_
    refine J.gv rfl rfl rfl rfl rfl rfl (fun hg => by subst hg; exact V.eql rfl rfl) ?_
    refine J.q rfl rfl rfl (V.and rfl rfl rfl) ?_
    refine J.mvB rfl rfl fun gb43 hgb43 => ?_
    refine J.gv rfl rfl rfl rfl rfl rfl (fun hg => by subst hg; exact V.fa rfl fo43_3) ?_
    refine J.gv rfl rfl rfl rfl rfl rfl (fun hg => by subst hg; exact V.ldA (i := 3) 4 rfl rfl ag29 rfl rfl) ?_
    refine J.gcv rfl rfl rfl rfl tx145 (fun hg => by subst hg; rfl) (fun hg => by subst hg; exact Zero_pu _ _ _ _) ?_
    refine J.q rfl rfl rfl (V.and rfl rfl rfl) ?_
    refine J.mvB rfl rfl fun gb48 hgb48 => ?_
    refine J.gv rfl rfl rfl rfl rfl rfl (fun hg => by subst hg; exact V.fa rfl fo43_4) ?_
    refine J.gv rfl rfl rfl rfl rfl rfl (fun hg => by subst hg; exact V.ldA (i := 4) 4 rfl rfl ag29 rfl rfl) ?_
    refine J.gcv rfl rfl rfl rfl tx145 (fun hg => by subst hg; rfl) (fun hg => by subst hg; exact Zero_pu _ _ _ _) ?_
    refine J.q rfl rfl rfl (V.and rfl rfl rfl) ?_
    refine J.mvB rfl rfl fun gb53 hgb53 => ?_
    refine J.gv rfl rfl rfl rfl rfl rfl (fun hg => by subst hg; exact V.fa rfl fo43_5) ?_
    refine J.gv rfl rfl rfl rfl rfl rfl (fun hg => by subst hg; exact V.ldS (i := 5) 4 rfl rfl sc36 rfl (by kernel_rfl) rfl) ?_
    refine J.gv rfl rfl rfl rfl rfl rfl (fun hg => by subst hg; exact V.to (V.lenR rfl hC Tryz.underlying36) (by rw [rws_length])) ?_
    refine J.gv rfl rfl rfl rfl rfl rfl (fun hg => by subst hg; exact V.fa rfl fo43_6) ?_
    refine J.gv rfl rfl rfl rfl rfl rfl (fun hg => by subst hg; exact V.ldS (i := 6) 4 rfl rfl sc41 rfl (by kernel_rfl) rfl) ?_
    refine J.gv rfl rfl rfl rfl rfl rfl (fun hg => by subst hg; exact V.to (V.lenR rfl hG Tryz.underlying41) (by rw [rws_length])) ?_
    refine J.gv rfl rfl rfl rfl rfl rfl (fun hg => by subst hg; exact V.add rfl rfl (by omega)) ?_
    refine J.gv rfl rfl rfl rfl rfl rfl (fun hg => by subst hg; exact V.eql rfl rfl) ?_
    refine J.q rfl rfl rfl (V.and rfl rfl rfl) ?_
    refine J.q rfl rfl rfl (V.as rfl) ?_
    refine J.nil ?_
    refine Po.then ?_
    refine C.seq ?_
    refine C.reg ?_
    refine J.q rfl rfl rfl (V.fa rfl fo48_1) ?_
    refine J.q rfl rfl rfl (V.ldS (i := 1) 1 rfl rfl sc3 rfl rfl rfl) ?_
    refine J.q rfl rfl rfl (V.eql rfl rfl) ?_
    refine J.mvB rfl rfl fun gb66 hgb66 => ?_
    refine J.gv rfl rfl rfl rfl rfl rfl (fun hg => by subst hg; exact V.fa rfl fo48_2) ?_
    refine J.gv rfl rfl rfl rfl rfl rfl (fun hg => by subst hg; exact V.ldS (i := 2) 1 rfl rfl sc35 rfl rfl rfl) ?_
    refine J.gv rfl rfl rfl rfl rfl rfl (fun hg => by subst hg; exact V.to (V.lenR rfl hI Tryz.underlying35) (by rw [rws_length])) ?_
    refine J.gv rfl rfl rfl rfl rfl rfl (fun hg => by subst hg; exact V.fa rfl fo48_3) ?_
    refine J.gv rfl rfl rfl rfl rfl rfl (fun hg => by subst hg; exact V.ldS (i := 3) 1 rfl rfl sc36 rfl rfl rfl) ?_
    refine J.gv rfl rfl rfl rfl rfl rfl (fun hg => by subst hg; exact V.to (V.lenR rfl hO Tryz.underlying36) (by rw [rws_length])) ?_
    refine J.gv rfl rfl rfl rfl rfl rfl (fun hg => by subst hg; exact V.add rfl rfl (by omega)) ?_
    refine J.gv rfl rfl rfl rfl rfl rfl (fun hg => by subst hg; exact V.fa rfl fo48_4) ?_
    refine J.gv rfl rfl rfl rfl rfl rfl (fun hg => by subst hg; exact V.ldS (i := 4) 1 rfl rfl sc37 rfl rfl rfl) ?_
    refine J.gv rfl rfl rfl rfl rfl rfl (fun hg => by subst hg; exact V.to (V.lenR rfl hF Tryz.underlying37) (by rw [rws_length])) ?_
    refine J.gv rfl rfl rfl rfl rfl rfl (fun hg => by subst hg; exact V.add rfl rfl (by omega)) ?_
    refine J.gv rfl rfl rfl rfl rfl rfl (fun hg => by subst hg; exact V.eql rfl rfl) ?_
    refine J.q rfl rfl rfl (V.and rfl rfl rfl) ?_
    refine J.mvB rfl rfl fun gb80 hgb80 => ?_
    refine J.gv rfl rfl rfl rfl rfl rfl (fun hg => by subst hg; exact V.mv rfl) ?_
    refine J.q rfl rfl rfl (V.and rfl rfl rfl) ?_
    refine J.mvB rfl rfl fun gb83 hgb83 => ?_
    refine J.gv rfl rfl rfl rfl rfl rfl (fun hg => by subst hg; exact V.mv rfl) ?_
    refine J.q rfl rfl rfl (V.and rfl rfl rfl) ?_
    refine J.mvB rfl rfl fun gb86 hgb86 => ?_
    refine J.gv rfl rfl rfl rfl rfl rfl (fun hg => by subst hg; exact V.fa rfl fo48_7) ?_
    refine J.gv rfl rfl rfl rfl rfl rfl (fun hg => by subst hg; exact V.to (V.ldP (i := 16) (k := 6) 1 rfl rfl ag46 rfl (by kernel_rfl) (by kernel_rfl)) (show _ = ag t.claim.lv from rfl)) ?_
    refine J.gv rfl rfl rfl rfl rfl rfl (fun hg => by subst hg; exact V.to (V.bld rfl zr46 pl46 (Put.nil)) (show _ = ag ClaimD.zero.lv from rfl)) ?_
    refine J.gv rfl rfl rfl rfl rfl rfl (fun hg => by subst hg; exact V.eqlV (xs := (flat t.claim.lv).toArray) (ys := (flat ClaimD.zero.lv).toArray) rfl rfl eg46 (eqv46 t.claim ClaimD.zero)) ?_
    refine J.q rfl rfl rfl (V.and rfl rfl rfl) ?_
    refine J.q rfl rfl rfl (V.as rfl) ?_
    refine J.nil ?_
    refine Po.then ?_
    refine C.ret ?_
    subst hgb14 hgb19 hgb24 hgb33 hgb38 hgb43 hgb48 hgb53 hgb66 hgb80 hgb83 hgb86
    exact Po.end1 rfl rfl rfl fun W hI => ⟨(by exact eB (by rw [Bool.eq_iff_iff]; simp only [Bool.and_eq_true, decide_eq_true_eq]; rw [emptyTx_iff]; exact ⟨fun ⟨⟨⟨⟨a1, a2⟩, ⟨⟨⟨b1, b2⟩, b3⟩, b4⟩⟩, ⟨⟨⟨⟨⟨c1, c2⟩, c3⟩, c4⟩, c5⟩, c6⟩⟩, d⟩ => ⟨a1, by omega, ⟨b1, b2, b3, by omega⟩, ⟨c1, c2, c3, c4, c5, by omega⟩, d⟩, fun ⟨a1, a2, ⟨b1, b2, b3, b4⟩, ⟨c1, c2, c3, c4, c5, c6⟩, d⟩ => ⟨⟨⟨⟨a1, by omega⟩, ⟨⟨⟨b1, b2⟩, b3⟩, by omega⟩⟩, ⟨⟨⟨⟨⟨c1, c2⟩, c3⟩, c4⟩, c5⟩, by omega⟩⟩, d⟩⟩)), hI.drop.drop.drop⟩

theorem txMay_pu (t : TxD) (v : TxV) (hk2 : t.kind ≠ 2) (w0 : World) (ro : Hp) (M : Res) (hT : TxRS ro t v) (hm : TxSm t) : Pu Tryz.prog 82 #[ag (t.lv v)] w0 ro M (.bool (decide (mayTx t))) := by
  obtain ⟨vi, vo, vf, vk, vc, vg⟩ := v
  have hI : RS ro vi 298 (rws InD.lv t.ins) := hT.i
  obtain ⟨aI, cI, rfl, _⟩ := hI.shape
  have hO : RS ro vo 9 (rws OutD.lv t.outs) := hT.o
  obtain ⟨aO, cO, rfl, _⟩ := hO.shape
  have hF : RS ro vf 11 (rws FwdD.lv t.fwds) := hT.f
  obtain ⟨aF, cF, rfl, _⟩ := hF.shape
  have hK : RS ro vk 8 (hkR t.par.keys) := hT.k
  obtain ⟨aK, cK, rfl, _⟩ := hK.shape
  have hC : RS ro vc 9 (rws OutD.lv t.cert.outs) := hT.co
  obtain ⟨aC, cC, rfl, _⟩ := hC.shape
  have hG : RS ro vg 282 (rws SignedD.lv t.cert.sigs) := hT.cs
  obtain ⟨aG, cG, rfl, _⟩ := hG.shape
  have hm1 := hm.i
  have hm2 := hm.o
  have hm3 := hm.f
  have hm4 := hm.co
  have hm5 := hm.cs
  have hm6 := hm.k
  refine Pu.enter Tryz.func82 rfl rfl ?_
  refine C.seq ?_
  refine C.reg ?_
  refine J.one rfl (JO.boxS (l := 1) rfl rfl fun b1 => ?_)
  refine J.q rfl rfl rfl (V.as rfl) ?_
  refine J.nil ?_
  refine Po.then ?_
  refine C.seq ?_
  refine C.reg ?_
  refine J.q rfl rfl rfl (V.as rfl) ?_
  refine J.nil ?_
  refine Po.then ?_
  refine C.seq ?_
  refine C.seq ?_
  refine C.reg ?_
  refine J.q rfl rfl rfl (V.fa rfl fo48_0) ?_
  refine J.q rfl rfl rfl (V.ldS (i := 0) 1 rfl rfl sc3 rfl rfl rfl) ?_
  refine J.nil ?_
  refine Po.then ?_
  refine C.block ?_
  refine C.seq ?_
  refine C.reg ?_
  refine J.q rfl rfl rfl (V.eql rfl rfl) ?_
  refine J.q rfl rfl rfl (V.as rfl) ?_
  refine J.nil ?_
  refine Po.then ?_
  refine C.ifd rfl (fun k1 => ?_) (fun k1 => ?_)
  · refine C.seq ?_
    refine C.reg ?_
    refine J.q rfl rfl rfl (V.fa rfl fo48_1) ?_
    refine J.q rfl rfl rfl (V.ldS (i := 1) 1 rfl rfl sc3 rfl rfl rfl) ?_
    refine J.callP rfl tx134 rfl (within_pu _ _ _ _ _ _) ?_ 
    refine J.mvB rfl rfl fun gb11 hgb11 => ?_
    refine J.gv rfl rfl rfl rfl rfl rfl (fun hg => by subst hg; exact V.fa rfl fo48_3) ?_
    refine J.gv rfl rfl rfl rfl rfl rfl (fun hg => by subst hg; exact V.ldS (i := 3) 1 rfl rfl sc36 rfl rfl rfl) ?_
    refine J.gcv rfl rfl rfl rfl tx135 (fun hg => by subst hg; rfl) (fun hg => by subst hg; exact txOuts_pu _ _ _ _ _ hO hm.o) ?_
    refine J.q rfl rfl rfl (V.and rfl rfl rfl) ?_
    refine J.q rfl rfl rfl (V.as rfl) ?_
    refine J.nil ?_
    refine Po.then ?_
    refine C.reg ?_
    refine J.q rfl rfl rfl (V.fa rfl fo48_1) ?_
    refine J.one rfl (JO.st (i := 1) (l := 1) rfl rfl rfl sz3 rfl rfl ?_)
    refine J.q rfl rfl rfl (V.fa rfl fo48_3) ?_
    refine J.one rfl (JO.st (i := 3) (l := 1) rfl rfl rfl sz36 rfl rfl ?_)
    refine J.nil ?_
    refine Po.blkN ?_
    refine Po.then ?_
    refine C.seq ?_
    refine C.reg ?_
    refine J.q rfl rfl rfl (V.mv rfl) ?_
    refine J.mvB rfl rfl fun gb68 hgb68 => ?_
    refine J.gv rfl rfl rfl rfl rfl rfl (fun hg => by subst hg; exact V.to (V.ldW 1 rfl rfl ag48 (by kernel_rfl)) (show _ = ag (TxD.lv ({ t with height := 0, outs := [] }) ⟨(.slice aI (rws InD.lv t.ins).length cI), (.slice none 0 0), (.slice aF (rws FwdD.lv t.fwds).length cF), (.slice aK (hkR t.par.keys).length cK), (.slice aC (rws OutD.lv t.cert.outs).length cC), (.slice aG (rws SignedD.lv t.cert.sigs).length cG)⟩) by kernel_rfl)) ?_
    refine J.gcv rfl rfl rfl rfl tx140 (fun hg => by subst hg; rfl) (fun hg => by subst hg; exact txEmpty_pu ({ t with height := 0, outs := [] }) _ _ _ _ (⟨hI, RS.none_, hF, hK, hC, hG⟩) (⟨hm.i, Nat.zero_le _, hm.f, hm.k, hm.co, hm.cs⟩)) ?_
    refine J.q rfl rfl rfl (V.and rfl rfl rfl) ?_
    refine J.q rfl rfl rfl (V.as rfl) ?_
    refine J.nil ?_
    refine Po.then ?_
    refine C.ret ?_
    subst hgb11 hgb68
    exact Po.end1 rfl rfl rfl fun W hI => ⟨(by exact eB (may1 k1)), hI.drop⟩
  · refine C.seq ?_
    refine C.reg ?_
    refine J.q rfl rfl rfl (V.eql rfl rfl) ?_
    refine J.q rfl rfl rfl (V.as rfl) ?_
    refine J.nil ?_
    refine Po.then ?_
    refine C.ifd rfl (fun k2 => ?_) (fun k2 => ?_)
    · exact absurd k2 hk2
    · refine C.seq ?_
      refine C.reg ?_
      refine J.q rfl rfl rfl (V.eql rfl rfl) ?_
      refine J.q rfl rfl rfl (V.as rfl) ?_
      refine J.nil ?_
      refine Po.then ?_
      refine C.ifd rfl (fun k3 => ?_) (fun k3 => ?_)
      · refine C.seq ?_
        refine C.reg ?_
        refine J.q rfl rfl rfl (V.fa rfl fo48_5) ?_
        refine J.q rfl rfl rfl (V.to (V.ldP (i := 5) (k := 4) 1 rfl rfl ag40 rfl (by kernel_rfl) (by kernel_rfl)) (show _ = ag (t.par.lv (.slice aK (hkR t.par.keys).length cK)) from rfl)) ?_
        refine J.callP rfl tx116 rfl (quorumMay_pu _ t.par _ _ _ hK hm.k) ?_ 
        refine J.q rfl rfl rfl (V.as rfl) ?_
        refine J.nil ?_
        refine Po.then ?_
        refine C.reg ?_
        refine J.q rfl rfl rfl (V.to (V.bld rfl zr40 pl40 (Put.nil)) (show _ = ag (Par.zero.lv (.slice none 0 0)) from rfl)) ?_
        refine J.q rfl rfl rfl (V.fa rfl fo48_5) ?_
        refine J.one rfl (JO.stP (i := 5) (k := 4) (l := 1) rfl rfl rfl sz40 (by kernel_rfl) (by kernel_rfl) (by kernel_rfl) ?_)
        refine J.nil ?_
        refine Po.blkN ?_
        refine Po.then ?_
        refine C.seq ?_
        refine C.reg ?_
        refine J.q rfl rfl rfl (V.mv rfl) ?_
        refine J.mvB rfl rfl fun gb68 hgb68 => ?_
        refine J.gv rfl rfl rfl rfl rfl rfl (fun hg => by subst hg; exact V.to (V.ldW 1 rfl rfl ag48 (by kernel_rfl)) (show _ = ag (TxD.lv ({ t with par := Par.zero }) ⟨(.slice aI (rws InD.lv t.ins).length cI), (.slice aO (rws OutD.lv t.outs).length cO), (.slice aF (rws FwdD.lv t.fwds).length cF), (.slice none 0 0), (.slice aC (rws OutD.lv t.cert.outs).length cC), (.slice aG (rws SignedD.lv t.cert.sigs).length cG)⟩) by kernel_rfl)) ?_
        refine J.gcv rfl rfl rfl rfl tx140 (fun hg => by subst hg; rfl) (fun hg => by subst hg; exact txEmpty_pu ({ t with par := Par.zero }) _ _ _ _ (⟨hI, hO, hF, RS.none_, hC, hG⟩) (⟨hm.i, hm.o, hm.f, Nat.zero_le _, hm.co, hm.cs⟩)) ?_
        refine J.q rfl rfl rfl (V.and rfl rfl rfl) ?_
        refine J.q rfl rfl rfl (V.as rfl) ?_
        refine J.nil ?_
        refine Po.then ?_
        refine C.ret ?_
        subst hgb68
        exact Po.end1 rfl rfl rfl fun W hI => ⟨(by exact eB (may3 k3)), hI.drop⟩
      · refine C.seq ?_
        refine C.reg ?_
        refine J.q rfl rfl rfl (V.eql rfl rfl) ?_
        refine J.q rfl rfl rfl (V.as rfl) ?_
        refine J.nil ?_
        refine Po.then ?_
        refine C.ifd rfl (fun k4 => ?_) (fun k4 => ?_)
        · refine C.seq ?_
          refine C.reg ?_
          refine J.q rfl rfl rfl (V.fa rfl fo48_6) ?_
          refine J.q rfl rfl rfl (V.to (V.ldP (i := 9) (k := 7) 1 rfl rfl ag43 rfl (by kernel_rfl) (by kernel_rfl)) (show _ = ag (t.cert.lv (.slice aC (rws OutD.lv t.cert.outs).length cC) (.slice aG (rws SignedD.lv t.cert.sigs).length cG)) from rfl)) ?_
          refine J.callP rfl tx138 rfl (txCert_pu t.cert _ _ _ _ _ ⟨hC, hG⟩ hm.co hm.cs) ?_ 
          refine J.q rfl rfl rfl (V.as rfl) ?_
          refine J.nil ?_
          refine Po.then ?_
          refine C.reg ?_
          refine J.q rfl rfl rfl (V.to (V.bld rfl zr43 pl43 (Put.nil)) (show _ = ag (CertD.zero.lv (.slice none 0 0) (.slice none 0 0)) from rfl)) ?_
          refine J.q rfl rfl rfl (V.fa rfl fo48_6) ?_
          refine J.one rfl (JO.stP (i := 9) (k := 7) (l := 1) rfl rfl rfl sz43 (by kernel_rfl) (by kernel_rfl) (by kernel_rfl) ?_)
          refine J.nil ?_
          refine Po.blkN ?_
          refine Po.then ?_
          refine C.seq ?_
          refine C.reg ?_
          refine J.q rfl rfl rfl (V.mv rfl) ?_
          refine J.mvB rfl rfl fun gb68 hgb68 => ?_
          refine J.gv rfl rfl rfl rfl rfl rfl (fun hg => by subst hg; exact V.to (V.ldW 1 rfl rfl ag48 (by kernel_rfl)) (show _ = ag (TxD.lv ({ t with cert := CertD.zero }) ⟨(.slice aI (rws InD.lv t.ins).length cI), (.slice aO (rws OutD.lv t.outs).length cO), (.slice aF (rws FwdD.lv t.fwds).length cF), (.slice aK (hkR t.par.keys).length cK), (.slice none 0 0), (.slice none 0 0)⟩) by kernel_rfl)) ?_
          refine J.gcv rfl rfl rfl rfl tx140 (fun hg => by subst hg; rfl) (fun hg => by subst hg; exact txEmpty_pu ({ t with cert := CertD.zero }) _ _ _ _ (⟨hI, hO, hF, hK, RS.none_, RS.none_⟩) (⟨hm.i, hm.o, hm.f, hm.k, Nat.zero_le _, Nat.zero_le _⟩)) ?_
          refine J.q rfl rfl rfl (V.and rfl rfl rfl) ?_
          refine J.q rfl rfl rfl (V.as rfl) ?_
          refine J.nil ?_
          refine Po.then ?_
          refine C.ret ?_
          subst hgb68
          exact Po.end1 rfl rfl rfl fun W hI => ⟨(by exact eB (may4 k4)), hI.drop⟩
        · refine C.seq ?_
          refine C.reg ?_
          refine J.q rfl rfl rfl (V.eql rfl rfl) ?_
          refine J.q rfl rfl rfl (V.as rfl) ?_
          refine J.nil ?_
          refine Po.then ?_
          refine C.ifd rfl (fun k5 => ?_) (fun k5 => ?_)
          · refine C.seq ?_
            refine C.reg ?_
            refine J.q rfl rfl rfl (V.fa rfl fo48_7) ?_
            refine J.q rfl rfl rfl (V.to (V.ldP (i := 16) (k := 6) 1 rfl rfl ag46 rfl (by kernel_rfl) (by kernel_rfl)) (show _ = ag t.claim.lv from rfl)) ?_
            refine J.callP rfl tx139 rfl (txClaim_pu _ _ _ _) ?_ 
            refine J.q rfl rfl rfl (V.as rfl) ?_
            refine J.nil ?_
            refine Po.then ?_
            refine C.reg ?_
            refine J.q rfl rfl rfl (V.to (V.bld rfl zr46 pl46 (Put.nil)) (show _ = ag ClaimD.zero.lv from rfl)) ?_
            refine J.q rfl rfl rfl (V.fa rfl fo48_7) ?_
            refine J.one rfl (JO.stP (i := 16) (k := 6) (l := 1) rfl rfl rfl sz46 (by kernel_rfl) (by kernel_rfl) (by kernel_rfl) ?_)
            refine J.nil ?_
            refine Po.blkN ?_
            refine Po.then ?_
            refine C.seq ?_
            refine C.reg ?_
            refine J.q rfl rfl rfl (V.mv rfl) ?_
            refine J.mvB rfl rfl fun gb68 hgb68 => ?_
            refine J.gv rfl rfl rfl rfl rfl rfl (fun hg => by subst hg; exact V.to (V.ldW 1 rfl rfl ag48 (by kernel_rfl)) (show _ = ag (TxD.lv ({ t with claim := ClaimD.zero }) ⟨(.slice aI (rws InD.lv t.ins).length cI), (.slice aO (rws OutD.lv t.outs).length cO), (.slice aF (rws FwdD.lv t.fwds).length cF), (.slice aK (hkR t.par.keys).length cK), (.slice aC (rws OutD.lv t.cert.outs).length cC), (.slice aG (rws SignedD.lv t.cert.sigs).length cG)⟩) by kernel_rfl)) ?_
            refine J.gcv rfl rfl rfl rfl tx140 (fun hg => by subst hg; rfl) (fun hg => by subst hg; exact txEmpty_pu ({ t with claim := ClaimD.zero }) _ _ _ _ (⟨hI, hO, hF, hK, hC, hG⟩) (⟨hm.i, hm.o, hm.f, hm.k, hm.co, hm.cs⟩)) ?_
            refine J.q rfl rfl rfl (V.and rfl rfl rfl) ?_
            refine J.q rfl rfl rfl (V.as rfl) ?_
            refine J.nil ?_
            refine Po.then ?_
            refine C.ret ?_
            subst hgb68
            exact Po.end1 rfl rfl rfl fun W hI => ⟨(by exact eB (may5 k5)), hI.drop⟩
          · refine C.skip ?_
            refine Po.blkN ?_
            refine Po.then ?_
            refine C.seq ?_
            refine C.reg ?_
            refine J.q rfl rfl rfl (V.mv rfl) ?_
            refine J.mvB rfl rfl fun gb68 hgb68 => ?_
            refine J.gv rfl rfl rfl rfl rfl rfl (fun hg => by subst hg; exact V.to (V.ldW 1 rfl rfl ag48 (by kernel_rfl)) (show _ = ag (TxD.lv (t) ⟨(.slice aI (rws InD.lv t.ins).length cI), (.slice aO (rws OutD.lv t.outs).length cO), (.slice aF (rws FwdD.lv t.fwds).length cF), (.slice aK (hkR t.par.keys).length cK), (.slice aC (rws OutD.lv t.cert.outs).length cC), (.slice aG (rws SignedD.lv t.cert.sigs).length cG)⟩) by kernel_rfl)) ?_
            refine J.gcv rfl rfl rfl rfl tx140 (fun hg => by subst hg; rfl) (fun hg => by subst hg; exact txEmpty_pu (t) _ _ _ _ (hT) (hm)) ?_
            refine J.q rfl rfl rfl (V.and rfl rfl rfl) ?_
            refine J.q rfl rfl rfl (V.as rfl) ?_
            refine J.nil ?_
            refine Po.then ?_
            refine C.ret ?_
            subst hgb68
            exact Po.end1 rfl rfl rfl fun W hI => ⟨(by exact eB (by rw [decide_eq_false (mayNo k1 hk2 k3 k4 k5)]; rfl)), hI.drop⟩
end Go.Proofs
namespace Go.Proofs
open Go Go.Sx Go.Db
set_option maxRecDepth 100000
theorem tx82 : Tx Tryz.prog 82 := ⟨Tryz.f82, Tryz.func82, rfl, by kernel_rfl⟩
theorem zr260 : Zr Tryz.prog 260 [(1, .slice none 0 0), (1, .int .i64 0)] := by unfold Zr; kernel_rfl
theorem pl260 : Pls Tryz.prog 260 [(0, 2)] := ⟨_, Tryz.underlying260, by kernel_rfl⟩
theorem tx187 : Tx Tryz.prog 187 := ⟨Tryz.f187, Tryz.func187, rfl, by kernel_rfl⟩
theorem tx188 : Tx Tryz.prog 188 := ⟨Tryz.f188, Tryz.func188, rfl, by kernel_rfl⟩
theorem tx189 : Tx Tryz.prog 189 := ⟨Tryz.f189, Tryz.func189, rfl, by kernel_rfl⟩
theorem tx190 : Tx Tryz.prog 190 := ⟨Tryz.f190, Tryz.func190, rfl, by kernel_rfl⟩
theorem tx153 : Tx Tryz.prog 153 := ⟨Tryz.f153, Tryz.func153, rfl, by kernel_rfl⟩
theorem tx98 : Tx Tryz.prog 98 := ⟨Tryz.f98, Tryz.func98, rfl, by kernel_rfl⟩

theorem encode_fn (t : TxD) (v : TxV) (hk2 : t.kind ≠ 2) (hM : mayTx t) (w0 : World) (ro : Hp) (M : Res) (hT : TxRS ro t v) (hm : TxSm t) : Sx.Fn Tryz.prog 153 #[ag (t.lv v)] w0 ro M (fun u M1 => ∃ a c, u = .tuple #[.slice a (bys (encTx t)).length c, .int .i64 0] ∧ M1 = (119, Ow (.slice a (bys (encTx t)).length c) 5 1 (bys (encTx t))) :: M) := by
  obtain ⟨vi, vo, vf, vk, vc, vg⟩ := v
  have hI : RS ro vi 298 (rws InD.lv t.ins) := hT.i
  obtain ⟨aI, cI, rfl, _⟩ := hI.shape
  have hO : RS ro vo 9 (rws OutD.lv t.outs) := hT.o
  obtain ⟨aO, cO, rfl, _⟩ := hO.shape
  have hF : RS ro vf 11 (rws FwdD.lv t.fwds) := hT.f
  obtain ⟨aF, cF, rfl, _⟩ := hF.shape
  have hK : RS ro vk 8 (hkR t.par.keys) := hT.k
  obtain ⟨aK, cK, rfl, _⟩ := hK.shape
  have hC : RS ro vc 9 (rws OutD.lv t.cert.outs) := hT.co
  obtain ⟨aC, cC, rfl, _⟩ := hC.shape
  have hG : RS ro vg 282 (rws SignedD.lv t.cert.sigs) := hT.cs
  obtain ⟨aG, cG, rfl, _⟩ := hG.shape
  have hkd := hM.kind
  have hln := encTx_length hM hk2
  refine Sx.Fn.enter Tryz.func153 rfl rfl ?_
  refine C.seq ?_
  refine C.reg ?_
  refine J.one rfl (JO.boxS (l := 1) rfl rfl fun b1 => ?_)
  refine J.q rfl rfl rfl (V.as rfl) ?_
  refine J.q rfl rfl rfl (V.as rfl) ?_
  refine J.nil ?_
  refine Po.then ?_
  refine C.seq ?_
  refine C.seq ?_
  refine C.reg ?_
  refine J.q rfl rfl rfl (V.to (V.ldW 1 rfl rfl ag48 (by kernel_rfl)) (show _ = ag (t.lv ⟨.slice aI (rws InD.lv t.ins).length cI, .slice aO (rws OutD.lv t.outs).length cO, .slice aF (rws FwdD.lv t.fwds).length cF, .slice aK (hkR t.par.keys).length cK, .slice aC (rws OutD.lv t.cert.outs).length cC, .slice aG (rws SignedD.lv t.cert.sigs).length cG⟩) from rfl)) ?_
  refine J.callP rfl tx82 rfl (txMay_pu _ _ hk2 _ _ _ hT hm) ?_ 
  refine J.q rfl rfl rfl (V.noD rfl) ?_
  refine J.nil ?_
  refine Po.then ?_
  refine C.ite rfl (fun h7 => ?_) (fun h7 => ?_)
  · exfalso; simp at h7; exact h7 hM
  · refine C.skip ?_
    refine Po.then ?_
    refine C.seq ?_
    refine C.nilO 107 5 1 ?_
    refine C.reg ?_
    refine J.q rfl rfl rfl (V.bld rfl zr260 pl260 (Put.nil)) ?_
    refine J.one rfl (JO.boxS (l := 9) rfl rfl fun b9 => ?_)
    refine J.q rfl rfl rfl (V.as rfl) ?_
    refine J.nil ?_
    refine Po.then ?_
    refine C.seq ?_
    refine C.sub (M' := (160, Wr 260 5 b9 []) :: _) ?_ Sub.refl (MSub.fold Wr.mk <| MSub.pullL (l := 9) rfl <| MSub.pull rfl <| MSub.refl)
    refine C.drawM [5] [0, 1, 2, 3, 4] mixed (by kernel_rfl) (by kernel_rfl) ?_
    refine DE.q rfl rfl rfl rfl (V.mv rfl) ?_
    refine DE.q rfl rfl rfl rfl (V.nc rfl) ?_
    refine DE.q rfl rfl rfl rfl (V.fa rfl fo260_0) ?_
    refine DE.q rfl rfl rfl rfl (V.fa rfl fo48_0) ?_
    refine DE.q rfl rfl rfl rfl (V.ldS (i := 0) 1 rfl rfl sc3 rfl rfl rfl) ?_
    refine DE.nil ?_
    refine DT.o (by kernel_rfl) (MSub.refl) rfl rfl fun Kc hKc => ?_
    refine JO.call rfl tx183 rfl (Fn.at (l := 160) rfl (wNum_fn _ _ _ t.kind 1 (by decide) (by decide) (fit1 (by omega) (by omega)) (by simp only [List.length_append, List.length_nil, numB_length, encOuts_length, encPar_length, encCert_length, encClaim_length]; omega) _ _ _)) ?_
    rintro _ _ ⟨rfl, rfl⟩
    refine hKc _ _ _ (Hp.le_refl _) ?_
    clear hKc Kc
    refine DT.nil' (by kernel_rfl) ?_
    refine Po.then ?_
    refine C.cut (fun (y : Unit) => [(4, .pointer (some ⟨b9, 0, none⟩))]) (fun (y : Unit) => (160, Wr 260 5 b9 (encTx t)) :: M) ?_ fun y => ?_
    · refine C.seq ?_
      refine C.reg ?_
      refine J.q rfl rfl rfl (V.fa rfl fo48_0) ?_
      refine J.q rfl rfl rfl (V.ldS (i := 0) 1 rfl rfl sc3 rfl rfl rfl) ?_
      refine J.nil ?_
      refine Po.then ?_
      refine C.block ?_
      refine C.seq ?_
      refine C.reg ?_
      refine J.q rfl rfl rfl (V.eql rfl rfl) ?_
      refine J.q rfl rfl rfl (V.as rfl) ?_
      refine J.nil ?_
      refine Po.then ?_
      refine C.ifd rfl (fun k18 => ?_) (fun k18 => ?_)
      · have hq := hM.k1 k18
        have hq1 := hq.2.fit
        have hq2 := hq.2.2
        refine C.seq ?_
        refine C.drawM [5] [0, 1, 2, 3, 4] mixed (by kernel_rfl) (by kernel_rfl) ?_
        refine DE.q rfl rfl rfl rfl (V.mv rfl) ?_
        refine DE.q rfl rfl rfl rfl (V.nc rfl) ?_
        refine DE.q rfl rfl rfl rfl (V.fa rfl fo260_0) ?_
        refine DE.q rfl rfl rfl rfl (V.fa rfl fo48_1) ?_
        refine DE.q rfl rfl rfl rfl (V.ldS (i := 1) 1 rfl rfl sc3 rfl rfl rfl) ?_
        refine DE.nil ?_
        refine DT.o (by kernel_rfl) (MSub.refl) rfl rfl fun Kc hKc => ?_
        refine JO.call rfl tx183 rfl (Fn.at (l := 160) rfl (wNum_fn _ _ _ t.height 4 (by decide) (by decide) (fit4 (by omega) (by omega)) (by simp only [List.length_append, List.length_nil, numB_length, encOuts_length, encPar_length, encCert_length, encClaim_length]; omega) _ _ _)) ?_
        rintro _ _ ⟨rfl, rfl⟩
        refine hKc _ _ _ (Hp.le_refl _) ?_
        clear hKc Kc
        refine DT.nil' (by kernel_rfl) ?_
        refine Po.then ?_
        refine C.reg ?_
        refine J.q rfl rfl rfl (V.mv rfl) ?_
        refine J.q rfl rfl rfl (V.fa rfl fo48_3) ?_
        refine J.q rfl rfl rfl (V.ldS (i := 3) 1 rfl rfl sc36 rfl rfl rfl) ?_
        refine J.call rfl tx184 rfl (Fn.at (l := 160) rfl (outs_fn _ _ _ t.outs _ _ _ _ hO hq1.2 hq1.1 (by simp only [List.length_append, List.length_nil, numB_length, encOuts_length, encPar_length, encCert_length, encClaim_length]; omega))) ?_ 
        rintro _ _ ⟨rfl, rfl⟩
        refine J.nil ?_
        refine Po.blkN ?_
        exact Po.cut () (Sub.cons rfl <| Sub.nil) (MSub.pullE rfl (by rw [encTx, if_pos k18]; simp only [List.append_assoc, List.nil_append]) <| MSub.drop <| MSub.refl)
      · refine C.seq ?_
        refine C.reg ?_
        refine J.q rfl rfl rfl (V.eql rfl rfl) ?_
        refine J.q rfl rfl rfl (V.as rfl) ?_
        refine J.nil ?_
        refine Po.then ?_
        refine C.ifd rfl (fun k30 => ?_) (fun k30 => ?_)
        · exact absurd k30 hk2
        · refine C.seq ?_
          refine C.reg ?_
          refine J.q rfl rfl rfl (V.eql rfl rfl) ?_
          refine J.q rfl rfl rfl (V.as rfl) ?_
          refine J.nil ?_
          refine Po.then ?_
          refine C.ifd rfl (fun k44 => ?_) (fun k44 => ?_)
          · have hq := (hM.k3 k44).fit
            refine C.reg ?_
            refine J.q rfl rfl rfl (V.mv rfl) ?_
            refine J.q rfl rfl rfl (V.fa rfl fo48_5) ?_
            refine J.q rfl rfl rfl (V.to (V.ldP (i := 5) (k := 4) 1 rfl rfl ag40 rfl (by kernel_rfl) (by kernel_rfl)) (show _ = ag (t.par.lv (.slice aK (hkR t.par.keys).length cK)) from rfl)) ?_
            refine J.call rfl tx187 rfl (Fn.at (l := 160) rfl (par_fn _ _ _ t.par _ _ _ _ hK hq.1 (by omega) (by simp only [List.length_append, List.length_nil, numB_length, encOuts_length, encPar_length, encCert_length, encClaim_length]; omega))) ?_ 
            rintro _ _ ⟨rfl, rfl⟩
            refine J.nil ?_
            refine Po.blkN ?_
            exact Po.cut () (Sub.cons rfl <| Sub.nil) (MSub.pullE rfl (by rw [encTx, if_neg k18, if_neg hk2, if_pos k44]; simp only [List.append_assoc, List.nil_append]) <| MSub.drop <| MSub.refl)
          · refine C.seq ?_
            refine C.reg ?_
            refine J.q rfl rfl rfl (V.eql rfl rfl) ?_
            refine J.q rfl rfl rfl (V.as rfl) ?_
            refine J.nil ?_
            refine Po.then ?_
            refine C.ifd rfl (fun k50 => ?_) (fun k50 => ?_)
            · have hq := (hM.k4 k50).fit
              refine C.reg ?_
              refine J.q rfl rfl rfl (V.mv rfl) ?_
              refine J.q rfl rfl rfl (V.fa rfl fo48_6) ?_
              refine J.q rfl rfl rfl (V.to (V.ldP (i := 9) (k := 7) 1 rfl rfl ag43 rfl (by kernel_rfl) (by kernel_rfl)) (show _ = ag (t.cert.lv (.slice aC (rws OutD.lv t.cert.outs).length cC) (.slice aG (rws SignedD.lv t.cert.sigs).length cG)) from rfl)) ?_
              refine J.call rfl tx188 rfl (Fn.at (l := 160) rfl (cert_fn _ _ _ t.cert _ _ _ _ _ ⟨hC, hG⟩ hq.1 hq.2.1 hq.2.2.1 (by omega) (by omega) (by simp only [List.length_append, List.length_nil, numB_length, encOuts_length, encPar_length, encCert_length, encClaim_length]; omega))) ?_ 
              rintro _ _ ⟨rfl, rfl⟩
              refine J.nil ?_
              refine Po.blkN ?_
              exact Po.cut () (Sub.cons rfl <| Sub.nil) (MSub.pullE rfl (by rw [encTx, if_neg k18, if_neg hk2, if_neg k44, if_pos k50]; simp only [List.append_assoc, List.nil_append]) <| MSub.drop <| MSub.refl)
            · refine C.seq ?_
              refine C.reg ?_
              refine J.q rfl rfl rfl (V.eql rfl rfl) ?_
              refine J.q rfl rfl rfl (V.as rfl) ?_
              refine J.nil ?_
              refine Po.then ?_
              refine C.ifd rfl (fun k56 => ?_) (fun k56 => ?_)
              · have hq := (hM.k5 k56).fit
                refine C.reg ?_
                refine J.q rfl rfl rfl (V.mv rfl) ?_
                refine J.q rfl rfl rfl (V.fa rfl fo48_7) ?_
                refine J.q rfl rfl rfl (V.to (V.ldP (i := 16) (k := 6) 1 rfl rfl ag46 rfl (by kernel_rfl) (by kernel_rfl)) (show _ = ag t.claim.lv from rfl)) ?_
                refine J.call rfl tx189 rfl (Fn.at (l := 160) rfl (claim_fn _ _ _ t.claim _ _ _ hq (by simp only [List.length_append, List.length_nil, numB_length, encOuts_length, encPar_length, encCert_length, encClaim_length]; omega))) ?_ 
                rintro _ _ ⟨rfl, rfl⟩
                refine J.nil ?_
                refine Po.blkN ?_
                exact Po.cut () (Sub.cons rfl <| Sub.nil) (MSub.pullE rfl (by rw [encTx, if_neg k18, if_neg hk2, if_neg k44, if_neg k50, if_pos k56]; simp only [List.append_assoc, List.nil_append]) <| MSub.drop <| MSub.refl)
              · exfalso; omega
    refine C.seq ?_
    refine C.reg ?_
    refine J.q rfl rfl rfl (V.mv rfl) ?_
    refine J.q rfl rfl rfl (V.nc rfl) ?_
    refine J.q rfl rfl rfl (V.fa rfl fo260_0) ?_
    refine J.call rfl tx190 rfl (Fn.at (l := 160) rfl (end_fn _ _ (encTx t) _ _ _ (by omega))) ?_ 
    rintro _ _ ⟨a65, c65, rfl, rfl⟩
    refine J.q rfl rfl rfl (V.ex rfl rfl) ?_
    refine J.q rfl rfl rfl (V.ex rfl rfl) ?_
    refine J.q rfl rfl rfl (V.as rfl) ?_
    refine J.q rfl rfl rfl (V.as rfl) ?_
    refine J.nil ?_
    refine Po.then ?_
    refine C.ret ?_
    exact Po.end2 rfl rfl rfl rfl fun W hI => ⟨_, _, rfl, ⟨_, _, rfl, rfl⟩, (hI.sub (MSub.pull rfl <| MSub.refl))⟩

theorem encode_no (t : TxD) (v : TxV) (hk2 : t.kind ≠ 2) (hM : ¬ mayTx t) (w0 : World) (ro : Hp) (M : Res) (hT : TxRS ro t v) (hm : TxSm t) : Pu Tryz.prog 153 #[ag (t.lv v)] w0 ro M (.tuple #[.slice none 0 0, .int .i64 1]) := by
  obtain ⟨vi, vo, vf, vk, vc, vg⟩ := v
  have hI : RS ro vi 298 (rws InD.lv t.ins) := hT.i
  obtain ⟨aI, cI, rfl, _⟩ := hI.shape
  have hO : RS ro vo 9 (rws OutD.lv t.outs) := hT.o
  obtain ⟨aO, cO, rfl, _⟩ := hO.shape
  have hF : RS ro vf 11 (rws FwdD.lv t.fwds) := hT.f
  obtain ⟨aF, cF, rfl, _⟩ := hF.shape
  have hK : RS ro vk 8 (hkR t.par.keys) := hT.k
  obtain ⟨aK, cK, rfl, _⟩ := hK.shape
  have hC : RS ro vc 9 (rws OutD.lv t.cert.outs) := hT.co
  obtain ⟨aC, cC, rfl, _⟩ := hC.shape
  have hG : RS ro vg 282 (rws SignedD.lv t.cert.sigs) := hT.cs
  obtain ⟨aG, cG, rfl, _⟩ := hG.shape
  refine Pu.enter Tryz.func153 rfl rfl ?_
  refine C.seq ?_
  refine C.reg ?_
  refine J.one rfl (JO.boxS (l := 1) rfl rfl fun b1 => ?_)
  refine J.q rfl rfl rfl (V.as rfl) ?_
  refine J.q rfl rfl rfl (V.as rfl) ?_
  refine J.nil ?_
  refine Po.then ?_
  refine C.seq ?_
  refine C.seq ?_
  refine C.reg ?_
  refine J.q rfl rfl rfl (V.to (V.ldW 1 rfl rfl ag48 (by kernel_rfl)) (show _ = ag (t.lv ⟨.slice aI (rws InD.lv t.ins).length cI, .slice aO (rws OutD.lv t.outs).length cO, .slice aF (rws FwdD.lv t.fwds).length cF, .slice aK (hkR t.par.keys).length cK, .slice aC (rws OutD.lv t.cert.outs).length cC, .slice aG (rws SignedD.lv t.cert.sigs).length cG⟩) from rfl)) ?_
  refine J.callP rfl tx82 rfl (txMay_pu _ _ hk2 _ _ _ hT hm) ?_ 
  refine J.q rfl rfl rfl (V.noD rfl) ?_
  refine J.nil ?_
  refine Po.then ?_
  refine C.ite rfl (fun h7 => ?_) (fun h7 => ?_)
  · refine C.seq ?_
    refine C.reg ?_
    refine J.q rfl rfl rfl (V.as rfl) ?_
    refine J.q rfl rfl rfl (V.as rfl) ?_
    refine J.nil ?_
    refine Po.then ?_
    refine C.ret ?_
    refine Po.thenR ?_
    exact Po.end2 rfl rfl rfl rfl fun W hI => ⟨rfl, hI.drop⟩
  · exfalso; simp at h7; exact hM h7

theorem digest_yes (x : UInt8) (t : TxD) (v : TxV) (vp : Value) (qs : List Value) (ps : List (List UInt8)) (hk2 : t.kind ≠ 2) (hM : mayTx t) (w0 : World) (ro : Hp) (M : Res) (hT : TxRS ro t v) (hm : TxSm t) (hZ : RoK ro) (hP : RS ro vp 1 (qs.map fun q => [q])) (hq : PQ ro qs ps) (hpl : (packed ps).length ≤ 1000000) (hqn : qs.length ≤ 1000) : Pu Tryz.prog 98 #[bv x, ag (t.lv v), vp] w0 ro M (.tuple #[(hv (hOf x (encTx t :: ps))), .bool true]) := by
  obtain ⟨aP, cP, rfl, _⟩ := hP.shape
  obtain ⟨vi, vo, vf, vk, vc, vg⟩ := v
  have hI : RS ro vi 298 (rws InD.lv t.ins) := hT.i
  obtain ⟨aI, cI, rfl, _⟩ := hI.shape
  have hO : RS ro vo 9 (rws OutD.lv t.outs) := hT.o
  obtain ⟨aO, cO, rfl, _⟩ := hO.shape
  have hF : RS ro vf 11 (rws FwdD.lv t.fwds) := hT.f
  obtain ⟨aF, cF, rfl, _⟩ := hF.shape
  have hK : RS ro vk 8 (hkR t.par.keys) := hT.k
  obtain ⟨aK, cK, rfl, _⟩ := hK.shape
  have hC : RS ro vc 9 (rws OutD.lv t.cert.outs) := hT.co
  obtain ⟨aC, cC, rfl, _⟩ := hC.shape
  have hG : RS ro vg 282 (rws SignedD.lv t.cert.sigs) := hT.cs
  obtain ⟨aG, cG, rfl, _⟩ := hG.shape
  refine Pu.enter Tryz.func98 rfl rfl ?_
  have hle : Hp.le ro ro := Hp.le_refl _
  refine C.seq ?_
  refine C.reg ?_
  refine J.one rfl (JO.boxS (l := 4) rfl rfl fun b4 => ?_)
  refine J.one rfl (JO.alloc (l := 6) rfl zr29 fun b6 => ?_)
  refine J.q rfl rfl rfl (V.as rfl) ?_
  refine J.nil ?_
  refine Po.then ?_
  refine C.seq ?_
  refine C.reg ?_
  refine J.q rfl rfl rfl (V.to (V.ldW 4 rfl rfl ag48 (by kernel_rfl)) (show _ = ag (t.lv ⟨.slice aI (rws InD.lv t.ins).length cI, .slice aO (rws OutD.lv t.outs).length cO, .slice aF (rws FwdD.lv t.fwds).length cF, .slice aK (hkR t.par.keys).length cK, .slice aC (rws OutD.lv t.cert.outs).length cC, .slice aG (rws SignedD.lv t.cert.sigs).length cG⟩) from rfl)) ?_
  refine J.call rfl tx153 rfl (encode_fn _ _ hk2 hM _ _ _ hT hm) ?_ 
  rintro _ _ ⟨a12, c12, rfl, rfl⟩
  refine Kp.freezeG (l := 119) rfl (fun _ _ hA hr => hA.rs hr) fun ro hl hE => ?_
  replace hZ := hZ.mono hl
  replace hP := hP.mono hl
  replace hq := hq.mono hl
  replace hle := Hp.le_trans hle hl
  refine J.q rfl rfl rfl (V.mv rfl) ?_
  refine J.q rfl rfl rfl (V.ex rfl rfl) ?_
  refine J.q rfl rfl rfl (V.ex rfl rfl) ?_
  refine J.q rfl rfl rfl (V.as rfl) ?_
  refine J.q rfl rfl rfl (V.as rfl) ?_
  refine J.nil ?_
  refine Po.then ?_
  refine C.seq ?_
  refine C.seq ?_
  refine C.reg ?_
  refine J.q rfl rfl rfl (V.mv rfl) ?_
  refine J.q rfl rfl rfl (V.neq rfl rfl) ?_
  refine J.nil ?_
  refine Po.then ?_
  refine C.no rfl ?_
  refine C.skip ?_
  refine Po.then ?_
  refine C.seq ?_
  refine C.reg ?_
  refine J.q rfl rfl rfl (V.mv rfl) ?_
  refine J.q rfl rfl rfl (V.mv rfl) ?_
  refine J.one rfl (JO.bslS (l := 20) rfl el173 rfl rfl rfl Cs.all (by decide) fun a20 c20 => ?_)
  refine J.q rfl rfl rfl (V.mv rfl) ?_
  refine J.one rfl (JO.appRS (l := 20) rfl rfl rfl el173 rfl (by assumption) (by simp; omega) (by simp [maxLen]; omega) fun a22 c22 => ?_)
  refine J.callP rfl tx146 rfl (Pu.lend (l := 20) rfl fun k20 hA20 hl20 hr20 => Of_pu _ _ (encTx t :: ps) _ _ _ (hZ.mono hl20) (PS.of (qs := _ :: qs) (hA20.rs hr20) ⟨hE.mono hl20, PQ.mono hl20 hq⟩) (packed_cons hpl (encTx_length hM hk2))) ?_ 
  refine J.one rfl (JO.st (i := 0) (l := 6) rfl rfl rfl sz29 rfl rfl ?_)
  refine J.q rfl rfl rfl (V.as rfl) ?_
  refine J.nil ?_
  refine Po.then ?_
  refine C.ret ?_
  exact Po.end2 rfl rfl (RV.cA (l := 6) rfl rfl ag29 rfl) rfl fun W hI => ⟨rfl, (hI.drop.drop.drop).up hle⟩

theorem digest_no (x : UInt8) (t : TxD) (v : TxV) (vp : Value) (hk2 : t.kind ≠ 2) (hM : ¬ mayTx t) (w0 : World) (ro : Hp) (M : Res) (hT : TxRS ro t v) (hm : TxSm t) : Pu Tryz.prog 98 #[bv x, ag (t.lv v), vp] w0 ro M (.tuple #[hv h0, .bool false]) := by
  obtain ⟨vi, vo, vf, vk, vc, vg⟩ := v
  have hI : RS ro vi 298 (rws InD.lv t.ins) := hT.i
  obtain ⟨aI, cI, rfl, _⟩ := hI.shape
  have hO : RS ro vo 9 (rws OutD.lv t.outs) := hT.o
  obtain ⟨aO, cO, rfl, _⟩ := hO.shape
  have hF : RS ro vf 11 (rws FwdD.lv t.fwds) := hT.f
  obtain ⟨aF, cF, rfl, _⟩ := hF.shape
  have hK : RS ro vk 8 (hkR t.par.keys) := hT.k
  obtain ⟨aK, cK, rfl, _⟩ := hK.shape
  have hC : RS ro vc 9 (rws OutD.lv t.cert.outs) := hT.co
  obtain ⟨aC, cC, rfl, _⟩ := hC.shape
  have hG : RS ro vg 282 (rws SignedD.lv t.cert.sigs) := hT.cs
  obtain ⟨aG, cG, rfl, _⟩ := hG.shape
  refine Pu.enter Tryz.func98 rfl rfl ?_
  refine C.seq ?_
  refine C.reg ?_
  refine J.one rfl (JO.boxS (l := 4) rfl rfl fun b4 => ?_)
  refine J.one rfl (JO.alloc (l := 6) rfl zr29 fun b6 => ?_)
  refine J.q rfl rfl rfl (V.as rfl) ?_
  refine J.nil ?_
  refine Po.then ?_
  refine C.seq ?_
  refine C.reg ?_
  refine J.q rfl rfl rfl (V.to (V.ldW 4 rfl rfl ag48 (by kernel_rfl)) (show _ = ag (t.lv ⟨.slice aI (rws InD.lv t.ins).length cI, .slice aO (rws OutD.lv t.outs).length cO, .slice aF (rws FwdD.lv t.fwds).length cF, .slice aK (hkR t.par.keys).length cK, .slice aC (rws OutD.lv t.cert.outs).length cC, .slice aG (rws SignedD.lv t.cert.sigs).length cG⟩) from rfl)) ?_
  refine J.callP rfl tx153 rfl (encode_no _ _ hk2 hM _ _ _ hT hm) ?_ 
  refine J.q rfl rfl rfl (V.mv rfl) ?_
  refine J.q rfl rfl rfl (V.ex rfl rfl) ?_
  refine J.q rfl rfl rfl (V.ex rfl rfl) ?_
  refine J.q rfl rfl rfl (V.as rfl) ?_
  refine J.q rfl rfl rfl (V.as rfl) ?_
  refine J.nil ?_
  refine Po.then ?_
  refine C.seq ?_
  refine C.seq ?_
  refine C.reg ?_
  refine J.q rfl rfl rfl (V.mv rfl) ?_
  refine J.q rfl rfl rfl (V.neq rfl rfl) ?_
  refine J.nil ?_
  refine Po.then ?_
  refine C.yes rfl ?_
  refine C.seq ?_
  refine C.reg ?_
  refine J.q rfl rfl rfl (V.bldH0 rfl ar29 zr29) ?_
  refine J.one rfl (JO.st (i := 0) (l := 6) rfl rfl rfl sz29 rfl rfl ?_)
  refine J.q rfl rfl rfl (V.as rfl) ?_
  refine J.nil ?_
  refine Po.then ?_
  refine C.ret ?_
  refine Po.thenR ?_
  exact Po.end2 rfl rfl (RV.cA (l := 6) rfl rfl ag29 rfl) rfl fun W hI => ⟨rfl, hI.drop.drop⟩

theorem txID_yes (t : TxD) (v : TxV) (hk2 : t.kind ≠ 2) (hM : mayTx t) (w0 : World) (ro : Hp) (M : Res) (hT : TxRS ro t v) (hm : TxSm t) (hZ : RoK ro) : Pu Tryz.prog 51 #[ag (t.lv v)] w0 ro M (.tuple #[hv (hOf 120 [encTx t]), .bool true]) := by
  obtain ⟨vi, vo, vf, vk, vc, vg⟩ := v
  have hI : RS ro vi 298 (rws InD.lv t.ins) := hT.i
  obtain ⟨aI, cI, rfl, _⟩ := hI.shape
  have hO : RS ro vo 9 (rws OutD.lv t.outs) := hT.o
  obtain ⟨aO, cO, rfl, _⟩ := hO.shape
  have hF : RS ro vf 11 (rws FwdD.lv t.fwds) := hT.f
  obtain ⟨aF, cF, rfl, _⟩ := hF.shape
  have hK : RS ro vk 8 (hkR t.par.keys) := hT.k
  obtain ⟨aK, cK, rfl, _⟩ := hK.shape
  have hC : RS ro vc 9 (rws OutD.lv t.cert.outs) := hT.co
  obtain ⟨aC, cC, rfl, _⟩ := hC.shape
  have hG : RS ro vg 282 (rws SignedD.lv t.cert.sigs) := hT.cs
  obtain ⟨aG, cG, rfl, _⟩ := hG.shape
  refine Pu.enter Tryz.func51 rfl rfl ?_
  refine C.seq ?_
  refine C.reg ?_
  refine J.one rfl (JO.boxS (l := 1) rfl rfl fun b1 => ?_)
  refine J.one rfl (JO.alloc (l := 2) rfl zr29 fun b2 => ?_)
  refine J.q rfl rfl rfl (V.as rfl) ?_
  refine J.nil ?_
  refine Po.then ?_
  refine C.seq ?_
  refine C.reg ?_
  refine J.q rfl rfl rfl (V.to (V.ldW 1 rfl rfl ag48 (by kernel_rfl)) (show _ = ag (t.lv ⟨.slice aI (rws InD.lv t.ins).length cI, .slice aO (rws OutD.lv t.outs).length cO, .slice aF (rws FwdD.lv t.fwds).length cF, .slice aK (hkR t.par.keys).length cK, .slice aC (rws OutD.lv t.cert.outs).length cC, .slice aG (rws SignedD.lv t.cert.sigs).length cG⟩) from rfl)) ?_
  refine J.callP rfl tx98 rfl (digest_yes 120 t _ _ [] [] hk2 hM _ _ _ hT hm hZ RS.none_ trivial (by simp [packed]) (by simp)) ?_ 
  refine J.q rfl rfl rfl (V.ex rfl rfl) ?_
  refine J.q rfl rfl rfl (V.ex rfl rfl) ?_
  refine J.one rfl (JO.st (i := 0) (l := 2) rfl rfl rfl sz29 rfl rfl ?_)
  refine J.q rfl rfl rfl (V.as rfl) ?_
  refine J.nil ?_
  refine Po.then ?_
  refine C.ret ?_
  exact Po.end2 rfl rfl (RV.cA (l := 2) rfl rfl ag29 rfl) rfl fun W hI => ⟨rfl, hI.drop.drop⟩

theorem txID_no (t : TxD) (v : TxV) (hk2 : t.kind ≠ 2) (hM : ¬ mayTx t) (w0 : World) (ro : Hp) (M : Res) (hT : TxRS ro t v) (hm : TxSm t) : Pu Tryz.prog 51 #[ag (t.lv v)] w0 ro M (.tuple #[hv h0, .bool false]) := by
  obtain ⟨vi, vo, vf, vk, vc, vg⟩ := v
  have hI : RS ro vi 298 (rws InD.lv t.ins) := hT.i
  obtain ⟨aI, cI, rfl, _⟩ := hI.shape
  have hO : RS ro vo 9 (rws OutD.lv t.outs) := hT.o
  obtain ⟨aO, cO, rfl, _⟩ := hO.shape
  have hF : RS ro vf 11 (rws FwdD.lv t.fwds) := hT.f
  obtain ⟨aF, cF, rfl, _⟩ := hF.shape
  have hK : RS ro vk 8 (hkR t.par.keys) := hT.k
  obtain ⟨aK, cK, rfl, _⟩ := hK.shape
  have hC : RS ro vc 9 (rws OutD.lv t.cert.outs) := hT.co
  obtain ⟨aC, cC, rfl, _⟩ := hC.shape
  have hG : RS ro vg 282 (rws SignedD.lv t.cert.sigs) := hT.cs
  obtain ⟨aG, cG, rfl, _⟩ := hG.shape
  refine Pu.enter Tryz.func51 rfl rfl ?_
  refine C.seq ?_
  refine C.reg ?_
  refine J.one rfl (JO.boxS (l := 1) rfl rfl fun b1 => ?_)
  refine J.one rfl (JO.alloc (l := 2) rfl zr29 fun b2 => ?_)
  refine J.q rfl rfl rfl (V.as rfl) ?_
  refine J.nil ?_
  refine Po.then ?_
  refine C.seq ?_
  refine C.reg ?_
  refine J.q rfl rfl rfl (V.to (V.ldW 1 rfl rfl ag48 (by kernel_rfl)) (show _ = ag (t.lv ⟨.slice aI (rws InD.lv t.ins).length cI, .slice aO (rws OutD.lv t.outs).length cO, .slice aF (rws FwdD.lv t.fwds).length cF, .slice aK (hkR t.par.keys).length cK, .slice aC (rws OutD.lv t.cert.outs).length cC, .slice aG (rws SignedD.lv t.cert.sigs).length cG⟩) from rfl)) ?_
  refine J.callP rfl tx98 rfl (digest_no 120 t _ _ hk2 hM _ _ _ hT hm) ?_ 
  refine J.q rfl rfl rfl (V.ex rfl rfl) ?_
  refine J.q rfl rfl rfl (V.ex rfl rfl) ?_
  refine J.one rfl (JO.st (i := 0) (l := 2) rfl rfl rfl sz29 rfl rfl ?_)
  refine J.q rfl rfl rfl (V.as rfl) ?_
  refine J.nil ?_
  refine Po.then ?_
  refine C.ret ?_
  exact Po.end2 rfl rfl (RV.cA (l := 2) rfl rfl ag29 rfl) rfl fun W hI => ⟨rfl, hI.drop.drop⟩
end Go.Proofs
namespace Go.Proofs
open Go Go.Sx Go.Db
set_option maxRecDepth 100000
theorem eqv65 : ∀ (a b : PointD), Eqv Tryz.prog 10000 65 (ag a.lv) (ag b.lv) (decide (a = b)) := fun a b => by
  refine Eqv.to (Eqv.st (k := 9999) Tryz.underlying65 (by kernel_rfl) (EF.cons (by decide) (Pt.lA (i := 0) ag29 rfl rfl) (Pt.lA (i := 0) ag29 rfl rfl) (Eqv.up (Eqv.hash ht29 _ _) (by decide)) <| EF.cons (by decide) (Pt.l1 (i := 1) sc3 rfl rfl rfl) (Pt.l1 (i := 1) sc3 rfl rfl rfl) (Eqv.up (Eqv.int Tryz.underlying3) (by decide)) <| EF.nil)) ?_
  obtain ⟨t, x⟩ := a
  obtain ⟨t1, x1⟩ := b
  rw [Bool.eq_iff_iff]; simp
theorem ky65 : Ky Tryz.prog 65 pointV := ⟨eqv65, fun a => Ck.st (k := 9999) Tryz.underlying65 (CF.cons (Pt.lA (i := 0) ag29 rfl rfl) (Ck.up (Ck.hash ht29 _) (by decide)) <| CF.cons (Pt.l1 (i := 1) sc3 rfl rfl rfl) (Ck.up (Ck.int Tryz.underlying3) (by decide)) <| CF.nil), by kernel_rfl, bits_point⟩
theorem zcoin : (Tryz.prog.info? 61).bind (·.zero) = some (coinV CoinD.zero) := by kernel_rfl
theorem zr131 : Zr Tryz.prog 131 [(1, .map none), (1, .slice none 0 0), (1, .int .i64 0)] := by unfold Zr; kernel_rfl
theorem pl131 : Pls Tryz.prog 131 [(0, 1), (1, 1), (2, 1)] := ⟨_, Tryz.underlying131, by kernel_rfl⟩
theorem zr61 : Zr Tryz.prog 61 [(8, hv h0), (1, .int .i64 0), (1, .int .i64 0), (1, .bool false)] := by unfold Zr; kernel_rfl
theorem fo131_0 : Fo Tryz.prog 131 0 0 := ⟨_, _, 0, Tryz.underlying131, rfl, rfl, by kernel_rfl⟩
theorem sc128 : Sc Tryz.prog 128 := ⟨⟨_, Tryz.underlying128, rfl⟩, by kernel_rfl⟩
theorem ag65 : Ag Tryz.prog 65 9 := ⟨⟨_, Tryz.underlying65, rfl⟩, by kernel_rfl⟩
theorem sz61 : (Tryz.prog.info? 61).map (·.size) = some 11 := by kernel_rfl
theorem ag61 : Ag Tryz.prog 61 11 := ⟨⟨_, Tryz.underlying61, rfl⟩, by kernel_rfl⟩
theorem tx191 : Tx Tryz.prog 191 := ⟨Tryz.f191, Tryz.func191, rfl, by kernel_rfl⟩
theorem fo131_2 : Fo Tryz.prog 131 2 2 := ⟨_, _, 0, Tryz.underlying131, rfl, rfl, by kernel_rfl⟩
theorem fo61_0 : Fo Tryz.prog 61 0 0 := ⟨_, _, 8, Tryz.underlying61, rfl, rfl, by kernel_rfl⟩
theorem tx154 : Tx Tryz.prog 154 := ⟨Tryz.f154, Tryz.func154, rfl, by kernel_rfl⟩
theorem tx155 : Tx Tryz.prog 155 := ⟨Tryz.f155, Tryz.func155, rfl, by kernel_rfl⟩
theorem fo131_1 : Fo Tryz.prog 131 1 1 := ⟨_, _, 0, Tryz.underlying131, rfl, rfl, by kernel_rfl⟩
theorem sc129 : Sc Tryz.prog 129 := ⟨⟨_, Tryz.underlying129, rfl⟩, by kernel_rfl⟩
theorem zr236 : Zr Tryz.prog 236 [(8, hv h0), (1, .int .i64 0), (8, hv h0), (1, .int .i64 0), (1, .int .i64 0), (1, .bool false), (1, .bool false)] := by unfold Zr; kernel_rfl
theorem pl236 : Pls Tryz.prog 236 [(0, 9), (9, 11), (20, 1)] := ⟨_, Tryz.underlying236, by kernel_rfl⟩
theorem el129 : El Tryz.prog 129 236 21 56 := El.of Tryz.underlying129 (by kernel_rfl) (by decide)
theorem sz129 : (Tryz.prog.info? 129).map (·.size) = some 1 := by kernel_rfl
theorem zr65 : Zr Tryz.prog 65 [(8, hv h0), (1, .int .i64 0)] := by unfold Zr; kernel_rfl
theorem pl65 : Pls Tryz.prog 65 [(0, 8), (8, 1)] := ⟨_, Tryz.underlying65, by kernel_rfl⟩
theorem sz65 : (Tryz.prog.info? 65).map (·.size) = some 9 := by kernel_rfl
theorem tx21 : Tx Tryz.prog 21 := ⟨Tryz.f21, Tryz.func21, rfl, by kernel_rfl⟩
theorem pl61 : Pls Tryz.prog 61 [(0, 9), (9, 1), (10, 1)] := ⟨_, Tryz.underlying61, by kernel_rfl⟩
theorem tx99 : Tx Tryz.prog 99 := ⟨Tryz.f99, Tryz.func99, rfl, by kernel_rfl⟩

theorem utNew_fn (w0 : World) (ro : Hp) (M : Res) : Sx.Fn Tryz.prog 19 #[] w0 ro M (fun x M1 => ∃ b, x = .pointer (some ⟨b, 0, none⟩) ∧ M1 = (140, Ut 131 236 b (UD.nil)) :: M) := by
  refine Sx.Fn.enter Tryz.func19 rfl rfl ?_
  refine C.seq ?_
  refine C.reg ?_
  refine J.q rfl rfl rfl (V.as rfl) ?_
  refine J.nil ?_
  refine Po.then ?_
  refine C.seq ?_
  refine C.nilO 203 236 21 ?_
  refine C.reg ?_
  refine J.one rfl (JO.mkM (lab := 202) (ek := pointV) (ev := coinV) rfl fun r1 => ?_)
  refine J.q rfl rfl rfl (V.bld rfl zr131 pl131 (Put.one (i := 0) rfl rfl rfl <| Put.nil)) ?_
  refine J.one rfl (JO.boxS (l := 3) rfl rfl fun b3 => ?_)
  refine J.q rfl rfl rfl (V.as rfl) ?_
  refine J.nil ?_
  refine Po.then ?_
  refine C.ret ?_
  exact Po.end1 rfl rfl rfl fun W hI => ⟨_, _, rfl, ⟨_, rfl, rfl⟩, (hI.sub (MSub.fold Ut.mk <| MSub.pullL (l := 3) rfl <| MSub.pull rfl <| MSub.pull rfl <| MSub.refl))⟩

theorem utGet_fn (b : Nat) (u : UD) (p : PointD) (w0 : World) (ro : Hp) (M : Res) : Sx.Fn Tryz.prog 21 #[.pointer (some ⟨b, 0, none⟩), ag p.lv] w0 ro ((140, Ut 131 236 b (u)) :: M) (fun x M1 => x = .tuple #[ag ((getM u.coins p).getD CoinD.zero).lv, .bool (getM u.coins p).isSome] ∧ M1 = (140, Ut 131 236 b (u)) :: M) := by
  refine Sx.Fn.enter Tryz.func21 rfl rfl ?_
  refine C.seq ?_
  refine C.reg ?_
  refine J.one rfl (JO.boxS (l := 3) rfl rfl fun b3 => ?_)
  refine J.one rfl (JO.alloc (l := 4) rfl zr61 fun b4 => ?_)
  refine J.q rfl rfl rfl (V.as rfl) ?_
  refine J.nil ?_
  refine Po.then ?_
  refine C.seq ?_
  refine C.seq ?_
  refine C.reg ?_
  refine J.q rfl rfl rfl (V.mv rfl) ?_
  refine J.q rfl rfl rfl (V.ptrEq rfl Tryz.underlying54) ?_
  refine J.nil ?_
  refine Po.then ?_
  refine C.no rfl ?_
  refine C.skip ?_
  refine Po.then ?_
  refine C.seq ?_
  refine C.opnUt (l := 140) rfl fun rU aU cU => ?_
  refine C.draw [9, 10] [0, 1, 2, 3, 4, 5, 6, 7, 8, 11] [(201, St b [(1, .map (some rU)), (1, .slice aU (rws StepD.lv u.steps).length cU), (1, iv u.total)] 131), (202, Mp rU pointV coinV u.coins), (3, St b3 p.lv 65)] mixed (by kernel_rfl) (by kernel_rfl) ?_
  refine DE.q rfl rfl rfl rfl (V.mv rfl) ?_
  refine DE.q rfl rfl rfl rfl (V.nc rfl) ?_
  refine DE.q rfl rfl rfl rfl (V.fa rfl fo131_0) ?_
  refine DE.q rfl rfl rfl rfl (V.ldS (i := 0) 201 rfl rfl sc128 rfl rfl rfl) ?_
  refine DE.q rfl rfl rfl rfl (V.ldW 3 rfl rfl ag65 rfl) ?_
  refine DE.q rfl rfl rfl rfl (V.lkp2 (lab := 202) (ek := pointV) (ev := coinV) (k := p) (d := CoinD.zero) rfl rfl rfl Tryz.underlying128 ky65 zcoin) ?_
  refine DE.q rfl rfl rfl rfl (V.mv rfl) ?_
  refine DE.q rfl rfl rfl rfl (V.to (V.ex rfl rfl) (show _ = ag ((getM u.coins p).getD CoinD.zero).lv from rfl)) ?_
  refine DE.q rfl rfl rfl rfl (V.ex rfl rfl) ?_
  refine DE.q rfl rfl rfl rfl (V.as rfl) ?_
  refine DE.nil ?_
  refine DT.o (by kernel_rfl) (MSub.pull rfl <| MSub.pull rfl <| MSub.pull rfl <| MSub.nil) rfl rfl fun Kc hKc => ?_
  refine JO.alloc (l := 6) rfl zr61 fun b6 => (hKc _ _ _ (Hp.le_refl _) ?_)
  clear hKc Kc
  refine DT.o (by kernel_rfl) (MSub.pull rfl <| MSub.pull rfl <| MSub.pull rfl <| MSub.nil) rfl rfl fun Kc hKc => ?_
  refine JO.stS (l := 6) rfl rfl rfl sz61 rfl rfl (hKc _ _ _ (Hp.le_refl _) ?_)
  clear hKc Kc
  refine DT.nil (MSub.pull rfl <| MSub.pull rfl <| MSub.pull rfl <| MSub.nil) ?_
  refine Po.then ?_
  refine C.seq ?_
  refine C.reg ?_
  refine J.q rfl rfl rfl (V.ldW 6 rfl rfl ag61 rfl) ?_
  refine J.q rfl rfl rfl (V.mv rfl) ?_
  refine J.one rfl (JO.stS (l := 4) rfl rfl rfl sz61 rfl rfl ?_)
  refine J.q rfl rfl rfl (V.as rfl) ?_
  refine J.nil ?_
  refine Po.then ?_
  refine C.ret ?_
  exact Po.end2 rfl rfl (RV.cS (l := 4) rfl rfl ag61 rfl) rfl fun W hI => ⟨_, _, rfl, ⟨rfl, rfl⟩, (hI.sub (MSub.fold Ut.mk <| MSub.pull rfl <| MSub.pull rfl <| MSub.pull rfl <| MSub.drop <| MSub.drop <| MSub.drop <| MSub.refl))⟩

theorem both_pu (a b n : Int) (w0 : World) (ro : Hp) (M : Res) : Pu Tryz.prog 191 #[iv a, iv b, iv n] w0 ro M (.tuple #[iv (bothM a b n).1, .bool (bothM a b n).2]) := by
  refine Pu.enter Tryz.func191 rfl rfl ?_
  refine C.seq ?_
  refine C.reg ?_
  refine J.q rfl rfl rfl (V.as rfl) ?_
  refine J.q rfl rfl rfl (V.as rfl) ?_
  refine J.nil ?_
  refine Po.then ?_
  refine C.seq ?_
  refine C.seq ?_
  refine C.reg ?_
  refine J.q rfl rfl rfl (V.mv rfl) ?_
  refine J.callP rfl tx119 rfl (moneyMay_pu _ _ _ _) ?_ 
  refine J.q rfl rfl rfl (V.no rfl) ?_
  refine J.mvB rfl rfl fun gb11 hgb11 => ?_
  refine J.gv rfl rfl rfl rfl rfl rfl (fun hg => by subst hg; exact V.mv rfl) ?_
  refine J.gcv rfl rfl rfl rfl tx119 (fun hg => by subst hg; rfl) (fun hg => by subst hg; exact moneyMay_pu _ _ _ _) ?_
  refine J.gv rfl rfl rfl rfl rfl rfl (fun hg => by subst hg; exact V.no rfl) ?_
  refine J.q rfl rfl rfl (V.or rfl rfl rfl) ?_
  refine J.mvB rfl rfl fun gb16 hgb16 => ?_
  refine J.gv rfl rfl rfl rfl rfl rfl (fun hg => by subst hg; exact V.mv rfl) ?_
  refine J.gcv rfl rfl rfl rfl tx119 (fun hg => by subst hg; rfl) (fun hg => by subst hg; exact moneyMay_pu _ _ _ _) ?_
  refine J.gv rfl rfl rfl rfl rfl rfl (fun hg => by subst hg; exact V.no rfl) ?_
  refine J.q rfl rfl rfl (V.or rfl rfl rfl) ?_
  refine J.nil ?_
  refine Po.then ?_
  refine C.ite rfl (fun h20 => ?_) (fun h20 => ?_)
  · subst hgb11 hgb16
    try simp only [Bool.and_eq_true, Bool.or_eq_true, Bool.and_eq_false_iff, Bool.or_eq_false_iff, Bool.not_eq_true', Bool.not_eq_false', decide_eq_true_eq, decide_eq_false_iff_not] at h20
    have he : bothM a b n = (0, false) := if_neg (by simp at h20; omega)
    rw [he]
    refine C.seq ?_
    refine C.reg ?_
    refine J.q rfl rfl rfl (V.as rfl) ?_
    refine J.q rfl rfl rfl (V.as rfl) ?_
    refine J.nil ?_
    refine Po.then ?_
    refine C.ret ?_
    refine Po.thenR ?_
    exact Po.end2 rfl rfl rfl rfl fun W hI => ⟨rfl, hI⟩
  · subst hgb11 hgb16
    try simp only [Bool.and_eq_true, Bool.or_eq_true, Bool.and_eq_false_iff, Bool.or_eq_false_iff, Bool.not_eq_true', Bool.not_eq_false', decide_eq_true_eq, decide_eq_false_iff_not] at h20
    have he : bothM a b n = (n, true) := if_pos (by first | omega | (simp at h20; omega))
    rw [he]
    refine C.skip ?_
    refine Po.then ?_
    refine C.seq ?_
    refine C.reg ?_
    refine J.q rfl rfl rfl (V.mv rfl) ?_
    refine J.q rfl rfl rfl (V.as rfl) ?_
    refine J.q rfl rfl rfl (V.as rfl) ?_
    refine J.nil ?_
    refine Po.then ?_
    refine C.ret ?_
    exact Po.end2 rfl rfl rfl rfl fun W hI => ⟨rfl, hI⟩

theorem mAdd_pu (a b : Int) (w0 : World) (ro : Hp) (M : Res) : Pu Tryz.prog 154 #[iv a, iv b] w0 ro M (.tuple #[iv (moneyAdd a b).1, .bool (moneyAdd a b).2]) := by
  refine Pu.enter Tryz.func154 rfl rfl ?_
  refine C.seq ?_
  refine C.reg ?_
  refine J.q rfl rfl rfl (V.as rfl) ?_
  refine J.q rfl rfl rfl (V.as rfl) ?_
  refine J.nil ?_
  refine Po.then ?_
  refine C.seq ?_
  refine C.reg ?_
  refine J.q rfl rfl rfl (V.mv rfl) ?_
  refine J.q rfl rfl rfl (V.mv rfl) ?_
  refine J.q rfl rfl rfl (V.mv rfl) ?_
  refine J.q rfl rfl rfl (V.mv rfl) ?_
  refine J.q rfl rfl rfl (V.addW rfl rfl) ?_
  refine J.callP rfl tx191 rfl (both_pu a b (IntKind.i64.wrap (a + b)) _ _ _) ?_ 
  refine J.q rfl rfl rfl (V.ex rfl rfl) ?_
  refine J.q rfl rfl rfl (V.ex rfl rfl) ?_
  refine J.q rfl rfl rfl (V.as rfl) ?_
  refine J.q rfl rfl rfl (V.as rfl) ?_
  refine J.nil ?_
  refine Po.then ?_
  refine C.ret ?_
  exact Po.end2 rfl rfl rfl rfl fun W hI => ⟨(by rw [both_add]), hI⟩

theorem utPut_fn (b : Nat) (u : UD) (rU cU : Nat) (aU : Option Addr) (p : PointD) (c : CoinD) (w0 : World) (ro : Hp) (M : Res) (hb : -9223372036854775808 ≤ u.total + c.out.amount ∧ u.total + c.out.amount ≤ 9223372036854775807) : Sx.Fn Tryz.prog 155 #[.pointer (some ⟨b, 0, none⟩), ag p.lv, ag c.lv] w0 ro ((201, St b [(1, .map (some rU)), (1, .slice aU (rws StepD.lv u.steps).length cU), (1, iv (u.total))] 131) :: (202, Mp rU pointV coinV u.coins) :: M) (fun x M1 => x = .tuple #[] ∧ M1 = (201, St b [(1, .map (some rU)), (1, .slice aU (rws StepD.lv u.steps).length cU), (1, iv (u.total + c.out.amount))] 131) :: (202, Mp rU pointV coinV (setM u.coins p c)) :: M) := by
  refine Sx.Fn.enter Tryz.func155 rfl rfl ?_
  refine C.seq ?_
  refine C.reg ?_
  refine J.one rfl (JO.boxS (l := 4) rfl rfl fun b4 => ?_)
  refine J.one rfl (JO.boxS (l := 5) rfl rfl fun b5 => ?_)
  refine J.nil ?_
  refine Po.then ?_
  refine C.seq ?_
  refine C.seq ?_
  refine C.reg ?_
  refine J.q rfl rfl rfl (V.mv rfl) ?_
  refine J.q rfl rfl rfl (V.nc rfl) ?_
  refine J.q rfl rfl rfl (V.fa rfl fo131_0) ?_
  refine J.q rfl rfl rfl (V.ldS (i := 0) 201 rfl rfl sc128 rfl rfl rfl) ?_
  refine J.q rfl rfl rfl (V.mapNil rfl Tryz.underlying128) ?_
  refine J.nil ?_
  refine Po.then ?_
  refine C.no rfl ?_
  refine C.skip ?_
  refine Po.then ?_
  refine C.seq ?_
  refine C.draw [6] [0, 1, 2, 3, 4, 5] [(201, St b [(1, .map (some rU)), (1, .slice aU (rws StepD.lv u.steps).length cU), (1, iv (u.total))] 131), (4, St b4 p.lv 65), (5, St b5 c.lv 61)] mixed (by kernel_rfl) (by kernel_rfl) ?_
  refine DE.q rfl rfl rfl rfl (V.mv rfl) ?_
  refine DE.q rfl rfl rfl rfl (V.nc rfl) ?_
  refine DE.q rfl rfl rfl rfl (V.fa rfl fo131_0) ?_
  refine DE.q rfl rfl rfl rfl (V.ldS (i := 0) 201 rfl rfl sc128 rfl rfl rfl) ?_
  refine DE.q rfl rfl rfl rfl (V.ldW 4 rfl rfl ag65 rfl) ?_
  refine DE.q rfl rfl rfl rfl (V.ldW 5 rfl rfl ag61 rfl) ?_
  refine DE.nil ?_
  refine DT.o (by kernel_rfl) (MSub.pull rfl <| MSub.pull rfl <| MSub.pull rfl <| MSub.nil) rfl rfl fun Kc hKc => ?_
  refine JO.mup (lab := 202) (ek := pointV) (ev := coinV) (k := p) (v := c) rfl rfl rfl rfl Tryz.underlying128 ky65 (hKc _ _ _ (Hp.le_refl _) ?_)
  clear hKc Kc
  refine DT.nil' (by kernel_rfl) ?_
  refine Po.then ?_
  refine C.draw [10] [0, 1, 2, 3, 4, 5, 6, 7, 8, 9] [(201, St b [(1, .map (some rU)), (1, .slice aU (rws StepD.lv u.steps).length cU), (1, iv (u.total))] 131), (5, St b5 c.lv 61)] mixed (by kernel_rfl) (by kernel_rfl) ?_
  refine DE.q rfl rfl rfl rfl (V.mv rfl) ?_
  refine DE.q rfl rfl rfl rfl (V.nc rfl) ?_
  refine DE.q rfl rfl rfl rfl (V.fa rfl fo131_2) ?_
  refine DE.q rfl rfl rfl rfl (V.ldS (i := 2) 201 rfl rfl sc3 rfl rfl rfl) ?_
  refine DE.q rfl rfl rfl rfl (V.fa rfl fo61_0) ?_
  refine DE.q rfl rfl rfl rfl (V.fa rfl fo59_1) ?_
  refine DE.q rfl rfl rfl rfl (V.ldS (i := 1) 5 rfl rfl sc3 rfl rfl rfl) ?_
  refine DE.q rfl rfl rfl rfl (V.add rfl rfl (by omega)) ?_
  refine DE.q rfl rfl rfl rfl (V.nc rfl) ?_
  refine DE.q rfl rfl rfl rfl (V.fa rfl fo131_2) ?_
  refine DE.nil ?_
  refine DT.o (by kernel_rfl) (MSub.pull rfl <| MSub.pull rfl <| MSub.nil) rfl rfl fun Kc hKc => ?_
  refine JO.st (i := 2) (l := 201) rfl rfl rfl sz3 rfl rfl (hKc _ _ _ (Hp.le_refl _) ?_)
  clear hKc Kc
  refine DT.nil' (by kernel_rfl) ?_
  exact Po.end0 rfl rfl fun W hI => ⟨_, _, rfl, ⟨rfl, rfl⟩, (hI.sub (MSub.pull rfl <| MSub.pull rfl <| MSub.drop <| MSub.drop <| MSub.refl))⟩

theorem utAdd_fn (b : Nat) (u : UD) (p : PointD) (c : CoinD) (w0 : World) (ro : Hp) (M : Res) (hI : UI u) (hs : u.steps.length ≤ 1000000) : Sx.Fn Tryz.prog 99 #[.pointer (some ⟨b, 0, none⟩), ag p.lv, ag c.lv] w0 ro ((140, Ut 131 236 b (u)) :: M) (fun x M1 => x = .bool (decide (addOk u p c)) ∧ M1 = (140, Ut 131 236 b (addU u p c)) :: M) := by
  refine Sx.Fn.enter Tryz.func99 rfl rfl ?_
  refine C.seq ?_
  refine C.reg ?_
  refine J.one rfl (JO.boxS (l := 4) rfl rfl fun b4 => ?_)
  refine J.one rfl (JO.boxS (l := 5) rfl rfl fun b5 => ?_)
  refine J.q rfl rfl rfl (V.as rfl) ?_
  refine J.nil ?_
  refine Po.then ?_
  refine C.seq ?_
  refine C.seq ?_
  refine C.reg ?_
  refine J.q rfl rfl rfl (V.mv rfl) ?_
  refine J.q rfl rfl rfl (V.ptrEq rfl Tryz.underlying54) ?_
  refine J.q rfl rfl rfl (V.to (V.mv rfl) (show _ = Value.bool false from rfl)) ?_
  refine J.dn rfl rfl rfl rfl rfl rfl (V.fa rfl fo65_1) ?_
  refine J.dn rfl rfl rfl rfl rfl rfl (V.ldS (i := 1) 4 rfl rfl sc3 rfl rfl rfl) ?_
  refine J.dn rfl rfl rfl rfl rfl rfl (V.lss rfl rfl) ?_
  refine J.q rfl rfl rfl (V.pk rfl rfl rfl) ?_
  refine J.mvB rfl rfl fun gb18 hgb18 => ?_
  refine J.gv rfl rfl rfl rfl rfl rfl (fun hg => by subst hg; exact V.fa rfl fo65_1) ?_
  refine J.gv rfl rfl rfl rfl rfl rfl (fun hg => by subst hg; exact V.ldS (i := 1) 4 rfl rfl sc3 rfl rfl rfl) ?_
  refine J.gv rfl rfl rfl rfl rfl rfl (fun hg => by subst hg; exact V.gtr rfl rfl) ?_
  refine J.q rfl rfl rfl (V.or rfl rfl rfl) ?_
  refine J.mvB rfl rfl fun gb23 hgb23 => ?_
  refine J.gv rfl rfl rfl rfl rfl rfl (fun hg => by subst hg; exact V.fa rfl fo61_0) ?_
  refine J.gv rfl rfl rfl rfl rfl rfl (fun hg => by subst hg; exact V.fa rfl fo59_1) ?_
  refine J.gv rfl rfl rfl rfl rfl rfl (fun hg => by subst hg; exact V.ldS (i := 1) 5 rfl rfl sc3 rfl rfl rfl) ?_
  refine J.gv rfl rfl rfl rfl rfl rfl (fun hg => by subst hg; exact V.lss rfl rfl) ?_
  refine J.q rfl rfl rfl (V.or rfl rfl rfl) ?_
  refine J.nil ?_
  refine Po.then ?_
  refine C.ite rfl (fun h28 => ?_) (fun h28 => ?_)
  · subst hgb18 hgb23
    try simp only [Bool.and_eq_true, Bool.or_eq_true, Bool.and_eq_false_iff, Bool.or_eq_false_iff, Bool.not_eq_true', Bool.not_eq_false', decide_eq_true_eq, decide_eq_false_iff_not] at h28
    have hno : ¬ addOk u p c := fun h => by have := h.1; have := h.2.1; omega
    have hA : addU u p c = u := if_neg hno
    rw [decide_eq_false hno, hA]
    refine C.seq ?_
    refine C.reg ?_
    refine J.q rfl rfl rfl (V.as rfl) ?_
    refine J.nil ?_
    refine Po.then ?_
    refine C.ret ?_
    refine Po.thenR ?_
    exact Po.end1 rfl rfl rfl fun W hI => ⟨_, _, rfl, ⟨rfl, rfl⟩, (hI.sub (MSub.pull rfl <| MSub.drop <| MSub.drop <| MSub.refl))⟩
  · subst hgb18 hgb23
    try simp only [Bool.and_eq_true, Bool.or_eq_true, Bool.and_eq_false_iff, Bool.or_eq_false_iff, Bool.not_eq_true', Bool.not_eq_false', decide_eq_true_eq, decide_eq_false_iff_not] at h28
    simp at h28
    have hu0 := hI.lo
    have hu1 := hI.hi
    have hma := madd_ok (b := c.out.amount) hu0 hu1 (by omega)
    refine C.skip ?_
    refine Po.then ?_
    refine C.seq ?_
    refine C.opnUt (l := 140) rfl fun rU aU cU => ?_
    refine C.draw [9, 10] [0, 1, 2, 3, 4, 5, 6, 7, 8, 11] [(201, St b [(1, .map (some rU)), (1, .slice aU (rws StepD.lv u.steps).length cU), (1, iv u.total)] 131), (202, Mp rU pointV coinV u.coins), (4, St b4 p.lv 65)] mixed (by kernel_rfl) (by kernel_rfl) ?_
    refine DE.q rfl rfl rfl rfl (V.mv rfl) ?_
    refine DE.q rfl rfl rfl rfl (V.nc rfl) ?_
    refine DE.q rfl rfl rfl rfl (V.fa rfl fo131_0) ?_
    refine DE.q rfl rfl rfl rfl (V.ldS (i := 0) 201 rfl rfl sc128 rfl rfl rfl) ?_
    refine DE.q rfl rfl rfl rfl (V.ldW 4 rfl rfl ag65 rfl) ?_
    refine DE.q rfl rfl rfl rfl (V.lkp2 (lab := 202) (ek := pointV) (ev := coinV) (k := p) (d := CoinD.zero) rfl rfl rfl Tryz.underlying128 ky65 zcoin) ?_
    refine DE.q rfl rfl rfl rfl (V.mv rfl) ?_
    refine DE.q rfl rfl rfl rfl (V.ex rfl rfl) ?_
    refine DE.q rfl rfl rfl rfl (V.ex rfl rfl) ?_
    refine DE.q rfl rfl rfl rfl (V.as rfl) ?_
    refine DE.nil ?_
    refine DT.o (by kernel_rfl) (MSub.pull rfl <| MSub.pull rfl <| MSub.pull rfl <| MSub.nil) rfl rfl fun Kc hKc => ?_
    refine JO.alloc (l := 7) rfl zr61 fun b7 => (hKc _ _ _ (Hp.le_refl _) ?_)
    clear hKc Kc
    refine DT.o (by kernel_rfl) (MSub.pull rfl <| MSub.pull rfl <| MSub.pull rfl <| MSub.nil) rfl rfl fun Kc hKc => ?_
    refine JO.stS (l := 7) rfl rfl rfl sz61 rfl rfl (hKc _ _ _ (Hp.le_refl _) ?_)
    clear hKc Kc
    refine DT.nil (MSub.pull rfl <| MSub.pull rfl <| MSub.pull rfl <| MSub.nil) ?_
    refine Po.then ?_
    refine C.seq ?_
    refine C.drawM [] [0, 1, 2, 3, 4, 5, 6, 7, 8, 9, 10, 11, 12] mixed (by kernel_rfl) (by kernel_rfl) ?_
    refine DE.q rfl rfl rfl rfl (V.mv rfl) ?_
    refine DE.q rfl rfl rfl rfl (V.nc rfl) ?_
    refine DE.q rfl rfl rfl rfl (V.fa rfl fo131_2) ?_
    refine DE.q rfl rfl rfl rfl (V.ldS (i := 2) 201 rfl rfl sc3 rfl rfl rfl) ?_
    refine DE.q rfl rfl rfl rfl (V.fa rfl fo61_0) ?_
    refine DE.q rfl rfl rfl rfl (V.fa rfl fo59_1) ?_
    refine DE.q rfl rfl rfl rfl (V.ldS (i := 1) 5 rfl rfl sc3 rfl rfl rfl) ?_
    refine DE.call rfl rfl rfl rfl tx154 rfl (fun N hN => mAdd_pu _ _ _ _ _) ?_
    refine DE.q rfl rfl rfl rfl (V.mv rfl) ?_
    refine DE.q rfl rfl rfl rfl (V.ex rfl rfl) ?_
    refine DE.q rfl rfl rfl rfl (V.ex rfl rfl) ?_
    refine DE.q rfl rfl rfl rfl (V.as rfl) ?_
    refine DE.q rfl rfl rfl rfl (V.as rfl) ?_
    refine DE.nil ?_
    refine DT.nil (MSub.refl) ?_
    refine Po.then ?_
    refine C.seq ?_
    refine C.seq ?_
    refine C.reg ?_
    refine J.q rfl rfl rfl (V.mv rfl) ?_
    refine J.mvB rfl rfl fun gb50 hgb50 => ?_
    refine J.gv rfl rfl rfl rfl rfl rfl (fun hg => by subst hg; exact V.mv rfl) ?_
    refine J.gv rfl rfl rfl rfl rfl rfl (fun hg => by subst hg; exact V.no rfl) ?_
    refine J.q rfl rfl rfl (V.or rfl rfl rfl) ?_
    refine J.nil ?_
    refine Po.then ?_
    refine C.ite rfl (fun h53 => ?_) (fun h53 => ?_)
    · subst hgb50
      try simp only [Bool.and_eq_true, Bool.or_eq_true, Bool.and_eq_false_iff, Bool.or_eq_false_iff, Bool.not_eq_true', Bool.not_eq_false', decide_eq_true_eq, decide_eq_false_iff_not] at h53
      rw [hma] at h53
      have hno : ¬ addOk u p c := fun h => by
        have h3 := h.2.2.1
        have h4 := h.2.2.2
        rw [h3] at h53
        simp at h53
        omega
      have hA : addU u p c = u := if_neg hno
      rw [decide_eq_false hno, hA]
      refine C.seq ?_
      refine C.reg ?_
      refine J.q rfl rfl rfl (V.as rfl) ?_
      refine J.nil ?_
      refine Po.then ?_
      refine C.ret ?_
      refine Po.thenR ?_
      exact Po.end1 rfl rfl rfl fun W hI => ⟨_, _, rfl, ⟨rfl, rfl⟩, (hI.sub (MSub.fold Ut.mk <| MSub.pull rfl <| MSub.pull rfl <| MSub.pull rfl <| MSub.drop <| MSub.drop <| MSub.drop <| MSub.refl))⟩
    · subst hgb50
      try simp only [Bool.and_eq_true, Bool.or_eq_true, Bool.and_eq_false_iff, Bool.or_eq_false_iff, Bool.not_eq_true', Bool.not_eq_false', decide_eq_true_eq, decide_eq_false_iff_not] at h53
      rw [hma] at h53
      have hyes : addOk u p c := by
        simp at h53
        exact ⟨by omega, by omega, by simpa using h53.1, by omega, by omega⟩
      have hA : addU u p c = ⟨setM u.coins p c, u.steps ++ [⟨p, c, true⟩], u.total + c.out.amount⟩ := if_pos hyes
      rw [decide_eq_true hyes, hA]
      have hamt := hyes.2.2.2.2
      refine C.skip ?_
      refine Po.then ?_
      refine C.seq ?_
      refine C.reg ?_
      refine J.q rfl rfl rfl (V.mv rfl) ?_
      refine J.q rfl rfl rfl (V.ldW 4 rfl rfl ag65 rfl) ?_
      refine J.q rfl rfl rfl (V.ldW 5 rfl rfl ag61 rfl) ?_
      refine J.call rfl tx155 rfl (Fn.at2 (l := 201) (k := 202) rfl rfl (utPut_fn _ _ rU cU aU _ _ _ _ _ (by omega))) ?_ 
      rintro _ _ ⟨rfl, rfl⟩
      refine J.nil ?_
      refine Po.then ?_
      refine C.seq ?_
      refine C.draw [8, 9, 12] [0, 1, 2, 3, 4, 5, 6, 7, 10, 11] [(201, St b [(1, .map (some rU)), (1, .slice aU (rws StepD.lv u.steps).length cU), (1, iv (u.total + c.out.amount))] 131), (4, St b4 p.lv 65), (5, St b5 c.lv 61)] mixed (by kernel_rfl) (by kernel_rfl) ?_
      refine DE.q rfl rfl rfl rfl (V.mv rfl) ?_
      refine DE.q rfl rfl rfl rfl (V.mv rfl) ?_
      refine DE.q rfl rfl rfl rfl (V.nc rfl) ?_
      refine DE.q rfl rfl rfl rfl (V.fa rfl fo131_1) ?_
      refine DE.q rfl rfl rfl rfl (V.ldS (i := 1) 201 rfl rfl sc129 rfl rfl rfl) ?_
      refine DE.q rfl rfl rfl rfl (V.ldW 4 rfl rfl ag65 rfl) ?_
      refine DE.q rfl rfl rfl rfl (V.ldW 5 rfl rfl ag61 rfl) ?_
      refine DE.q rfl rfl rfl rfl (V.to (V.bldF rfl zr236 pl236 (Full.ags rfl rfl <| Full.ags rfl rfl <| Full.one rfl <| Full.nil) (by kernel_rfl) Wc.wl.flat_length) (show _ = ag (StepD.lv ⟨p, c, true⟩) by kernel_rfl)) ?_
      refine DE.q rfl rfl rfl rfl (V.nc rfl) ?_
      refine DE.q rfl rfl rfl rfl (V.fa rfl fo131_1) ?_
      refine DE.nil ?_
      refine DT.o (by kernel_rfl) (MSub.pull rfl <| MSub.pull rfl <| MSub.pull rfl <| MSub.nil) rfl rfl fun Kc hKc => ?_
      refine JO.bslS (l := 66) rfl el129 rfl rfl rfl (cs1 (step_cz p c true)) (by decide) fun a66 c66 => (hKc _ _ _ (Hp.le_refl _) ?_)
      clear hKc Kc
      refine DT.o (by kernel_rfl) (MSub.pull rfl <| MSub.pull rfl <| MSub.pull rfl <| MSub.nil) rfl rfl fun Kc hKc => ?_
      refine JO.appOS (l := 203) (l2 := 66) rfl rfl rfl el129 rfl rfl (by rw [rws_length]; simp; omega) (by rw [rws_length]; simp [maxLen]; omega) fun a67 c67 => (hKc _ _ _ (Hp.le_refl _) ?_)
      clear hKc Kc
      refine DT.o (by kernel_rfl) (MSub.pull rfl <| MSub.pull rfl <| MSub.pull rfl <| MSub.nil) rfl rfl fun Kc hKc => ?_
      refine JO.st (i := 1) (l := 201) rfl rfl rfl sz129 rfl rfl (hKc _ _ _ (Hp.le_refl _) ?_)
      clear hKc Kc
      refine DT.nil' (by kernel_rfl) ?_
      refine Po.then ?_
      refine C.seq ?_
      refine C.reg ?_
      refine J.q rfl rfl rfl (V.as rfl) ?_
      refine J.nil ?_
      refine Po.then ?_
      refine C.ret ?_
      exact Po.end1 rfl rfl rfl fun W hI => ⟨_, _, rfl, ⟨rfl, rfl⟩, (hI.sub (MSub.fold Ut.mk <| MSub.pull rfl <| MSub.pull rfl <| MSub.pullE rfl (by exact congrArg _ (rws_app StepD.lv u.steps [⟨p, c, true⟩])) <| MSub.drop <| MSub.drop <| MSub.drop <| MSub.drop <| MSub.refl))⟩

theorem utTotal_fn (b : Nat) (u : UD) (w0 : World) (ro : Hp) (M : Res) : Sx.Fn Tryz.prog 23 #[.pointer (some ⟨b, 0, none⟩)] w0 ro ((140, Ut 131 236 b (u)) :: M) (fun x M1 => x = iv u.total ∧ M1 = (140, Ut 131 236 b (u)) :: M) := by
  refine Sx.Fn.enter Tryz.func23 rfl rfl ?_
  refine C.seq ?_
  refine C.reg ?_
  refine J.q rfl rfl rfl (V.as rfl) ?_
  refine J.nil ?_
  refine Po.then ?_
  refine C.seq ?_
  refine C.seq ?_
  refine C.reg ?_
  refine J.q rfl rfl rfl (V.mv rfl) ?_
  refine J.q rfl rfl rfl (V.ptrEq rfl Tryz.underlying54) ?_
  refine J.nil ?_
  refine Po.then ?_
  refine C.no rfl ?_
  refine C.skip ?_
  refine Po.then ?_
  refine C.seq ?_
  refine C.opnUt (l := 140) rfl fun rU aU cU => ?_
  refine C.reg ?_
  refine J.q rfl rfl rfl (V.mv rfl) ?_
  refine J.q rfl rfl rfl (V.nc rfl) ?_
  refine J.q rfl rfl rfl (V.fa rfl fo131_2) ?_
  refine J.q rfl rfl rfl (V.ldS (i := 2) 201 rfl rfl sc3 rfl rfl rfl) ?_
  refine J.q rfl rfl rfl (V.as rfl) ?_
  refine J.nil ?_
  refine Po.then ?_
  refine C.ret ?_
  exact Po.end1 rfl rfl rfl fun W hI => ⟨_, _, rfl, ⟨rfl, rfl⟩, (hI.sub (MSub.fold Ut.mk <| MSub.pull rfl <| MSub.pull rfl <| MSub.pull rfl <| MSub.refl))⟩

theorem utLen_fn (b : Nat) (u : UD) (w0 : World) (ro : Hp) (M : Res) : Sx.Fn Tryz.prog 25 #[.pointer (some ⟨b, 0, none⟩)] w0 ro ((140, Ut 131 236 b (u)) :: M) (fun x M1 => x = iv u.coins.length ∧ M1 = (140, Ut 131 236 b (u)) :: M) := by
  refine Sx.Fn.enter Tryz.func25 rfl rfl ?_
  refine C.seq ?_
  refine C.reg ?_
  refine J.q rfl rfl rfl (V.as rfl) ?_
  refine J.nil ?_
  refine Po.then ?_
  refine C.seq ?_
  refine C.seq ?_
  refine C.reg ?_
  refine J.q rfl rfl rfl (V.mv rfl) ?_
  refine J.q rfl rfl rfl (V.ptrEq rfl Tryz.underlying54) ?_
  refine J.nil ?_
  refine Po.then ?_
  refine C.no rfl ?_
  refine C.skip ?_
  refine Po.then ?_
  refine C.seq ?_
  refine C.opnUt (l := 140) rfl fun rU aU cU => ?_
  refine C.reg ?_
  refine J.q rfl rfl rfl (V.mv rfl) ?_
  refine J.q rfl rfl rfl (V.nc rfl) ?_
  refine J.q rfl rfl rfl (V.fa rfl fo131_0) ?_
  refine J.q rfl rfl rfl (V.ldS (i := 0) 201 rfl rfl sc128 rfl rfl rfl) ?_
  refine J.q rfl rfl rfl (V.lenM (lab := 202) rfl rfl Tryz.underlying128) ?_
  refine J.q rfl rfl rfl (V.as rfl) ?_
  refine J.nil ?_
  refine Po.then ?_
  refine C.ret ?_
  exact Po.end1 rfl rfl rfl fun W hI => ⟨_, _, rfl, ⟨rfl, rfl⟩, (hI.sub (MSub.fold Ut.mk <| MSub.pull rfl <| MSub.pull rfl <| MSub.pull rfl <| MSub.refl))⟩

theorem chOuts_fn (b : Nat) (u : UD) (tx : Hash) (l : List OutD) (v : Value) (h : Int) (ba : Bool) (w0 : World) (ro : Hp) (M : Res) (hI : UI u) (hs : u.steps.length + l.length ≤ 1000000) (hR : RS ro v 9 (rws OutD.lv l)) : Sx.Fn Tryz.prog 52 #[.pointer (some ⟨b, 0, none⟩), hv tx, v, iv h, .bool ba] w0 ro ((140, Ut 131 236 b (u)) :: M) (fun x M1 => x = iv (outsTo tx h ba u 0 l).1 ∧ M1 = (140, Ut 131 236 b ((outsTo tx h ba u 0 l).2)) :: M) := by
  obtain ⟨aV, cV, rfl, _⟩ := hR.shape
  refine Sx.Fn.enter Tryz.func52 rfl rfl ?_
  refine C.seq ?_
  refine C.reg ?_
  refine J.one rfl (JO.box1 (l := 6) rfl rfl fun b6 => ?_)
  refine J.q rfl rfl rfl (V.as rfl) ?_
  refine J.nil ?_
  refine Po.then ?_
  refine C.seq ?_
  refine C.seq ?_
  refine C.reg ?_
  refine J.q rfl rfl rfl (V.mv rfl) ?_
  refine J.q rfl rfl rfl (V.ptrEq rfl Tryz.underlying54) ?_
  refine J.nil ?_
  refine Po.then ?_
  refine C.no rfl ?_
  refine C.skip ?_
  refine Po.then ?_
  refine C.seq ?_
  refine C.seq ?_
  refine C.reg ?_
  refine J.q rfl rfl rfl (V.mv rfl) ?_
  refine J.q rfl rfl rfl (V.to (V.lenR rfl hR Tryz.underlying36) (by rw [rws_length])) ?_
  refine J.q rfl rfl rfl (V.mv rfl) ?_
  refine J.nil ?_
  refine Po.then ?_
  refine C.block ?_
  refine C.loopP (fun (x : Nat × UD) => x.1 ≤ l.length ∧ outsTo tx h ba u 0 l = outsTo tx h ba x.2 x.1 (l.drop x.1) ∧ UI x.2 ∧ x.2.steps.length ≤ u.steps.length + x.1) (fun (x : Nat × UD) => [(20, .int .i64 (x.1 : Int)), (19, .int .i64 (l.length : Int)), (18, .slice aV (rws OutD.lv l).length cV), (0, .pointer (some ⟨b, 0, none⟩)), (3, iv h), (4, .bool ba), (6, .pointer (some ⟨b6, 0, none⟩))]) (fun (x : Nat × UD) => (140, Ut 131 236 b x.2) :: (6, St b6 [(8, hv tx)] 29) :: M) (fun (x : Nat × UD) => l.length - x.1) (0, u) ⟨by omega, rfl, hI, Nat.le_refl _⟩ (Sub.cons rfl <| Sub.cons rfl <| Sub.cons rfl <| Sub.cons rfl <| Sub.cons rfl <| Sub.cons rfl <| Sub.cons rfl <| Sub.nil) (MSub.pull rfl <| MSub.pull rfl <| MSub.refl) fun x hok => ?_
  obtain ⟨k, u1⟩ := x
  obtain ⟨hk0, he, hI1, hst⟩ := hok
  dsimp only at hk0 he hI1 hst ⊢
  refine C.seq ?_
  refine C.reg ?_
  refine J.q rfl rfl rfl (V.lss rfl rfl) ?_
  refine J.nil ?_
  refine Po.then ?_
  refine C.seq ?_
  refine C.ite rfl (fun h21 => ?_) (fun h21 => ?_)
  · have hk : k < l.length := by simp at h21; omega
    obtain ⟨o, ho⟩ : ∃ o, l[k]? = some o := ⟨_, List.getElem?_eq_getElem hk⟩
    have hat := outsTo_at (tx := tx) (h := h) (b := ba) (u := u1) ho
    refine C.skip ?_
    refine Po.then ?_
    refine C.seq ?_
    refine C.block ?_
    refine C.seq ?_
    refine C.reg ?_
    refine J.q rfl rfl rfl (V.mv rfl) ?_
    refine J.q rfl rfl rfl (V.iaR rfl hR rfl sl36 (by rw [rws_length]; omega)) ?_
    refine J.q rfl rfl rfl (V.to (V.ldR rfl hR (rws_get ho) ag59) (show _ = ag o.lv from rfl)) ?_
    refine J.one rfl (JO.alloc (l := 12) rfl zr59 fun b12 => ?_)
    refine J.q rfl rfl rfl (V.as rfl) ?_
    refine J.one rfl (JO.stS (l := 12) rfl rfl rfl sz59 rfl rfl ?_)
    refine J.nil ?_
    refine Po.then ?_
    refine C.seq ?_
    refine C.reg ?_
    refine J.q rfl rfl rfl (V.ldA (i := 0) 6 rfl rfl ag29 rfl rfl) ?_
    refine J.q rfl rfl rfl (V.mv rfl) ?_
    refine J.q rfl rfl rfl (V.to (V.bldF rfl zr65 pl65 (Full.one rfl <| Full.one rfl <| Full.nil) (by kernel_rfl) Wc.wl.flat_length) (show _ = ag (PointD.lv ⟨tx, (k : Int)⟩) by kernel_rfl)) ?_
    refine J.one rfl (JO.alloc (l := 13) rfl zr65 fun b13 => ?_)
    refine J.one rfl (JO.stS (l := 13) rfl rfl rfl sz65 rfl rfl ?_)
    refine J.nil ?_
    refine Po.then ?_
    refine C.seq ?_
    refine C.seq ?_
    refine C.reg ?_
    refine J.q rfl rfl rfl (V.mv rfl) ?_
    refine J.q rfl rfl rfl (V.ldW 13 rfl rfl ag65 rfl) ?_
    refine J.call rfl tx21 rfl (Fn.at (l := 140) rfl (utGet_fn _ _ ⟨tx, (k : Int)⟩ _ _ _)) ?_ 
    rintro _ _ ⟨rfl, rfl⟩
    refine J.q rfl rfl rfl (V.mv rfl) ?_
    refine J.q rfl rfl rfl (V.ex rfl rfl) ?_
    refine J.q rfl rfl rfl (V.ex rfl rfl) ?_
    refine J.one rfl (JO.alloc (l := 14) rfl zr61 fun b14 => ?_)
    refine J.one rfl (JO.stS (l := 14) rfl rfl rfl sz61 rfl rfl ?_)
    refine J.q rfl rfl rfl (V.as rfl) ?_
    refine J.nil ?_
    refine Po.then ?_
    refine C.seq ?_
    refine C.reg ?_
    refine J.q rfl rfl rfl (V.mv rfl) ?_
    refine J.nil ?_
    refine Po.then ?_
    refine C.ite rfl (fun h34 => ?_) (fun h34 => ?_)
    · rw [he, hat, if_pos h34]
      refine C.seq ?_
      refine C.reg ?_
      refine J.q rfl rfl rfl (V.as rfl) ?_
      refine J.nil ?_
      refine Po.then ?_
      refine C.ret ?_
      refine Po.thenR ?_
      refine Po.blkR ?_
      refine Po.thenR ?_
      refine Po.thenR ?_
      refine Po.blkR ?_
      refine Po.thenR ?_
      exact Po.end1 rfl rfl rfl fun W hI => ⟨_, _, rfl, ⟨rfl, rfl⟩, (hI.sub (MSub.pull rfl <| MSub.drop <| MSub.drop <| MSub.drop <| MSub.drop <| MSub.refl))⟩
    · refine C.skip ?_
      refine Po.then ?_
      refine C.seq ?_
      refine C.reg ?_
      refine J.q rfl rfl rfl (V.mv rfl) ?_
      refine J.q rfl rfl rfl (V.ldW 13 rfl rfl ag65 rfl) ?_
      refine J.q rfl rfl rfl (V.ldW 12 rfl rfl ag59 rfl) ?_
      refine J.q rfl rfl rfl (V.mv rfl) ?_
      refine J.q rfl rfl rfl (V.mv rfl) ?_
      refine J.q rfl rfl rfl (V.to (V.bldF rfl zr61 pl61 (Full.ags rfl rfl <| Full.one rfl <| Full.one rfl <| Full.nil) (by kernel_rfl) Wc.wl.flat_length) (show _ = ag (CoinD.lv ⟨o, h, ba⟩) by kernel_rfl)) ?_
      refine J.call rfl tx99 rfl (Fn.at (l := 140) rfl (utAdd_fn _ _ ⟨tx, (k : Int)⟩ ⟨o, h, ba⟩ _ _ _ hI1 (by omega))) ?_ 
      rintro _ _ ⟨rfl, rfl⟩
      refine J.q rfl rfl rfl (V.noD rfl) ?_
      refine J.nil ?_
      refine Po.then ?_
      refine C.ifd rfl (fun h42 => ?_) (fun h42 => ?_)
      · rw [he, hat, if_neg (by rw [h34]; simp), if_neg h42]
        refine C.seq ?_
        refine C.reg ?_
        refine J.q rfl rfl rfl (V.as rfl) ?_
        refine J.nil ?_
        refine Po.then ?_
        refine C.ret ?_
        refine Po.blkR ?_
        refine Po.thenR ?_
        refine Po.thenR ?_
        refine Po.blkR ?_
        refine Po.thenR ?_
        exact Po.end1 rfl rfl rfl fun W hI => ⟨_, _, rfl, ⟨rfl, rfl⟩, (hI.sub (MSub.pullE rfl (by rw [show addU u1 ⟨tx, (k : Int)⟩ ⟨o, h, ba⟩ = u1 from if_neg h42]) <| MSub.drop <| MSub.drop <| MSub.drop <| MSub.drop <| MSub.refl))⟩
      · have h42 := Decidable.not_not.1 h42
        have hA : addU u1 ⟨tx, (k : Int)⟩ ⟨o, h, ba⟩ = addU u1 ⟨tx, (k : Int)⟩ ⟨o, h, ba⟩ := rfl
        refine C.skip ?_
        refine Po.blkN ?_
        refine Po.then ?_
        refine C.reg ?_
        refine J.q rfl rfl rfl (V.add rfl rfl (by omega)) ?_
        refine J.q rfl rfl rfl (V.mv rfl) ?_
        refine J.nil ?_
        exact Po.roundP (k + 1, addU u1 ⟨tx, (k : Int)⟩ ⟨o, h, ba⟩) ⟨by omega, by rw [he, hat, if_neg (by rw [h34]; simp), if_pos h42], hI1.add _ _, by have := addU_steps u1 ⟨tx, (k : Int)⟩ ⟨o, h, ba⟩; show (addU u1 ⟨tx, (k : Int)⟩ ⟨o, h, ba⟩).steps.length ≤ u.steps.length + (k + 1); omega⟩ (Sub.cons rfl <| Sub.cons rfl <| Sub.cons rfl <| Sub.cons rfl <| Sub.cons rfl <| Sub.cons rfl <| Sub.cons rfl <| Sub.nil) (MSub.pull rfl <| MSub.pull rfl <| MSub.drop <| MSub.drop <| MSub.drop <| MSub.refl) (by first | omega | (dsimp only; omega))
  · obtain rfl : k = l.length := by simp at h21; omega
    rw [List.drop_length, outsTo] at he
    rw [he]
    refine C.exit ?_
    refine Po.thenX ?_
    refine Po.thenX ?_
    refine Po.blkX ?_
    refine Po.then ?_
    refine C.seq ?_
    refine C.reg ?_
    refine J.q rfl rfl rfl (V.as rfl) ?_
    refine J.nil ?_
    refine Po.then ?_
    refine C.ret ?_
    exact Po.end1 rfl rfl rfl fun W hI => ⟨_, _, rfl, ⟨rfl, rfl⟩, (hI.sub (MSub.pull rfl <| MSub.drop <| MSub.refl))⟩

theorem utTotal_pu (b : Nat) (u : UD) (w0 : World) (ro : Hp) (M : Res) : Pu Tryz.prog 23 #[.pointer (some ⟨b, 0, none⟩)] w0 ro ((140, Ut 131 236 b (u)) :: M) (iv u.total) := fun W hW => (utTotal_fn b u w0 ro M W hW).mono fun _ _ ⟨_, _, h1, ⟨h2, h3⟩, h4⟩ => ⟨h2 ▸ h1, h3 ▸ h4⟩

theorem utLen_pu (b : Nat) (u : UD) (w0 : World) (ro : Hp) (M : Res) : Pu Tryz.prog 25 #[.pointer (some ⟨b, 0, none⟩)] w0 ro ((140, Ut 131 236 b (u)) :: M) (iv u.coins.length) := fun W hW => (utLen_fn b u w0 ro M W hW).mono fun _ _ ⟨_, _, h1, ⟨h2, h3⟩, h4⟩ => ⟨h2 ▸ h1, h3 ▸ h4⟩
end Go.Proofs
