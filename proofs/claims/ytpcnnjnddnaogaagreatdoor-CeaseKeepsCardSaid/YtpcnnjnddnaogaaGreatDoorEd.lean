import Derived.Test.YtpcnnjnddnaogaaGreatDoorEc
import Derived.Test.YtpcnnjnddnaogaaGreatDoorEb
import Derived.Shelf.Spec.SlicesInsert
import Derived.Shelf.Spec.SlicesInsertGrow
import Derived.Shelf.Slices.SearchI
import Derived.Shelf.Slices.Empties
set_option linter.unusedVariables false
set_option linter.unusedSimpArgs false
set_option linter.unusedSectionVars false
set_option linter.unnecessarySimpa false
set_option exponentiation.threshold 1000
namespace Go.Db
open Go Go.Sx
abbrev Rows := List (List Value)
/-- hashes in an array -/
def hvs {n : Nat} (v : Vector Hash n) : Value := ag (uni hv 8 v.toList)
theorem hvs_cz {n : Nat} (v : Vector Hash n) : (hvs v).cells.size = n * 8 ∧ Ones (hvs v).cells.toList := by
  have := agw (vs := uni hv 8 v.toList)
  rw [lsz_uni, Vector.length_toList] at this
  exact this
instance {v : Vector Hash 16} : Cz (hvs v) 128 := ⟨(hvs_cz v).1, (hvs_cz v).2⟩
instance {v : Vector Hash 3} : Cz (hvs v) 24 := ⟨(hvs_cz v).1, (hvs_cz v).2⟩
def z16 : Vector Hash 16 := Vector.replicate 16 h0
def z3 : Vector Hash 3 := Vector.replicate 3 h0
structure SigD where
  index : Int
  opn : Vector Hash 16
  shut : Vector Hash 16
  path : Vector Hash 3
deriving DecidableEq
abbrev SigD.lv (s : SigD) : Lv := [(1, iv s.index), (128, hvs s.opn), (128, hvs s.shut), (24, hvs s.path)]
def SigD.zero : SigD := ⟨0, z16, z16, z3⟩
structure OutD where
  to_ : Hash
  amount : Int
deriving DecidableEq
abbrev OutD.lv (o : OutD) : Lv := [(8, hv o.to_), (1, iv o.amount)]
structure PointD where
  tx : Hash
  at_ : Int
deriving DecidableEq
abbrev PointD.lv (p : PointD) : Lv := [(8, hv p.tx), (1, iv p.at_)]
structure InD where
  frm : PointD
  key : Hash
  sig : SigD
deriving DecidableEq
abbrev InD.lv (x : InD) : Lv := [(8, hv x.frm.tx), (1, iv x.frm.at_), (8, hv x.key), (1, iv x.sig.index), (128, hvs x.sig.opn), (128, hvs x.sig.shut), (24, hvs x.sig.path)]
structure FwdD where
  side : Int
  account : Int
  owner : Hash
  amount : Int
deriving DecidableEq
abbrev FwdD.lv (f : FwdD) : Lv := [(1, iv f.side), (1, iv f.account), (8, hv f.owner), (1, iv f.amount)]
structure SignedD where
  key : Int
  sig : SigD
deriving DecidableEq
abbrev SignedD.lv (s : SignedD) : Lv := [(1, iv s.key), (1, iv s.sig.index), (128, hvs s.sig.opn), (128, hvs s.sig.shut), (24, hvs s.sig.path)]
structure CertD where
  side : Int
  epoch : Int
  quality : Int
  fin : Hash
  root : Hash
  outs : List OutD
  sigs : List SignedD
deriving DecidableEq
abbrev CertD.lv (c : CertD) (vo vs : Value) : Lv := [(1, iv c.side), (1, iv c.epoch), (1, iv c.quality), (8, hv c.fin), (8, hv c.root), (1, vo), (1, vs)]
def CertD.zero : CertD := ⟨0, 0, 0, h0, h0, [], []⟩
structure ClaimD where
  side : Int
  account : Int
  state : Acct
  proof : Vector Hash 16
deriving DecidableEq
abbrev ClaimD.lv (c : ClaimD) : Lv := [(1, iv c.side), (1, iv c.account), (8, hv c.state.owner), (1, iv c.state.amount), (1, iv c.state.nonce), (128, hvs c.proof)]
def ClaimD.zero : ClaimD := ⟨0, 0, ⟨h0, 0, 0⟩, z16⟩
def Par.zero : Par := ⟨0, 0, 0, []⟩
structure TxD where
  kind : Int
  height : Int
  ins : List InD
  outs : List OutD
  fwds : List FwdD
  par : Par
  cert : CertD
  claim : ClaimD
deriving DecidableEq
/-- the headers of a transaction's lists -/
structure TxV where
  i : Value
  o : Value
  f : Value
  k : Value
  co : Value
  cs : Value
abbrev TxD.lv (t : TxD) (v : TxV) : Lv := [(1, iv t.kind), (1, iv t.height), (1, v.i), (1, v.o), (1, v.f), (1, iv t.par.length), (1, iv t.par.window), (1, iv t.par.need), (1, v.k),
  (1, iv t.cert.side), (1, iv t.cert.epoch), (1, iv t.cert.quality), (8, hv t.cert.fin), (8, hv t.cert.root), (1, v.co), (1, v.cs),
  (1, iv t.claim.side), (1, iv t.claim.account), (8, hv t.claim.state.owner), (1, iv t.claim.state.amount), (1, iv t.claim.state.nonce), (128, hvs t.claim.proof)]
def TxD.zero : TxD := ⟨0, 0, [], [], [], Par.zero, CertD.zero, ClaimD.zero⟩
/-- rows of leaves -/
def rws {α : Type} (f : α → Lv) (l : List α) : Rows := l.map fun x => flat (f x)
theorem rws_length {α : Type} (f : α → Lv) (l : List α) : (rws f l).length = l.length := by simp [rws]
theorem rws_get {α : Type} {f : α → Lv} {l : List α} {k : Nat} {x : α} (h : l[k]? = some x) : (rws f l)[((k : Int)).toNat]? = some (flat (f x)) := by simp [rws, h]
theorem rws_getN {α : Type} {f : α → Lv} {l : List α} {k : Nat} {x : α} (h : l[k]? = some x) : (rws f l)[k]? = some (flat (f x)) := by simp [rws, h]
theorem rws_take {α : Type} (f : α → Lv) (l : List α) (k : Nat) : ((rws f l).drop 0).take (k - 0) = rws f (l.take k) := by simp [rws, List.map_take]
theorem rws_app {α : Type} (f : α → Lv) (l r : List α) : rws f l ++ rws f r = rws f (l ++ r) := by simp [rws]
theorem rws_set {α : Type} {f : α → Lv} {l : List α} {k : Nat} {x : α} : (rws f l).set k (flat (f x)) = rws f (l.set k x) := by simp [rws, List.map_set]
theorem ow_snoc {α : Type} (v : Value) (e sz : Nat) (f : α → Lv) (l : List α) (x : α) : Ow v e sz (rws f l ++ [flat (f x)]) = Ow v e sz (rws f (l ++ [x])) := by rw [← rws_app]; rfl
def intR (l : List Int) : Rows := l.map fun x => [iv x]
theorem intR_length (l : List Int) : (intR l).length = l.length := by simp [intR]
theorem intR_get {l : List Int} {k : Nat} {x : Int} (h : l[k]? = some x) : (intR l)[((k : Int)).toNat]? = some [iv x] := by simp [intR, h]
/-- the lists of a certificate, of a transaction, in memory that is only read -/
structure CertRS (ro : Hp) (c : CertD) (vo vs : Value) : Prop where
  o : RS ro vo 9 (rws OutD.lv c.outs)
  s : RS ro vs 282 (rws SignedD.lv c.sigs)
structure TxRS (ro : Hp) (t : TxD) (v : TxV) : Prop where
  i : RS ro v.i 298 (rws InD.lv t.ins)
  o : RS ro v.o 9 (rws OutD.lv t.outs)
  f : RS ro v.f 11 (rws FwdD.lv t.fwds)
  k : RS ro v.k 8 (hkR t.par.keys)
  co : RS ro v.co 9 (rws OutD.lv t.cert.outs)
  cs : RS ro v.cs 282 (rws SignedD.lv t.cert.sigs)
theorem CertRS.mono {ro ro' : Hp} {c : CertD} {vo vs : Value} (h : CertRS ro c vo vs) (l : Hp.le ro ro') : CertRS ro' c vo vs := ⟨h.o.mono l, h.s.mono l⟩
theorem TxRS.mono {ro ro' : Hp} {t : TxD} {v : TxV} (h : TxRS ro t v) (l : Hp.le ro ro') : TxRS ro' t v := ⟨h.i.mono l, h.o.mono l, h.f.mono l, h.k.mono l, h.co.mono l, h.cs.mono l⟩
theorem TxRS.cert {ro : Hp} {t : TxD} {v : TxV} (h : TxRS ro t v) : CertRS ro t.cert v.co v.cs := ⟨h.co, h.cs⟩
/-- lists that are not too long -/
structure TxSm (t : TxD) : Prop where
  i : t.ins.length ≤ 1000000
  o : t.outs.length ≤ 1000000
  f : t.fwds.length ≤ 1000000
  k : t.par.keys.length ≤ 1000000
  co : t.cert.outs.length ≤ 1000000
  cs : t.cert.sigs.length ≤ 1000000
end Go.Db
namespace Go.Db
open Go Go.Sx
theorem cz_ag {vs : Lv} {s : Nat} [w : Wc vs] (h : lsz vs = s) : Cz (ag vs) s := ⟨agw.1.trans h, agw.2⟩
instance {p : Par} {v : Value} [Cz v 1] : Cz (ag (p.lv v)) 4 := cz_ag (by kernel_rfl)
instance {o : OutD} : Cz (ag o.lv) 9 := cz_ag (by kernel_rfl)
instance {p : PointD} : Cz (ag p.lv) 9 := cz_ag (by kernel_rfl)
instance {x : InD} : Cz (ag x.lv) 298 := cz_ag (by kernel_rfl)
instance {f : FwdD} : Cz (ag f.lv) 11 := cz_ag (by kernel_rfl)
instance {s : SignedD} : Cz (ag s.lv) 282 := cz_ag (by kernel_rfl)
instance {s : SigD} : Cz (ag s.lv) 281 := cz_ag (by kernel_rfl)
instance {c : CertD} {vo vs : Value} [Cz vo 1] [Cz vs 1] : Cz (ag (c.lv vo vs)) 21 := cz_ag (by kernel_rfl)
instance {c : ClaimD} : Cz (ag c.lv) 140 := cz_ag (by kernel_rfl)
end Go.Db
namespace Go.Db
open Go Go.Sx
structure SideR where
  par : Par
  made : Int
  balance : Int
  forwarded : Int
  matured : Int
  claimed : Int
  ceased : Bool
  at_ : Int
  root : Hash
  pending : Bool
  cert : CertD
  used : List Int
deriving DecidableEq
abbrev SideR.lv (s : SideR) (vk vo vs vu : Value) : Lv := [(1, iv s.par.length), (1, iv s.par.window), (1, iv s.par.need), (1, vk), (1, iv s.made), (1, iv s.balance), (1, iv s.forwarded), (1, iv s.matured), (1, iv s.claimed),
  (1, .bool s.ceased), (1, iv s.at_), (8, hv s.root), (1, .bool s.pending), (1, iv s.cert.side), (1, iv s.cert.epoch), (1, iv s.cert.quality), (8, hv s.cert.fin), (8, hv s.cert.root), (1, vo), (1, vs), (1, vu)]
instance {s : SideR} {vk vo vs vu : Value} [Cz vk 1] [Cz vo 1] [Cz vs 1] [Cz vu 1] : Cz (ag (s.lv vk vo vs vu)) 42 := cz_ag (by kernel_rfl)
def SideR.zero : SideR := ⟨Par.zero, 0, 0, 0, 0, 0, false, 0, h0, false, CertD.zero, []⟩
/-- the lists of a record, in memory that is only read -/
structure SideRS (ro : Hp) (s : SideR) (vk vo vs vu : Value) : Prop where
  k : RS ro vk 8 (hkR s.par.keys)
  o : RS ro vo 9 (rws OutD.lv s.cert.outs)
  g : RS ro vs 282 (rws SignedD.lv s.cert.sigs)
  u : RS ro vu 1 (intR s.used)
/-- lists that are not too long -/
structure SideSm (s : SideR) : Prop where
  b : 0 ≤ s.balance
  m : 0 ≤ s.matured
  c : 0 ≤ s.claimed
  f : s.forwarded = s.balance + s.matured + s.claimed
  le : s.forwarded ≤ 1125899906842624
  k : s.par.keys.length ≤ 1000
  o : s.cert.outs.length ≤ 1000
  g : s.cert.sigs.length ≤ 1000
  u : s.used.length ≤ 1000
  srt : s.used.Pairwise (· < ·)
/-- a record with its lists' headers -/
structure RecV where
  s : SideR
  k : Value
  o : Value
  g : Value
  u : Value
abbrev RecV.lv (r : RecV) : Lv := r.s.lv r.k r.o r.g r.u
def recsR (l : List RecV) : Rows := rws RecV.lv l
theorem recsR_length (l : List RecV) : (recsR l).length = l.length := rws_length _ _
theorem recsR_get {l : List RecV} {k : Nat} {r : RecV} (h : l[k]? = some r) : (recsR l)[((k : Int)).toNat]? = some (flat r.lv) := rws_get h
structure RecI (ro : Hp) (r : RecV) : Prop where
  rs : SideRS ro r.s r.k r.o r.g r.u
  sm : SideSm r.s
def RegI (ro : Hp) (l : List RecV) : Prop := ∀ r ∈ l, RecI ro r
theorem SideRS.mono {ro ro' : Hp} {s : SideR} {vk vo vs vu : Value} (h : SideRS ro s vk vo vs vu) (l : Hp.le ro ro') : SideRS ro' s vk vo vs vu := ⟨h.k.mono l, h.o.mono l, h.g.mono l, h.u.mono l⟩
theorem RecI.mono {ro ro' : Hp} {r : RecV} (h : RecI ro r) (l : Hp.le ro ro') : RecI ro' r := ⟨h.rs.mono l, h.sm⟩
theorem RegI.mono {ro ro' : Hp} {l : List RecV} (h : RegI ro l) (k : Hp.le ro ro') : RegI ro' l := fun r hr => (h r hr).mono k
theorem RegI.nil {ro : Hp} : RegI ro [] := fun _ h => by cases h
theorem RegI.at {ro : Hp} {l : List RecV} (h : RegI ro l) {i : Nat} {r : RecV} (hr : l[i]? = some r) : RecI ro r := h r (List.mem_of_getElem? hr)
theorem RegI.set {ro : Hp} {l : List RecV} (h : RegI ro l) {i : Nat} {r : RecV} (hr : RecI ro r) : RegI ro (l.set i r) := fun x hx => by
  rcases List.mem_or_eq_of_mem_set hx with h1 | rfl
  · exact h x h1
  · exact hr
theorem RegI.snoc {ro : Hp} {l : List RecV} (h : RegI ro l) {r : RecV} (hr : RecI ro r) : RegI ro (l ++ [r]) := fun x hx => by
  rcases List.mem_append.1 hx with h1 | h1
  · exact h x h1
  · simp at h1; subst h1; exact hr
/-- a registry: its box, its records -/
def Rg (ST SD b : Nat) (l : List RecV) : HP := fun h => ∃ vl, Sats [(101, St b [(1, vl)] ST), (102, Ow vl SD 42 (recsR l))] h
theorem Rg.opn {ST SD b : Nat} {l : List RecV} (h : Hp) (hA : Rg ST SD b l h) : ∃ vl : Value, Sats [(101, St b [(1, vl)] ST), (102, Ow vl SD 42 (recsR l))] h := hA
theorem Rg.mk {ST SD b : Nat} {l : List RecV} {vl : Value} (h : Hp) (s : Sats [(101, St b [(1, vl)] ST), (102, Ow vl SD 42 (recsR l))] h) : Rg ST SD b l h := ⟨vl, s⟩
theorem Rg.opn' {ST SD b : Nat} {l : List RecV} (h : Hp) (hA : Rg ST SD b l h) : ∃ x : Option Addr × Nat, Sats [(101, St b [(1, .slice x.1 l.length x.2)] ST), (102, Ow (.slice x.1 l.length x.2) SD 42 (recsR l))] h := by
  obtain ⟨vl, s⟩ := hA
  have h3 := s
  obtain ⟨_, h2, _, _, _, _, h4, _, _, _, _, i, _⟩ := h3
  obtain ⟨a, c, hv, _⟩ := (i.rs (Hp.le_refl _)).shape
  rw [recsR_length] at hv
  subst hv
  exact ⟨(a, c), s⟩
section
variable {P : Program} {Q : Exit → Act → World → Prop} {n : Nat} {w0 : World} {ro : Hp} {E : Env} {M R : Res}
theorem C.opnRg {c : Code} {l ST SD b : Nat} {ls : List RecV} (hp : pull M l = some (Rg ST SD b ls, R))
    (k : ∀ a cc, C P Q n w0 ro c E ((101, St b [(1, .slice a ls.length cc)] ST) :: (102, Ow (.slice a ls.length cc) SD 42 (recsR ls)) :: R)) : C P Q n w0 ro c E M := C.opn hp Rg.opn' fun x => k x.1 x.2
theorem Kp.opnRg {K : Act → World → Prop} {l ST SD b : Nat} {ls : List RecV} (hp : pull M l = some (Rg ST SD b ls, R))
    (k : ∀ a cc, Kp n w0 ro K E ((101, St b [(1, .slice a ls.length cc)] ST) :: (102, Ow (.slice a ls.length cc) SD 42 (recsR ls)) :: R)) : Kp n w0 ro K E M := Kp.opn hp Rg.opn' fun x => k x.1 x.2
end
theorem Rg.ro {ST SD b : Nat} {l : List RecV} {k ro : Hp} (h : Rg ST SD b l k) (hl : Hp.le k ro) : ∃ vl, Bx ro b [(1, vl)] ST ∧ RS ro vl 42 (recsR l) := by
  obtain ⟨vl, h1, h2, a, b, _, d, h3, h4, e, _, _, i, _⟩ := h
  exact ⟨vl, Bx.of d (Hp.le_trans a hl), i.rs (Hp.le_trans e (Hp.le_trans b hl))⟩
def maxM : Int := 1125899906842624
def fwdE (l : List SideR) (f : FwdD) : Int :=
  if 0 ≤ f.side ∧ f.side < l.length then
    let x := l.getD f.side.toNat SideR.zero
    if x.ceased then 14 else if f.amount < 1 ∨ maxM < f.amount ∨ maxM - f.amount < x.balance ∨ maxM - f.amount < x.forwarded then 5 else 0
  else 8
def fwdR (x : SideR) (n : Int) : SideR := { x with balance := x.balance + n, forwarded := x.forwarded + n }
def fwdS (l : List SideR) (f : FwdD) : List SideR := if fwdE l f = 0 then l.modify f.side.toNat fun x => fwdR x f.amount else l
noncomputable def crE (l : List SideR) (p : Par) : Int := if ¬ mayP p then 4 else if 8 ≤ l.length then 18 else 0
def crR (p : Par) (h : Int) : SideR := { SideR.zero with par := p, made := h }
theorem fwdE_no {l : List SideR} {f : FwdD} (h : f.side < 0 ∨ l.length ≤ f.side) : fwdE l f = 8 := if_neg (by omega)
theorem fwdE_at {l : List SideR} {f : FwdD} {x : SideR} (h : 0 ≤ f.side) (hx : l[f.side.toNat]? = some x) :
    fwdE l f = if x.ceased then 14 else if f.amount < 1 ∨ maxM < f.amount ∨ maxM - f.amount < x.balance ∨ maxM - f.amount < x.forwarded then 5 else 0 := by
  have hl := (List.getElem?_eq_some_iff.1 hx).1
  unfold fwdE
  rw [if_pos ⟨h, by omega⟩, List.getD_eq_getElem?_getD, hx]; rfl
theorem fwdS_no {l : List SideR} {f : FwdD} {e : Int} (h : fwdE l f = e) (he : e ≠ 0) : fwdS l f = l := if_neg (by rw [h]; exact he)
theorem fwdS_at {l : List SideR} {f : FwdD} {x : SideR} (h : fwdE l f = 0) (hx : l[f.side.toNat]? = some x) : fwdS l f = l.set f.side.toNat (fwdR x f.amount) := by
  unfold fwdS
  rw [if_pos h]
  have hl := (List.getElem?_eq_some_iff.1 hx)
  obtain ⟨h1, h2⟩ := hl
  subst h2
  apply List.ext_getElem?
  intro m
  rw [List.getElem?_modify, List.getElem?_set]
  by_cases e : f.side.toNat = m
  · subst e; simp [h1]
  · simp [e]
theorem mapS_get {l : List RecV} {i : Nat} {r : RecV} (h : l[i]? = some r) : (l.map (·.s))[i]? = some r.s := by simp [h]
theorem mapS_set (l : List RecV) (i : Nat) (r : RecV) : (l.set i r).map (·.s) = (l.map (·.s)).set i r.s := by simp [List.map_set]
noncomputable def crS (l : List SideR) (p : Par) (h : Int) : List SideR := if crE l p = 0 then l ++ [crR p h] else l
theorem crR_sm {p : Par} {h : Int} (hk : p.keys.length ≤ 1000) : SideSm (crR p h) := ⟨Int.le_refl 0, Int.le_refl 0, Int.le_refl 0, rfl, (by show (0 : Int) ≤ 1125899906842624; decide), hk, Nat.zero_le _, Nat.zero_le _, Nat.zero_le _, List.Pairwise.nil⟩
def fwdV (r : RecV) (n : Int) : RecV := { r with s := fwdR r.s n }
theorem fwd_bad {w a b f : Int} (h : ((a < 1 ∨ a < 0 ∨ 1125899906842624 < a) ∨ w < b) ∨ w < f) (hw : 1 ≤ a → a ≤ 1125899906842624 → w = 1125899906842624 - a) : a < 1 ∨ maxM < a ∨ maxM - a < b ∨ maxM - a < f := by
  unfold maxM
  by_cases h1 : a < 1
  · exact .inl h1
  · by_cases h2 : 1125899906842624 < a
    · exact .inr (.inl h2)
    · have := hw (by omega) (by omega)
      rcases h with (h | h) | h <;> omega
theorem fwdI {ro : Hp} {r : RecV} {n : Int} (h : RecI ro r) (h1 : 1 ≤ n) (h2 : r.s.forwarded ≤ maxM - n) : RecI ro (fwdV r n) := by
  unfold maxM at h2
  have hs := h.sm
  refine ⟨⟨h.rs.k, h.rs.o, h.rs.g, h.rs.u⟩, ⟨?_, hs.m, hs.c, ?_, ?_, hs.k, hs.o, hs.g, hs.u, hs.srt⟩⟩
  · have := hs.b; show 0 ≤ r.s.balance + n; omega
  · have := hs.f; show r.s.forwarded + n = r.s.balance + n + r.s.matured + r.s.claimed; omega
  · show r.s.forwarded + n ≤ 1125899906842624; omega
theorem rs_cz {ro : Hp} {v : Value} {sz : Nat} {xs : Rows} (h : RS ro v sz xs) : Cz v 1 := by
  obtain ⟨a, c, rfl, _⟩ := h.shape
  infer_instance
theorem RecI.wl {ro : Hp} {r : RecV} (h : RecI ro r) : Wl r.lv := by
  haveI := rs_cz h.rs.k
  haveI := rs_cz h.rs.o
  haveI := rs_cz h.rs.g
  haveI := rs_cz h.rs.u
  exact Wc.wl
theorem rfwd_bad {w a b f : Int} (h : ((a < 1 ∨ 1125899906842624 < a) ∨ w < b) ∨ w < f) (hw : 1 ≤ a → a ≤ 1125899906842624 → w = 1125899906842624 - a) : a < 1 ∨ maxM < a ∨ maxM - a < b ∨ maxM - a < f := by
  unfold maxM
  by_cases h1 : a < 1
  · exact .inl h1
  · by_cases h2 : 1125899906842624 < a
    · exact .inr (.inl h2)
    · have := hw (by omega) (by omega)
      rcases h with (h | h) | h <;> omega
end Go.Db
namespace Go.Db
open Go Go.Sx
def bitOf (m : Hash) (i : Nat) : Nat := (m.toList.getD (i / 8) 0).toNat / 2 ^ (i % 8) % 2
theorem bitOf_le (m : Hash) (i : Nat) : bitOf m i ≤ 1 := by unfold bitOf; omega
def secretOf (seed : Hash) (index i b : Int) : Hash := hOf 115 [seed.toList, [byteI index, byteI i, byteI b, 0]]
def markOf (s : Hash) : Hash := hOf 112 [s.toList]
def opnTo (seed : Hash) (index : Int) (m : Hash) (k : Nat) : List Hash := (List.range k).map fun (i : Nat) => secretOf seed index (i : Int) (bitOf m i : Int)
def shutTo (seed : Hash) (index : Int) (m : Hash) (k : Nat) : List Hash := (List.range k).map fun (i : Nat) => markOf (secretOf seed index (i : Int) (1 - (bitOf m i : Int)))
def pubTo (m : Hash) (o s : List Hash) : Nat → List UInt8
  | 0 => []
  | k + 1 => pubTo m o s k ++ if bitOf m k = 1 then (s.getD k h0).toList ++ (markOf (o.getD k h0)).toList else (markOf (o.getD k h0)).toList ++ (s.getD k h0).toList
def publicOf (m : Hash) (o s : List Hash) : Hash := hOf 107 [pubTo m o s 16]
def publicsTo (seed : Hash) (k : Nat) : List Hash := (List.range k).map fun (i : Nat) => publicOf h0 (opnTo seed (i : Int) h0 16) (shutTo seed (i : Int) h0 16)
def publicsOf (seed : Hash) : List Hash := publicsTo seed 8
def cutF : Nat → Nat → Nat → Nat
  | 0, k, _ => k
  | f + 1, k, n => if 2 * k < n then cutF f (2 * k) n else k
def cutN (n : Nat) : Nat := cutF n 1 n
def rootF : Nat → List Hash → Hash
  | 0, _ => h0
  | f + 1, l => if l.length = 0 ∨ 65536 < l.length then h0 else if l.length = 1 then hOf 108 [(l.getD 0 h0).toList] else
    two 109 (rootF f (l.take (cutN l.length))) (rootF f (l.drop (cutN l.length)))
def rootOf (l : List Hash) : Hash := rootF l.length l
def treeOf (seed : Hash) : Hash := rootOf (publicsOf seed)
def seedOf (k : Int) : Hash := #v[113, byteI k, 0, 0, 0, 0, 0, 0]
theorem cutF_mono : ∀ (f g k n : Nat), 0 < k → n ≤ k + f → n ≤ k + g → cutF f k n = cutF g k n
  | 0, 0, _, _, _, _, _ => rfl
  | 0, g + 1, k, n, hk, h1, h2 => by rw [cutF, cutF, if_neg (by omega)]
  | f + 1, 0, k, n, hk, h1, h2 => by rw [cutF, cutF, if_neg (by omega)]
  | f + 1, g + 1, k, n, hk, h1, h2 => by
    rw [cutF, cutF]
    by_cases h : 2 * k < n
    · rw [if_pos h, if_pos h]; exact cutF_mono f g (2 * k) n (by omega) (by omega) (by omega)
    · rw [if_neg h, if_neg h]
theorem cutF_bd : ∀ (f k n : Nat), 0 < k → k < n → n ≤ k + f → cutF f k n < n ∧ 0 < cutF f k n
  | 0, k, n, hk, h1, h2 => by omega
  | f + 1, k, n, hk, h1, h2 => by
    rw [cutF]
    by_cases h : 2 * k < n
    · rw [if_pos h]; exact cutF_bd f (2 * k) n (by omega) h (by omega)
    · rw [if_neg h]; exact ⟨h1, hk⟩
theorem cutN_bd {n : Nat} (h : 1 < n) : cutN n < n ∧ 0 < cutN n := cutF_bd n 1 n (by decide) h (by omega)
theorem cut_step {k n : Nat} (hk : 0 < k) (h : 2 * k < n) : cutF n (2 * k) n = cutF n k n := by
  have e : cutF (n + 1) k n = cutF n k n := cutF_mono _ _ _ _ hk (by omega) (by omega)
  rw [← e, cutF, if_pos h]
theorem cut_end {k n : Nat} (hn : 0 < n) (h : ¬ 2 * k < n) : cutF n k n = k := by
  cases n with
  | zero => omega
  | succ n => rw [cutF, if_neg h]
theorem rootF_mono : ∀ (f g : Nat) (l : List Hash), l.length ≤ f → l.length ≤ g → rootF f l = rootF g l
  | 0, 0, _, _, _ => rfl
  | 0, g + 1, l, h1, h2 => by
    have : l = [] := List.length_eq_zero_iff.1 (by omega)
    subst this; simp [rootF]
  | f + 1, 0, l, h1, h2 => by
    have : l = [] := List.length_eq_zero_iff.1 (by omega)
    subst this; simp [rootF]
  | f + 1, g + 1, l, h1, h2 => by
    rw [rootF, rootF]
    split
    · rfl
    · split
      · rfl
      · have hc := cutN_bd (n := l.length) (by omega)
        rw [rootF_mono f g (l.take (cutN l.length)) (by rw [List.length_take]; omega) (by rw [List.length_take]; omega),
          rootF_mono f g (l.drop (cutN l.length)) (by rw [List.length_drop]; omega) (by rw [List.length_drop]; omega)]
theorem rootOf_none {l : List Hash} (h : l.length = 0 ∨ 65536 < l.length) : rootOf l = h0 := by
  unfold rootOf
  cases hl : l.length with
  | zero => rfl
  | succ n => rw [rootF, if_pos h]
theorem rootOf_one {l : List Hash} (h : l.length = 1) : rootOf l = hOf 108 [(l.getD 0 h0).toList] := by
  unfold rootOf; rw [h, rootF, if_neg (by omega), if_pos h]
theorem rootOf_two {l : List Hash} (h1 : 1 < l.length) (h2 : l.length ≤ 65536) : rootOf l = two 109 (rootOf (l.take (cutN l.length))) (rootOf (l.drop (cutN l.length))) := by
  have hc := cutN_bd h1
  unfold rootOf
  have e : rootF l.length l = rootF (l.length + 1) l := rootF_mono _ _ _ (by omega) (by omega)
  rw [e, rootF, if_neg (by omega), if_neg (by omega)]
  rw [rootF_mono l.length _ (l.take (cutN l.length)) (by rw [List.length_take]; omega) (Nat.le_refl _), rootF_mono l.length _ (l.drop (cutN l.length)) (by rw [List.length_drop]; omega) (Nat.le_refl _)]
/- in arrays, step by step -/
def fillH (l : List Hash) : List Hash := l ++ List.replicate (16 - l.length) h0
theorem fillH_length {l : List Hash} (h : l.length ≤ 16) : (fillH l).length = 16 := by simp [fillH]; omega
theorem opnTo_length (s : Hash) (x : Int) (m : Hash) (k : Nat) : (opnTo s x m k).length = k := by simp [opnTo]
theorem shutTo_length (s : Hash) (x : Int) (m : Hash) (k : Nat) : (shutTo s x m k).length = k := by simp [shutTo]
theorem fillH_at {l : List Hash} {k : Nat} (hl : l.length = k) (h : k < 16) : (fillH l)[k]? = some h0 := by
  unfold fillH; rw [List.getElem?_append_right (by omega), List.getElem?_replicate]; simp [hl]; omega
theorem fillH_set {l : List Hash} {k : Nat} (hl : l.length = k) (h : k < 16) (x : Hash) : (fillH l).set k x = fillH (l ++ [x]) := by
  unfold fillH
  rw [List.set_append_right _ _ (by omega), hl, Nat.sub_self]
  obtain ⟨m, hm⟩ : ∃ m, 16 - k = m + 1 := ⟨15 - k, by omega⟩
  rw [hm, List.replicate_succ, List.set_cons_zero]
  simp only [List.length_append, List.length_cons, List.length_nil, hl, List.append_assoc, List.cons_append, List.nil_append]
  congr 3; omega
theorem opn_set (s : Hash) (x : Int) (m : Hash) {k : Nat} (h : k < 16) : (fillH (opnTo s x m k)).set k (secretOf s x k (bitOf m k)) = fillH (opnTo s x m (k + 1)) := by
  rw [fillH_set (opnTo_length s x m k) h]; simp [opnTo, List.range_succ]
theorem shut_set (s : Hash) (x : Int) (m : Hash) {k : Nat} (h : k < 16) : (fillH (shutTo s x m k)).set k (markOf (secretOf s x k (1 - (bitOf m k : Int)))) = fillH (shutTo s x m (k + 1)) := by
  rw [fillH_set (shutTo_length s x m k) h]; simp [shutTo, List.range_succ]
theorem fillH_16 {l : List Hash} (h : l.length = 16) : fillH l = l := by simp [fillH, h]
theorem pubTo_length {m : Hash} {o s : List Hash} : ∀ k, (pubTo m o s k).length = 16 * k
  | 0 => rfl
  | k + 1 => by rw [pubTo, List.length_append, pubTo_length k]; split <;> simp <;> omega
theorem byte_at (h : Hash) {j : Nat} (hj : j < 8) : (flat [(8, hv h)])[j]? = some (bv (h.toList.getD j 0)) := by
  rw [flat_h, hc, List.getElem?_map, List.getD_eq_getElem?_getD]
  have : j < h.toList.length := by simp; omega
  rw [List.getElem?_eq_getElem this]; rfl
end Go.Db
namespace Go.Db
open Go Go.Sx
section
variable {P : Program} {Q : Exit → Act → World → Prop} {n : Nat} {w0 : World} {ro : Hp} {E : Env} {M R R2 : Res} {K : Act → World → Prop}
variable {ty T T2 : TypeId} {pos : String} {af : Array Edge} {g : Option (Nat × Bool)} {x y : Operand} {e bytes d l : Nat} {v : Value} {xs : List (List Value)}
/-- append a hash's bytes, out of its box -/
theorem JO.appH {l2 b : Nat} {h : Hash} (hn : Nat.blt d n = true) (hx : opnd E x = some v) (hy : opnd E y = some (.slice (some ⟨b, 0 + 0 * 1, none⟩) (8 - 0) (8 - 0))) (hT : El P T e 1 bytes) (hp : Sx.pull M l = some (Ow v e 1 xs, R))
    (hq : Sx.pull M l2 = some (St b [(8, hv h)] T2, R2)) (hb : (xs.length + 8) * bytes ≤ 140737488355328) (hm : xs.length + 8 ≤ maxLen)
    (k : ∀ a c, Kp n w0 ro K ((d, .slice a (xs ++ bys h.toList).length c) :: E) ((l, Ow (.slice a (xs ++ bys h.toList).length c) e 1 (xs ++ bys h.toList)) :: R)) :
    JO P Q n w0 ro K ⟨some d, .call { callee := .builtin .append, args := #[x, y], argTypes := #[T, T] }, ty, pos, af, g⟩ E M :=
  have hl : (bys h.toList).length = 8 := by simp [bys]
  JO.appW hn hx hy hT hp (fun W i => by
    obtain ⟨h1, _⟩ := i.box hq
    exact (rs_hash (ro := Sx.hp W) h1).src (Hp.le_refl _)) (by rw [hl]; exact hb) (by rw [hl]; exact hm) fun v' => Kp.ow pull_self fun a c hv => by subst hv; exact k a c
end
theorem pub_step {m : Hash} {o s : List Hash} {k : Nat} (a b : Hash) (hb : (if bitOf m k = 1 then a = s.getD k h0 ∧ b = markOf (o.getD k h0) else a = markOf (o.getD k h0) ∧ b = s.getD k h0)) :
    bys (pubTo m o s k) ++ bys a.toList ++ bys b.toList = bys (pubTo m o s (k + 1)) := by
  rw [pubTo, ← bys_append, ← bys_append, List.append_assoc]
  split at hb
  · rename_i h; rw [if_pos h, hb.1, hb.2]
  · rename_i h; rw [if_neg h, hb.1, hb.2]
theorem publicsTo_length (seed : Hash) (k : Nat) : (publicsTo seed k).length = k := by simp [publicsTo]
theorem publicsTo_succ (seed : Hash) (k : Nat) : hkR (publicsTo seed k) ++ [hc (publicOf h0 (opnTo seed (k : Int) h0 16) (shutTo seed (k : Int) h0 16))] = hkR (publicsTo seed (k + 1)) := by simp [publicsTo, hkR, List.range_succ]
theorem hkR_drop (l : List Hash) (k : Nat) : ((hkR l).drop k).take ((hkR l).length - k) = hkR (l.drop k) := by
  rw [hkR_length, hkR, ← List.map_drop, List.take_of_length_le (by simp)]; rfl
end Go.Db
namespace Go.Db
open Go Go.Sx
theorem rs_elem {ro : Hp} {v : Value} {l : List Hash} {i : Nat} {h : Hash} (hR : RS ro v 8 (hkR l)) (hi : l[i]? = some h) : RS ro (.slice (some ⟨slB v, slO v + i * 8 + 0 * 1, none⟩) (8 - 0) (8 - 0)) 1 (bys h.toList) := by
  obtain ⟨cs, T, fr, hr, hl, hm⟩ := hR.at (i := i) (p := hc h) (by simp [hkR, hi])
  refine ⟨⟨some ⟨slB v, slO v + i * 8 + 0 * 1, none⟩, 8 - 0, by rw [bys_length]; simp, by rw [bys_length]; simp⟩, fun x hx => ?_, fun _ => ⟨8 - 0, cs, T, fr, by simp [bys, slB, slO], by simpa [slB] using hr, fun k x hx j u hu => ?_⟩⟩
  · obtain ⟨c, _, rfl⟩ := List.mem_map.1 hx
    exact ⟨rfl, by intro v hv; simp at hv; subst hv; rfl⟩
  · unfold bys at hx
    rw [List.getElem?_map] at hx
    obtain ⟨c, hc1, rfl⟩ := Option.map_eq_some_iff.1 hx
    obtain rfl : j = 0 := by have := (List.getElem?_eq_some_iff.1 hu).1; simpa using this
    simp at hu; subst hu
    have := hm k (bv c) (by simp only [hc, List.getElem?_map, hc1, Option.map_some])
    simpa [slO] using this
theorem hkR_drop' (l : List Hash) (k : Nat) : ((hkR l).drop k).take (l.length - k) = hkR (l.drop k) := by
  rw [← hkR_length l]; exact hkR_drop l k
end Go.Db
namespace Go.Db
open Go Go.Sx
def keysM (n : Nat) : List Hash := (List.range n).map fun (k : Nat) => treeOf (seedOf (k : Int))
def madeP (n : Nat) (need : Int) : Par := ⟨4, 2, need, keysM n⟩
theorem keysM_length (n : Nat) : (keysM n).length = n := by simp [keysM]
theorem keysM_succ (n : Nat) : hkR (keysM n) ++ [hc (treeOf (seedOf (n : Int)))] = hkR (keysM (n + 1)) := by simp [keysM, hkR, List.range_succ]
theorem seed_fill (k : Int) : fillL 1 (flat [(8, hv h0)]) [(0, .int .u8 113), (1, bv (byteI k))] = hc (seedOf k) := rfl
theorem seed_parts (k : Int) : ∀ p ∈ ([0, 1].zip [Value.int .u8 113, bv (byteI k)] : List (Nat × Value)), p.1 < 8 ∧ p.2.cells.size = 1 := by
  intro p hp
  simp only [List.zip_cons_cons, List.zip_nil_right, List.mem_cons, List.not_mem_nil, or_false] at hp
  rcases hp with rfl | rfl
  · exact ⟨by decide, rfl⟩
  · exact ⟨(by decide : 1 < 8), rfl⟩
def oneH : Hash := #v[1, 0, 0, 0, 0, 0, 0, 0]
theorem one_fill : fillL 1 (flat [(8, hv h0)]) [(0, .int .u8 1)] = hc oneH := rfl
theorem one_parts : ∀ p ∈ ([0].zip [Value.int .u8 1] : List (Nat × Value)), p.1 < 8 ∧ p.2.cells.size = 1 := by
  intro p hp
  simp only [List.zip_cons_cons, List.zip_nil_right, List.mem_cons, List.not_mem_nil, or_false] at hp
  subst hp
  exact ⟨by decide, rfl⟩
def fillF (money : List Int) (k : Nat) : FwdD := ⟨(k : Int), 1, oneH, money.getD k 0⟩
noncomputable def fillTo (money : List Int) : Nat → List SideR
  | 0 => []
  | k + 1 => fwdS (crS (fillTo money k) (madeP 3 2) 3) (fillF money k)
theorem fwdS_length (l : List SideR) (f : FwdD) : (fwdS l f).length = l.length := by unfold fwdS; split <;> simp
theorem crS_length (l : List SideR) (p : Par) (h : Int) : (crS l p h).length ≤ l.length + 1 := by unfold crS; split <;> simp
theorem fillTo_length (money : List Int) : ∀ k, (fillTo money k).length ≤ k
  | 0 => by simp [fillTo]
  | k + 1 => by
    have := fillTo_length money k
    have := crS_length (fillTo money k) (madeP 3 2) 3
    rw [fillTo, fwdS_length]; omega
noncomputable def fillS (money : List Int) : List SideR := fillTo money (min money.length 8)
end Go.Db
namespace Go.Db
open Go Go.Sx
/-- a writer without fault -/
def Wr (T e b : Nat) (bs : List UInt8) : HP := fun h => ∃ v, Sats [(106, St b [(1, v), (1, .int .i64 0)] T), (107, Ow v e 1 (bys bs))] h
theorem Wr.mk {T e b : Nat} {bs : List UInt8} {v : Value} (h : Hp) (s : Sats [(106, St b [(1, v), (1, .int .i64 0)] T), (107, Ow v e 1 (bys bs))] h) : Wr T e b bs h := ⟨v, s⟩
theorem Wr.opn {T e b : Nat} {bs : List UInt8} (h : Hp) (hA : Wr T e b bs h) : ∃ x : Option Addr × Nat, Sats [(106, St b [(1, .slice x.1 (bys bs).length x.2), (1, .int .i64 0)] T), (107, Ow (.slice x.1 (bys bs).length x.2) e 1 (bys bs))] h := by
  obtain ⟨v, s⟩ := hA
  have h3 := s
  obtain ⟨_, h2, _, _, _, _, h4, _, _, _, _, i, _⟩ := h3
  obtain ⟨a, c, hv, _⟩ := (i.rs (Hp.le_refl _)).shape
  subst hv
  exact ⟨(a, c), s⟩
section
variable {P : Program} {Q : Exit → Act → World → Prop} {n : Nat} {w0 : World} {ro : Hp} {E : Env} {M R : Res}
theorem C.opnWr {c : Code} {l T e b : Nat} {bs : List UInt8} (hp : Sx.pull M l = some (Wr T e b bs, R))
    (k : ∀ a cc, C P Q n w0 ro c E ((106, St b [(1, .slice a (bys bs).length cc), (1, .int .i64 0)] T) :: (107, Ow (.slice a (bys bs).length cc) e 1 (bys bs)) :: R)) : C P Q n w0 ro c E M := C.opn hp Wr.opn fun x => k x.1 x.2
end
def rowB (l : List Hash) : List UInt8 := l.flatMap (·.toList)
def encSig (s : SigD) : List UInt8 := numB s.index 1 ++ rowB s.opn.toList ++ rowB s.shut.toList ++ rowB s.path.toList
def encOut (o : OutD) : List UInt8 := o.to_.toList ++ numB o.amount 7
def encOuts (l : List OutD) : List UInt8 := numB l.length 1 ++ l.flatMap encOut
def encIn (x : InD) : List UInt8 := x.frm.tx.toList ++ numB x.frm.at_ 1 ++ x.key.toList ++ encSig x.sig
def encIns (l : List InD) : List UInt8 := numB l.length 1 ++ l.flatMap encIn
def encFwd (f : FwdD) : List UInt8 := numB f.side 1 ++ numB f.account 2 ++ f.owner.toList ++ numB f.amount 7
def encFwds (l : List FwdD) : List UInt8 := numB l.length 1 ++ l.flatMap encFwd
def encPar (p : Par) : List UInt8 := numB p.length 1 ++ numB p.window 1 ++ numB p.need 1 ++ numB p.keys.length 1 ++ rowB p.keys
def encSigned (s : SignedD) : List UInt8 := numB s.key 1 ++ encSig s.sig
def encCert (c : CertD) : List UInt8 := numB c.side 1 ++ numB c.epoch 4 ++ numB c.quality 4 ++ c.fin.toList ++ c.root.toList ++ encOuts c.outs ++ numB c.sigs.length 1 ++ c.sigs.flatMap encSigned
def encClaim (c : ClaimD) : List UInt8 := numB c.side 1 ++ numB c.account 2 ++ c.state.owner.toList ++ numB c.state.amount 7 ++ numB c.state.nonce 1 ++ rowB c.proof.toList
def encTx (t : TxD) : List UInt8 := numB t.kind 1 ++
  if t.kind = 1 then numB t.height 4 ++ encOuts t.outs else if t.kind = 2 then encIns t.ins ++ encOuts t.outs ++ encFwds t.fwds else if t.kind = 3 then encPar t.par
  else if t.kind = 4 then encCert t.cert else if t.kind = 5 then encClaim t.claim else []
/- number fits -/
def fitN (x : Int) (w : Nat) : Prop := 0 ≤ x ∧ x < 2 ^ (8 * w)
theorem fm_succ {α β : Type} (f : α → List β) {l : List α} {k : Nat} {x : α} (h : l[k]? = some x) : (l.take (k + 1)).flatMap f = (l.take k).flatMap f ++ f x := by
  rw [List.take_add_one, h]; simp
theorem fm_le {α β : Type} (f : α → List β) (l : List α) (k : Nat) : ((l.take k).flatMap f).length ≤ (l.flatMap f).length := by
  conv => rhs; rw [← List.take_append_drop k l, List.flatMap_append, List.length_append]
  omega
theorem fm_len {α β : Type} (f : α → List β) {l : List α} {k : Nat} {x : α} (h : l[k]? = some x) : ((l.take k).flatMap f).length + (f x).length ≤ (l.flatMap f).length := by
  have := fm_le f l (k + 1); rw [fm_succ f h, List.length_append] at this; exact this
theorem rowB_length (l : List Hash) : (rowB l).length = 8 * l.length := by
  unfold rowB
  rw [List.length_flatMap]
  have : (l.map fun a => a.toList.length) = List.replicate l.length 8 := by
    apply List.ext_getElem
    · simp
    · intro i h1 h2; simp
  rw [this]; simp; omega
theorem encSig_length (s : SigD) : (encSig s).length = 281 := by simp [encSig, numB_length, rowB_length]
/-- a part of a box that is an array of hashes -/
theorem rs_arr {ro : Hp} {b T i off n : Nat} {vs : Lv} {v : Vector Hash n} (hb : Bx ro b vs T) (hi : vs[i]? = some (n * 8, hvs v)) (ho : lsz (vs.take i) = off) :
    RS ro (.slice (some ⟨b, off + 0 * 8, none⟩) (n - 0) (n - 0)) 8 (hkR v.toList) := by
  refine ⟨⟨_, _, by rw [hkR_length, Vector.length_toList, Nat.sub_zero], by rw [hkR_length]; simp⟩, fun x hx => ?_, fun _ => ⟨n - 0, _, T, (0, 0), by rw [hkR_length, Vector.length_toList]; simp [slB, slO], hb.1, fun k x hx j u hu => ?_⟩⟩
  · obtain ⟨h, _, rfl⟩ := List.mem_map.1 hx
    exact ⟨hc_length h, ones_bytes _⟩
  · unfold hkR at hx
    rw [List.getElem?_map] at hx
    obtain ⟨h, hh, rfl⟩ := Option.map_eq_some_iff.1 hx
    have hw : Wl (uni hv 8 v.toList) := Wc.wl
    have h1 := flat_get (vs := uni hv 8 v.toList) (i := k) (off := k * 8) (s := 8) (v := hv h) hw (uni_get hh) (lsz_take hh) j u (by simpa [hv, Value.cells] using hu)
    have h2 := flat_get hb.2 hi ho (k * 8 + j) u h1
    simpa [slO, Nat.add_assoc] using h2
end Go.Db
namespace Go.Db
open Go Go.Sx
theorem dig0 (x : Int) (m : Nat) : List.replicate m [Value.int .u8 0] = bys (numB x 0 ++ List.replicate (m - 0) 0) := by
  simp [numB, bys, bv]
theorem dig_set (x : Int) {m k : Nat} (h : k < m) : (bys (numB x k ++ List.replicate (m - k) 0)).set ((k : Int)).toNat (bv (byteI (x / 2 ^ (8 * k)))).cells.toList = bys (numB x (k + 1) ++ List.replicate (m - (k + 1)) 0) := by
  obtain ⟨j, hj⟩ : ∃ j, m - k = j + 1 := ⟨m - k - 1, by omega⟩
  rw [show m - (k + 1) = j by omega, hj, Int.toNat_natCast, bys_append, List.set_append_right _ _ (by rw [bys_length, numB_length]; exact Nat.le_refl _), bys_length, numB_length, Nat.sub_self, numB_succ, List.replicate_succ, bys_append]
  simp [bys, Value.cells, bv, bys_append]
end Go.Db
namespace Go.Db
open Go Go.Sx
theorem fm_const {α β : Type} {f : α → List β} {c : Nat} (h : ∀ x, (f x).length = c) (l : List α) : (l.flatMap f).length = c * l.length := by
  induction l with
  | nil => simp
  | cons x l ih => rw [List.flatMap_cons, List.length_append, h, ih, List.length_cons, Nat.mul_add]; omega
theorem encOut_length (o : OutD) : (encOut o).length = 15 := by simp [encOut, numB_length]
theorem encIn_length (x : InD) : (encIn x).length = 298 := by simp [encIn, numB_length, encSig_length]
theorem encFwd_length (f : FwdD) : (encFwd f).length = 18 := by simp [encFwd, numB_length]
theorem encSigned_length (s : SignedD) : (encSigned s).length = 282 := by simp [encSigned, numB_length, encSig_length]
theorem encOuts_length (l : List OutD) : (encOuts l).length = 1 + 15 * l.length := by simp only [encOuts, List.length_append, numB_length, fm_const encOut_length]
theorem encIns_length (l : List InD) : (encIns l).length = 1 + 298 * l.length := by simp only [encIns, List.length_append, numB_length, fm_const encIn_length]
theorem encFwds_length (l : List FwdD) : (encFwds l).length = 1 + 18 * l.length := by simp only [encFwds, List.length_append, numB_length, fm_const encFwd_length]
theorem encPar_length (p : Par) : (encPar p).length = 4 + 8 * p.keys.length := by simp only [encPar, List.length_append, numB_length, rowB_length]
theorem encCert_length (c : CertD) : (encCert c).length = 27 + 15 * c.outs.length + 282 * c.sigs.length := by
  simp only [encCert, List.length_append, numB_length, encOuts_length, fm_const encSigned_length, Vector.length_toList]; omega
theorem encClaim_length (c : ClaimD) : (encClaim c).length = 147 := by simp [encClaim, numB_length, rowB_length]
theorem fit_len {n : Nat} (h : n ≤ 255) : fitN (n : Int) 1 := ⟨by omega, by show (n : Int) < 256; omega⟩
end Go.Db
namespace Go.Db
open Go Go.Sx
def mayOut (o : OutD) : Prop := o.to_ ≠ h0 ∧ 1 ≤ o.amount ∧ o.amount ≤ 1125899906842624
def mayOuts (l : List OutD) : Prop := (∀ o ∈ l, mayOut o) ∧ l.length ≤ 16
def mayAcc (s a : Int) : Prop := (0 ≤ s ∧ s ≤ 7) ∧ 0 ≤ a ∧ a ≤ 65535
def mayFwd (f : FwdD) : Prop := mayAcc f.side f.account ∧ f.owner ≠ h0 ∧ 1 ≤ f.amount ∧ f.amount ≤ 1125899906842624
def mayFwds (l : List FwdD) : Prop := (∀ o ∈ l, mayFwd o) ∧ l.length ≤ 16
def mayIn (l : List InD) (i : Nat) (x : InD) : Prop := (∀ j, j < i → ∀ y, l[j]? = some y → y.frm ≠ x.frm) ∧ (0 ≤ x.frm.at_ ∧ x.frm.at_ ≤ 255) ∧ 0 ≤ x.sig.index ∧ x.sig.index ≤ 255
def mayIns (l : List InD) : Prop := (∀ i x, l[i]? = some x → mayIn l i x) ∧ 1 ≤ l.length ∧ l.length ≤ 8
def maySigned (s : SignedD) : Prop := (0 ≤ s.key ∧ s.key ≤ 4) ∧ 0 ≤ s.sig.index ∧ s.sig.index ≤ 255
def mayCert (c : CertD) : Prop := (∀ s ∈ c.sigs, maySigned s) ∧ (0 ≤ c.side ∧ c.side ≤ 7) ∧ (0 ≤ c.epoch ∧ c.epoch ≤ 400) ∧ (0 ≤ c.quality ∧ c.quality ≤ 2147483647) ∧ mayOuts c.outs ∧ 1 ≤ c.sigs.length ∧ c.sigs.length ≤ 5
def mayClaim (c : ClaimD) : Prop := mayAcc c.side c.account ∧ c.state.owner ≠ h0 ∧ (1 ≤ c.state.amount ∧ c.state.amount ≤ 1125899906842624) ∧ 0 ≤ c.state.nonce ∧ c.state.nonce ≤ 255
def emptyTx (t : TxD) : Prop := t = { TxD.zero with kind := t.kind }
def mayTx (t : TxD) : Prop :=
  (t.kind = 1 ∧ ((1 ≤ t.height ∧ t.height ≤ 400) ∧ mayOuts t.outs) ∧ emptyTx { t with height := 0, outs := [] }) ∨
  (t.kind = 2 ∧ (mayIns t.ins ∧ mayOuts t.outs ∧ mayFwds t.fwds ∧ 0 < t.outs.length + t.fwds.length) ∧ emptyTx { t with ins := [], outs := [], fwds := [] }) ∨
  (t.kind = 3 ∧ mayP t.par ∧ emptyTx { t with par := Par.zero }) ∨
  (t.kind = 4 ∧ mayCert t.cert ∧ emptyTx { t with cert := CertD.zero }) ∨
  (t.kind = 5 ∧ mayClaim t.claim ∧ emptyTx { t with claim := ClaimD.zero })
noncomputable instance {l : List OutD} : Decidable (mayOuts l) := Classical.propDecidable _
noncomputable instance {l : List FwdD} : Decidable (mayFwds l) := Classical.propDecidable _
noncomputable instance {l : List InD} : Decidable (mayIns l) := Classical.propDecidable _
noncomputable instance {c : CertD} : Decidable (mayCert c) := Classical.propDecidable _
noncomputable instance {s a : Int} : Decidable (mayAcc s a) := Classical.propDecidable _
noncomputable instance {c : ClaimD} : Decidable (mayClaim c) := Classical.propDecidable _
noncomputable instance {t : TxD} : Decidable (emptyTx t) := Classical.propDecidable _
noncomputable instance {t : TxD} : Decidable (mayTx t) := Classical.propDecidable _
theorem may1 {t : TxD} (h : t.kind = 1) : ((decide (1 ≤ t.height ∧ t.height ≤ 400) && decide (mayOuts t.outs)) && decide (emptyTx { t with height := 0, outs := [] })) = decide (mayTx t) := by
  rw [Bool.eq_iff_iff]; simp [mayTx, h]
theorem may3 {t : TxD} (h : t.kind = 3) : (decide (mayP t.par) && decide (emptyTx { t with par := Par.zero })) = decide (mayTx t) := by
  rw [Bool.eq_iff_iff]; simp [mayTx, h]
theorem may4 {t : TxD} (h : t.kind = 4) : (decide (mayCert t.cert) && decide (emptyTx { t with cert := CertD.zero })) = decide (mayTx t) := by
  rw [Bool.eq_iff_iff]; simp [mayTx, h]
theorem may5 {t : TxD} (h : t.kind = 5) : (decide (mayClaim t.claim) && decide (emptyTx { t with claim := ClaimD.zero })) = decide (mayTx t) := by
  rw [Bool.eq_iff_iff]; simp [mayTx, h]
theorem mayNo {t : TxD} (h1 : t.kind ≠ 1) (h2 : t.kind ≠ 2) (h3 : t.kind ≠ 3) (h4 : t.kind ≠ 4) (h5 : t.kind ≠ 5) : ¬ mayTx t := by
  simp [mayTx, h1, h2, h3, h4, h5]
theorem Eqv.hash {P : Program} {T e : Nat} (t : HT P T e) (a b : Hash) : Eqv P 2 T (hv a) (hv b) (decide (a = b)) :=
  Eqv.lits (xs := (hc a).toArray) (ys := (hc b).toArray) t.k (by simpa using Kl.hash t a) (by simpa using Kl.hash t b) hv_eq
theorem Eqv.hashes {P : Program} {T H e n : Nat} (t : HT P H e) (hT : P.underlying T = some (.array n H)) (hs : (P.info? H).map (·.size) = some 8) (ha : Ag P H 8) (a b : Vector Hash n) : Eqv P 3 T (hvs a) (hvs b) (decide (a = b)) := by
  refine (Eqv.uni (enc := hv) (s := 8) (l := a.toList) (r := b.toList) hT hs t.cT (fun l i x hx => ?_) (Eqv.hash t) (by simp) (by simp)).to ?_
  · have h1 : (uni hv 8 l)[i]? = some (8, .agg (hc x).toArray) := uni_get hx
    exact Pt.lA (vs := uni hv 8 l) (i := i) ha h1 (lsz_take hx)
  · congr 1
    exact propext ⟨fun h => Vector.toList_inj.1 h, fun h => by rw [h]⟩
theorem emptyTx_iff (t : TxD) : emptyTx t ↔ (t.height = 0 ∧ (t.ins.length + t.outs.length + t.fwds.length = 0) ∧ (t.par.length = 0 ∧ t.par.window = 0 ∧ t.par.need = 0 ∧ t.par.keys.length = 0) ∧
    (t.cert.side = 0 ∧ t.cert.epoch = 0 ∧ t.cert.quality = 0 ∧ t.cert.fin = h0 ∧ t.cert.root = h0 ∧ t.cert.outs.length + t.cert.sigs.length = 0) ∧ t.claim = ClaimD.zero) := by
  obtain ⟨k, hgt, ins, outs, fw, ⟨pl, pw, pn, pk⟩, ⟨cs, ce, cq, cf, cr, co, cg⟩, cl⟩ := t
  simp only [emptyTx, TxD.zero, Par.zero, CertD.zero, TxD.mk.injEq, Par.mk.injEq, CertD.mk.injEq, true_and]
  constructor
  · rintro ⟨rfl, rfl, rfl, rfl, ⟨rfl, rfl, rfl, rfl⟩, ⟨rfl, rfl, rfl, rfl, rfl, rfl, rfl⟩, rfl⟩
    simp
  · rintro ⟨rfl, h1, ⟨rfl, rfl, rfl, h2⟩, ⟨rfl, rfl, rfl, rfl, rfl, h3⟩, rfl⟩
    have e1 : ins = [] := List.length_eq_zero_iff.1 (by omega)
    have e2 : outs = [] := List.length_eq_zero_iff.1 (by omega)
    have e3 : fw = [] := List.length_eq_zero_iff.1 (by omega)
    have e4 : pk = [] := List.length_eq_zero_iff.1 (by omega)
    have e5 : co = [] := List.length_eq_zero_iff.1 (by omega)
    have e6 : cg = [] := List.length_eq_zero_iff.1 (by omega)
    subst e1 e2 e3 e4 e5 e6
    simp
end Go.Db
namespace Go.Db
open Go Go.Sx
theorem fit_amt {x : Int} (h : 1 ≤ x ∧ x ≤ 1125899906842624) : fitN x 7 := ⟨by omega, by show x < 72057594037927936; omega⟩
theorem fit1 {x : Int} (h0 : 0 ≤ x) (h : x ≤ 255) : fitN x 1 := ⟨h0, by show x < 256; omega⟩
theorem fit2 {x : Int} (h0 : 0 ≤ x) (h : x ≤ 65535) : fitN x 2 := ⟨h0, by show x < 65536; omega⟩
theorem fit4 {x : Int} (h0 : 0 ≤ x) (h : x ≤ 4294967295) : fitN x 4 := ⟨h0, by show x < 4294967296; omega⟩
theorem mayOuts.fit {l : List OutD} (h : mayOuts l) : (∀ x ∈ l, fitN x.amount 7) ∧ l.length ≤ 255 := ⟨fun x hx => fit_amt ⟨(h.1 x hx).2.1, (h.1 x hx).2.2⟩, by have := h.2; omega⟩
theorem mayTx.k1 {t : TxD} (h : mayTx t) (k : t.kind = 1) : (1 ≤ t.height ∧ t.height ≤ 400) ∧ mayOuts t.outs := by
  rcases h with h | h | h | h | h
  · exact h.2.1
  all_goals (have := h.1; omega)
theorem mayTx.k3 {t : TxD} (h : mayTx t) (k : t.kind = 3) : mayP t.par := by
  rcases h with h | h | h | h | h
  · have := h.1; omega
  · have := h.1; omega
  · exact h.2.1
  all_goals (have := h.1; omega)
theorem mayTx.k4 {t : TxD} (h : mayTx t) (k : t.kind = 4) : mayCert t.cert := by
  rcases h with h | h | h | h | h
  · have := h.1; omega
  · have := h.1; omega
  · have := h.1; omega
  · exact h.2.1
  · have := h.1; omega
theorem mayTx.k5 {t : TxD} (h : mayTx t) (k : t.kind = 5) : mayClaim t.claim := by
  rcases h with h | h | h | h | h
  · have := h.1; omega
  · have := h.1; omega
  · have := h.1; omega
  · have := h.1; omega
  · exact h.2.1
theorem mayTx.kind {t : TxD} (h : mayTx t) : 1 ≤ t.kind ∧ t.kind ≤ 5 := by
  rcases h with h | h | h | h | h <;> (have := h.1; omega)
theorem mayP.fit {p : Par} (h : mayP p) : (fitN p.length 1 ∧ fitN p.window 1 ∧ fitN p.need 1) ∧ p.keys.length ≤ 5 := by
  obtain ⟨a1, a2, a3, a4, _, a6, a7, a8, a9⟩ := h
  exact ⟨⟨fit1 (by omega) (by omega), fit1 (by omega) (by omega), fit1 (by omega) (by omega)⟩, a2⟩
theorem mayCert.fit {c : CertD} (h : mayCert c) : (fitN c.side 1 ∧ fitN c.epoch 4 ∧ fitN c.quality 4) ∧ (∀ x ∈ c.outs, fitN x.amount 7) ∧ (∀ x ∈ c.sigs, fitN x.key 1 ∧ fitN x.sig.index 1) ∧ c.outs.length ≤ 16 ∧ c.sigs.length ≤ 5 := by
  obtain ⟨a1, a2, a3, a4, a5, a6, a7⟩ := h
  exact ⟨⟨fit1 (by omega) (by omega), fit4 (by omega) (by omega), fit4 (by omega) (by omega)⟩, a5.fit.1, fun x hx => ⟨fit1 (by have := (a1 x hx).1; omega) (by have := (a1 x hx).1; omega), fit1 (by have := (a1 x hx).2; omega) (by have := (a1 x hx).2; omega)⟩, a5.2, a7⟩
theorem mayClaim.fit {c : ClaimD} (h : mayClaim c) : fitN c.side 1 ∧ fitN c.account 2 ∧ fitN c.state.amount 7 ∧ fitN c.state.nonce 1 := by
  obtain ⟨a1, a2, a3, a4, a5⟩ := h
  exact ⟨fit1 (by have := a1.1; omega) (by have := a1.1; omega), fit2 (by have := a1.2; omega) (by have := a1.2; omega), fit_amt a3, fit1 (by omega) (by omega)⟩
theorem encTx_length {t : TxD} (h : mayTx t) (k2 : t.kind ≠ 2) : (encTx t).length ≤ 4000 := by
  unfold encTx
  rw [List.length_append, numB_length]
  by_cases k1 : t.kind = 1
  · rw [if_pos k1]; have := (h.k1 k1).2.2; rw [List.length_append, numB_length, encOuts_length]; omega
  · rw [if_neg k1, if_neg k2]
    by_cases k3 : t.kind = 3
    · rw [if_pos k3]; have := (h.k3 k3).fit.2; rw [encPar_length]; omega
    · rw [if_neg k3]
      by_cases k4 : t.kind = 4
      · rw [if_pos k4]; have := (h.k4 k4).fit.2.2.2; rw [encCert_length]; omega
      · rw [if_neg k4]
        by_cases k5 : t.kind = 5
        · rw [if_pos k5, encClaim_length]; omega
        · rw [if_neg k5]; simp
end Go.Db
namespace Go.Db
open Go Go.Sx
theorem PQ.mono {ro ro' : Hp} (l : Hp.le ro ro') : ∀ {qs : List Value} {ps : List (List UInt8)}, PQ ro qs ps → PQ ro' qs ps
  | [], [], _ => trivial
  | q :: qs, p :: ps, h => ⟨h.1.mono l, PQ.mono l h.2⟩
  | [], _ :: _, h => h.elim
  | _ :: _, [], h => h.elim
end Go.Db
namespace Go.Db
open Go Go.Sx
theorem packed_cons {p : List UInt8} {ps : List (List UInt8)} (h : (packed ps).length ≤ 1000000) (h1 : p.length ≤ 4000) : (packed (p :: ps)).length ≤ 1099511627775 := by
  unfold packed at h ⊢
  rw [List.flatMap_cons, List.length_append, List.length_append]
  have : (le4 p.length).length = 4 := rfl
  omega
end Go.Db
namespace Go.Db
open Go Go.Sx
structure CoinD where
  out : OutD
  height : Int
  base : Bool
deriving DecidableEq
abbrev CoinD.lv (c : CoinD) : Lv := [(8, hv c.out.to_), (1, iv c.out.amount), (1, iv c.height), (1, .bool c.base)]
def CoinD.zero : CoinD := ⟨⟨h0, 0⟩, 0, false⟩
structure StepD where
  p : PointD
  c : CoinD
  added : Bool
deriving DecidableEq
abbrev StepD.lv (s : StepD) : Lv := [(8, hv s.p.tx), (1, iv s.p.at_), (8, hv s.c.out.to_), (1, iv s.c.out.amount), (1, iv s.c.height), (1, .bool s.c.base), (1, .bool s.added)]
instance {c : CoinD} : Cz (ag c.lv) 11 := cz_ag (by kernel_rfl)
instance {s : StepD} : Cz (ag s.lv) 21 := cz_ag (by kernel_rfl)
def pointV (p : PointD) : Value := ag p.lv
def coinV (c : CoinD) : Value := ag c.lv
structure UD where
  coins : List (PointD × CoinD)
  steps : List StepD
  total : Int
def UD.nil : UD := ⟨[], [], 0⟩
def Ut (T e b : Nat) (u : UD) : HP := fun h => ∃ (r : Nat) (v : Value), Sats [(201, St b [(1, .map (some r)), (1, v), (1, iv u.total)] T), (202, Mp r pointV coinV u.coins), (203, Ow v e 21 (rws StepD.lv u.steps))] h
theorem Ut.mk {T e b r : Nat} {u : UD} {v : Value} (h : Hp) (s : Sats [(201, St b [(1, .map (some r)), (1, v), (1, iv u.total)] T), (202, Mp r pointV coinV u.coins), (203, Ow v e 21 (rws StepD.lv u.steps))] h) : Ut T e b u h := ⟨r, v, s⟩
theorem Ut.opn {T e b : Nat} {u : UD} (h : Hp) (hA : Ut T e b u h) : ∃ x : Nat × Option Addr × Nat, Sats [(201, St b [(1, .map (some x.1)), (1, .slice x.2.1 (rws StepD.lv u.steps).length x.2.2), (1, iv u.total)] T), (202, Mp x.1 pointV coinV u.coins), (203, Ow (.slice x.2.1 (rws StepD.lv u.steps).length x.2.2) e 21 (rws StepD.lv u.steps))] h := by
  obtain ⟨r, v, s⟩ := hA
  have h3 := s
  obtain ⟨_, h2, _, _, _, _, _, h4, _, _, _, _, h5, _, _, _, _, i, _⟩ := h3
  obtain ⟨a, c, hv, _⟩ := (i.rs (Hp.le_refl _)).shape
  subst hv
  exact ⟨(r, a, c), s⟩
section
variable {P : Program} {Q : Exit → Act → World → Prop} {n : Nat} {w0 : World} {ro : Hp} {E : Env} {M R : Res}
theorem C.opnUt {c : Code} {l T e b : Nat} {u : UD} (hp : Sx.pull M l = some (Ut T e b u, R))
    (k : ∀ r a cc, C P Q n w0 ro c E ((201, St b [(1, .map (some r)), (1, .slice a (rws StepD.lv u.steps).length cc), (1, iv u.total)] T) :: (202, Mp r pointV coinV u.coins) :: (203, Ow (.slice a (rws StepD.lv u.steps).length cc) e 21 (rws StepD.lv u.steps)) :: R)) : C P Q n w0 ro c E M :=
  C.opn hp Ut.opn fun x => k x.1 x.2.1 x.2.2
end
theorem bits_ok {vs : Lv} (h : ∀ v ∈ flat vs, ∀ m, Instr.sameBits m v v = true) : Instr.sameBits 10000 (ag vs) (ag vs) = true := by
  show Instr.sameBits (9999 + 1) (.agg _) (.agg _) = true
  simp only [Instr.sameBits, beq_self_eq_true, Bool.true_and, List.all_eq_true]
  intro p hp
  obtain ⟨i, hi, e⟩ := List.getElem_of_mem hp
  rw [List.getElem_zip] at e
  rw [← e]
  exact h _ (by simpa using List.getElem_mem (l := flat vs) (by simpa using hi)) 9999
theorem bits_int {k : IntKind} {i : Int} (m : Nat) : Instr.sameBits m (.int k i) (.int k i) = true := by cases m <;> simp [Instr.sameBits]
theorem bits_point (p : PointD) : Instr.sameBits 10000 (pointV p) (pointV p) = true := bits_ok fun v hv m => by
  simp only [flat, List.mem_append, List.append_nil] at hv
  rcases hv with h | h
  · simp only [Go.Db.hv, Value.cells, hc, List.mem_map] at h
    obtain ⟨b, _, rfl⟩ := h
    exact bits_int m
  · simp [iv, Value.cells] at h; subst h; exact bits_int m
def addOk (u : UD) (p : PointD) (c : CoinD) : Prop := (0 ≤ p.at_ ∧ p.at_ ≤ 255) ∧ 1 ≤ c.out.amount ∧ getM u.coins p = none ∧ c.out.amount ≤ 1125899906842624 ∧ u.total + c.out.amount ≤ 1125899906842624
instance {u : UD} {p : PointD} {c : CoinD} : Decidable (addOk u p c) := by unfold addOk; infer_instance
def addU (u : UD) (p : PointD) (c : CoinD) : UD := if addOk u p c then ⟨setM u.coins p c, u.steps ++ [⟨p, c, true⟩], u.total + c.out.amount⟩ else u
def moneyAdd (a b : Int) : Int × Bool := if (0 ≤ a ∧ a ≤ 1125899906842624) ∧ (0 ≤ b ∧ b ≤ 1125899906842624) ∧ a + b ≤ 1125899906842624 then (a + b, true) else (0, false)
def bothM (a b n : Int) : Int × Bool := if (0 ≤ a ∧ a ≤ 1125899906842624) ∧ (0 ≤ b ∧ b ≤ 1125899906842624) ∧ (0 ≤ n ∧ n ≤ 1125899906842624) then (n, true) else (0, false)
theorem both_add (a b : Int) : bothM a b (IntKind.i64.wrap (a + b)) = moneyAdd a b := by
  unfold bothM moneyAdd
  by_cases h1 : 0 ≤ a ∧ a ≤ 1125899906842624
  · by_cases h2 : 0 ≤ b ∧ b ≤ 1125899906842624
    · rw [wrap_in _ (by omega) (by omega)]
      by_cases h3 : a + b ≤ 1125899906842624
      · rw [if_pos ⟨h1, h2, by omega, h3⟩, if_pos ⟨h1, h2, h3⟩]
      · rw [if_neg (by omega), if_neg (by omega)]
    · rw [if_neg (fun h => h2 h.2.1), if_neg (fun h => h2 h.2.1)]
  · rw [if_neg (fun h => h1 h.1), if_neg (fun h => h1 h.1)]
/-- outputs put in, one behind the other -/
def outsTo (tx : Hash) (h : Int) (b : Bool) : UD → Nat → List OutD → Int × UD
  | u, _, [] => (0, u)
  | u, i, o :: l => if (getM u.coins ⟨tx, (i : Int)⟩).isSome then (6, u) else if addOk u ⟨tx, (i : Int)⟩ ⟨o, h, b⟩ then outsTo tx h b (addU u ⟨tx, (i : Int)⟩ ⟨o, h, b⟩) (i + 1) l else (5, u)
theorem outsTo_at {tx : Hash} {h : Int} {b : Bool} {u : UD} {l : List OutD} {k : Nat} {o : OutD} (hk : l[k]? = some o) :
    outsTo tx h b u k (l.drop k) = if (getM u.coins ⟨tx, (k : Int)⟩).isSome then (6, u) else if addOk u ⟨tx, (k : Int)⟩ ⟨o, h, b⟩ then outsTo tx h b (addU u ⟨tx, (k : Int)⟩ ⟨o, h, b⟩) (k + 1) (l.drop (k + 1)) else (5, u) := by
  obtain ⟨h1, h2⟩ := List.getElem?_eq_some_iff.1 hk
  rw [List.drop_eq_getElem_cons h1, h2, outsTo]
theorem addU_steps (u : UD) (p : PointD) (c : CoinD) : (addU u p c).steps.length ≤ u.steps.length + 1 := by unfold addU; split <;> simp
/-- what is told of a set all along -/
structure UI (u : UD) : Prop where
  lo : 0 ≤ u.total
  hi : u.total ≤ 1125899906842624
theorem UI.nil : UI UD.nil := ⟨by decide, by decide⟩
theorem UI.add {u : UD} (h : UI u) (p : PointD) (c : CoinD) : UI (addU u p c) := by
  unfold addU
  split
  · rename_i ho; exact ⟨by have := h.lo; have := ho.2.1; show 0 ≤ u.total + c.out.amount; omega, ho.2.2.2.2⟩
  · exact h
end Go.Db
namespace Go.Db
open Go Go.Sx
theorem Ck.hash {P : Program} {T e : Nat} (t : HT P T e) (a : Hash) : Ck P 2 T (hv a) := Ck.lits t.k (by simpa using Kl.hash t a)
end Go.Db
namespace Go.Db
open Go Go.Sx
theorem madd_ok {a b : Int} (h0 : 0 ≤ a) (h1 : a ≤ 1125899906842624) (h2 : 1 ≤ b) : (moneyAdd a b).2 = decide (b ≤ 1125899906842624 ∧ a + b ≤ 1125899906842624) := by
  unfold moneyAdd
  by_cases h : b ≤ 1125899906842624 ∧ a + b ≤ 1125899906842624
  · rw [if_pos ⟨⟨h0, h1⟩, ⟨by omega, h.1⟩, h.2⟩, decide_eq_true h]
  · rw [if_neg (fun g => h ⟨g.2.1.2, g.2.2⟩), decide_eq_false h]
theorem setM_none {α β : Type} [DecidableEq α] {l : List (α × β)} {k : α} {v : β} (h : getM l k = none) : setM l k v = l ++ [(k, v)] := by
  induction l with
  | nil => rfl
  | cons p l ih =>
    simp only [getM] at h
    split at h
    · cases h
    · rename_i hn; simp [setM, hn, ih h]
end Go.Db
namespace Go.Db
open Go Go.Sx
theorem step_cz (p : PointD) (c : CoinD) (b : Bool) : Cz (ag (StepD.lv ⟨p, c, b⟩)) 21 := cz_ag (vs := StepD.lv ⟨p, c, b⟩) (by kernel_rfl)
theorem cs1 {v : Value} {s : Nat} (c : Cz v s) : ∀ u ∈ [v], u.cells.size = s ∧ Ones u.cells.toList := fun u hu => by
  simp at hu; subst hu; exact ⟨c.sz, c.ones⟩
end Go.Db
namespace Go.Sx
open Go Go.Db
theorem setCells_at {b e : Nat} {fr : Nat × Nat} : ∀ (vs : List Value) (o : Nat) (w : World) (cur : Array Value), w.heap[b]? = some (.cells cur e fr) → o + vs.length ≤ cur.size →
    (w.setCells b o vs).heap[b]? = some (.cells (cur.toList.take o ++ vs ++ cur.toList.drop (o + vs.length)).toArray e fr) ∧ (∀ j, j ≠ b → (w.setCells b o vs).heap[j]? = w.heap[j]?) ∧
    (w.setCells b o vs).os = w.os ∧ (w.setCells b o vs).tape = w.tape ∧ (w.setCells b o vs).output = w.output
  | [], o, w, cur, h, _ => ⟨by simpa [World.setCells] using h, fun _ _ => rfl, rfl, rfl, rfl⟩
  | v :: vs, o, w, cur, h, hl => by
    have hlt : b < w.heap.size := (Array.getElem?_eq_some_iff.1 h).1
    have hv : w.heap[b] = .cells cur e fr := (Array.getElem?_eq_some_iff.1 h).2
    simp only [List.length_cons] at hl
    have h1 : (w.setCell ⟨b, o, none⟩ v).heap[b]? = some (.cells (cur.setIfInBounds o v) e fr) := by
      unfold World.setCell
      rw [Array.getElem?_eq_getElem (by simpa using hlt), Array.getElem_modify]
      simp [hv]
    have h2 : ∀ j, j ≠ b → (w.setCell ⟨b, o, none⟩ v).heap[j]? = w.heap[j]? := fun j hj => by
      unfold World.setCell; simp [Array.getElem?_modify, Ne.symm hj]
    obtain ⟨i1, i2, i3, i4, i5⟩ := setCells_at vs (o + 1) (w.setCell ⟨b, o, none⟩ v) _ h1 (by simp; omega)
    refine ⟨?_, fun j hj => (i2 j hj).trans (h2 j hj), i3, i4, i5⟩
    rw [World.setCells, i1]
    congr 3
    have hol : o < cur.toList.length := by simp; omega
    simp only [Array.toList_setIfInBounds]
    rw [List.set_eq_take_append_cons_drop, if_pos hol]
    have hA : (cur.toList.take o).length = o := by simp; omega
    have e1 : (cur.toList.take o ++ v :: cur.toList.drop (o + 1)).take (o + 1) = cur.toList.take o ++ [v] := by
      rw [show cur.toList.take o ++ v :: cur.toList.drop (o + 1) = (cur.toList.take o ++ [v]) ++ cur.toList.drop (o + 1) by simp]
      exact List.take_left' (by simp only [List.length_append, hA]; rfl)
    have e2 : (cur.toList.take o ++ v :: cur.toList.drop (o + 1)).drop (o + 1 + vs.length) = cur.toList.drop (o + (vs.length + 1)) := by
      rw [show cur.toList.take o ++ v :: cur.toList.drop (o + 1) = (cur.toList.take o ++ [v]) ++ cur.toList.drop (o + 1) by simp, ← List.drop_drop, List.drop_left' (by simp only [List.length_append, hA]; rfl), List.drop_drop]
      congr 1; omega
    rw [e1, e2]
    simp
def insL (l : List Int) (i : Nat) (x : Int) : List Int := l.take i ++ x :: l.drop i
theorem insL_length {l : List Int} {i : Nat} {x : Int} (h : i ≤ l.length) : (insL l i x).length = l.length + 1 := by simp [insL]; omega
theorem intR_flat (l : List Int) : (intR l).flatten = l.map iv := by
  induction l with
  | nil => rfl
  | cons x l ih => simp [intR] at ih ⊢; exact ih
theorem intR_ok (l : List Int) : ∀ x ∈ intR l, x.length = 1 ∧ Ones x := fun x hx => by
  obtain ⟨n, _, rfl⟩ := List.mem_map.1 hx
  exact ⟨rfl, by intro v hv; simp at hv; subst hv; rfl⟩
theorem insL_iv (l : List Int) (i : Nat) (x : Int) : (insL l i x).map iv = (l.map iv).take i ++ iv x :: (l.map iv).drop i := by simp [insL, List.map_take, List.map_drop]
/-- a new list in a block -/
theorem ow_block {g e cap : Nat} {C : List Value} {l : List Int} (h1 : l.length ≤ cap) (h2 : cap ≤ maxLen) (h3 : C.length = cap) (h4 : C.take l.length = l.map iv) :
    Ow (.slice (some ⟨g, 0, none⟩) l.length cap) e 1 (intR l) (fun j => if j = g then some (.cells C.toArray e (0, 0)) else none) :=
  ⟨intR_ok l, .inr ⟨g, cap, C.toArray, by rw [intR_length], if_pos rfl, by rw [intR_length]; exact h1, h2, by simp [h3], by rw [intR_length, intR_flat]; simpa using h4⟩⟩
section
variable {w0 : World} {ro : Hp} {M : Res} {W W' : World}
theorem turn_in {l g e : Nat} {A B : HP} {C : List Value} (hI : Inv w0 ro ((l, A) :: M) W) (hA : ∀ h, Hp.le h (hp W) → A h → h g ≠ none) (hW : W'.heap[g]? = some (.cells C.toArray e (0, 0))) (ho : ∀ j, j ≠ g → W'.heap[j]? = W.heap[j]?)
    (h1 : W'.os = W.os) (h2 : W'.tape = W.tape) (h3 : W'.output = W.output) (hB : B (fun j => if j = g then some (.cells C.toArray e (0, 0)) else none)) : Inv w0 ro ((l, B) :: M) W' :=
  hI.turn h1 h2 h3 fun k hk hAk => ⟨_, hB, by
    intro j o hj
    by_cases e : j = g
    · subst e; simp at hj; subst hj; exact hW
    · simp [e] at hj, by
    intro j o hj
    by_cases e : j = g
    · subst e; left; exact hA k hk hAk
    · simp [e] at hj, by
    intro j o hj hn
    have : j ≠ g := by intro e; subst e; exact hA k hk hAk hn
    exact (ho j this).trans hj⟩
theorem turn_new {l g e : Nat} {A B : HP} {C : List Value} (hI : Inv w0 ro ((l, A) :: M) W) (hg : W.heap[g]? = none) (hW : W'.heap[g]? = some (.cells C.toArray e (0, 0))) (ho : ∀ j, j ≠ g → W'.heap[j]? = W.heap[j]?)
    (h1 : W'.os = W.os) (h2 : W'.tape = W.tape) (h3 : W'.output = W.output) (hB : B (fun j => if j = g then some (.cells C.toArray e (0, 0)) else none)) : Inv w0 ro ((l, B) :: M) W' :=
  hI.turn h1 h2 h3 fun k hk hAk => ⟨_, hB, by
    intro j o hj
    by_cases e : j = g
    · subst e; simp at hj; subst hj; exact hW
    · simp [e] at hj, by
    intro j o hj
    by_cases e : j = g
    · subst e; right; exact hg
    · simp [e] at hj, by
    intro j o hj hn
    have : j ≠ g := by intro e; subst e; rw [show hp W j = W.heap[j]? from rfl, hg] at hj; cases hj
    exact (ho j this).trans hj⟩
end
end Go.Sx
namespace Go.Sx
open Go Go.Db Go.Proofs Go.Shelf
section
variable {P : Program} {ρ : Ren} {w0 : World} {ro : Hp} {M : Res}
theorem take_mid {C cs : List Value} {i n : Nat} {v : Value} (hi : i ≤ n) (hn : cs.length = n) (hC : n + 1 ≤ C.length) (ht : C.take i = cs.take i) :
    ((C.take i ++ [v] ++ C.drop (i + 1)).take (i + 1) ++ cs.drop i ++ (C.take i ++ [v] ++ C.drop (i + 1)).drop (i + 1 + (n - i))).take (n + 1) = cs.take i ++ v :: cs.drop i ∧
    ((C.take i ++ [v] ++ C.drop (i + 1)).take (i + 1) ++ cs.drop i ++ (C.take i ++ [v] ++ C.drop (i + 1)).drop (i + 1 + (n - i))).length = C.length := by
  have hl : (C.take i ++ [v]).length = i + 1 := by simp; omega
  rw [List.take_left' hl]
  refine ⟨?_, ?_⟩
  · rw [List.take_left' (by rw [List.length_append, hl, List.length_drop]; omega), ht]; simp
  · simp only [List.length_append, List.length_drop, List.length_take, List.length_cons, List.length_nil]; omega
theorem take_shift {C cs : List Value} {i n : Nat} {v : Value} (hi : i ≤ n) (hn : cs.length = n) (hC : n + 1 ≤ C.length) (ht : C.take n = cs) :
    ((C.take (i + 1) ++ cs.drop i ++ C.drop (n + 1)).take i ++ [v] ++ (C.take (i + 1) ++ cs.drop i ++ C.drop (n + 1)).drop (i + 1)).take (n + 1) = cs.take i ++ v :: cs.drop i ∧
    ((C.take (i + 1) ++ cs.drop i ++ C.drop (n + 1)).take i ++ [v] ++ (C.take (i + 1) ++ cs.drop i ++ C.drop (n + 1)).drop (i + 1)).length = C.length := by
  have hl : (C.take (i + 1)).length = i + 1 := by simp; omega
  have h1 : (C.take (i + 1) ++ cs.drop i ++ C.drop (n + 1)).take i = cs.take i := by
    rw [List.append_assoc, List.take_append_of_le_length (by omega), List.take_take, Nat.min_eq_left (by omega), ← ht, List.take_take, Nat.min_eq_left hi]
  have h2 : (C.take (i + 1) ++ cs.drop i ++ C.drop (n + 1)).drop (i + 1) = cs.drop i ++ C.drop (n + 1) := by
    rw [List.append_assoc, List.drop_left' hl]
  rw [h1, h2]
  have h3 : (cs.take i).length = i := by simp; omega
  refine ⟨?_, ?_⟩
  · rw [show cs.take i ++ [v] ++ (cs.drop i ++ C.drop (n + 1)) = (cs.take i ++ v :: cs.drop i) ++ C.drop (n + 1) by simp]
    exact List.take_left' (by simp; omega)
  · simp; omega
theorem len_new (n : Nat) (c : List Value) {K : Nat} (hc : c.length = n + 1) (h : n + 1 ≤ K) : (c ++ (Builtin.zeroCells (Value.int .i64 0).cells (K - (n + 1))).toList).length = K := by
  rw [List.length_append, Array.length_toList (xs := Builtin.zeroCells (Value.int .i64 0).cells (K - (n + 1))), size_zeroCells, hc]
  show n + 1 + (K - (n + 1)) * 1 = K
  omega
theorem insert_fn (L : Lays2.n21 P ρ) (la lb : Nat) (vu v1 : Value) (l : List Int) (i : Nat) (x : Int) (hi : i ≤ l.length) (hl : l.length ≤ 1000000) :
    Fn P (ρ.f 21) #[vu, .int .i64 (i : Int), v1] w0 ro ((la, Ow vu (ρ.t 3) 1 (intR l)) :: (lb, Ow v1 (ρ.t 3) 1 (intR [x])) :: M)
      (fun u M1 => ∃ a c, u = .slice a (intR (insL l i x)).length c ∧ M1 = (la, Ow (.slice a (intR (insL l i x)).length c) (ρ.t 3) 1 (intR (insL l i x))) :: (lb, Ow v1 (ρ.t 3) 1 (intR [x])) :: M) := by
  intro W hI
  -- what stands in the two blocks
  obtain ⟨k0, hk0, hA0⟩ := hI.get
  have hI2 : Inv w0 ro ((lb, Ow v1 (ρ.t 3) 1 (intR [x])) :: (la, Ow vu (ρ.t 3) 1 (intR l)) :: M) W := hI.weak fun _ s => Sats.swap s
  obtain ⟨k1, hk1, hA1⟩ := hI2.get
  obtain ⟨_, hc1⟩ := hA1
  rcases hc1 with ⟨_, hn⟩ | ⟨vb, vc, curv, rfl, hvb, hvc, hvm, hvs, hvt⟩
  · simp [intR] at hn
  have hvW : W.heap[vb]? = some (.cells curv (ρ.t 3) (0, 0)) := hk1 _ _ hvb
  have hv0 : curv[0]? = some (iv x) := by
    have h := congrArg (·[0]?) hvt
    simp only [intR_length, List.length_cons, List.length_nil, intR_flat, List.map_cons, List.map_nil] at h
    rw [List.getElem?_take] at h
    simpa using h
  have hvs' : ∀ j v, [iv x][j]? = some v → W.cell? ⟨vb, 0 + j, none⟩ = some v := fun j v hj => by
    obtain rfl : j = 0 := by have := (List.getElem?_eq_some_iff.1 hj).1; simpa using this
    simp at hj; subst hj
    rw [cell_of_row W vb _ curv _ (0, 0) hvW]; exact hv0
  have h1v : ∀ v ∈ [iv x], v.oneCell' = true := fun v hv => by simp at hv; subst hv; rfl
  have h1c : ∀ v ∈ l.map iv, v.oneCell' = true := fun v hv => by obtain ⟨n, _, rfl⟩ := List.mem_map.1 hv; rfl
  have hll : (insL l i x).length = l.length + 1 := insL_length hi
  have fin : ∀ (g cap : Nat) (C : List Value) (W' : World) (e : Ending), e = .returned (.slice (some ⟨g, 0, none⟩) (l.length + 1) cap) → Inv w0 ro ((la, Ow (.slice (some ⟨g, 0, none⟩) (insL l i x).length cap) (ρ.t 3) 1 (intR (insL l i x))) :: (lb, Ow (.slice (some ⟨vb, 0, none⟩) (intR [x]).length vc) (ρ.t 3) 1 (intR [x])) :: M) W' →
      ∃ v M', e = .returned v ∧ (∃ a c, v = .slice a (intR (insL l i x)).length c ∧ M' = (la, Ow (.slice a (intR (insL l i x)).length c) (ρ.t 3) 1 (intR (insL l i x))) :: (lb, Ow (.slice (some ⟨vb, 0, none⟩) (intR [x]).length vc) (ρ.t 3) 1 (intR [x])) :: M) ∧ Inv w0 ro M' W' :=
    fun g cap C W' e he h => ⟨_, _, he, ⟨_, _, by rw [intR_length, hll], rfl⟩, by rw [intR_length]; exact h⟩
  rcases hA0.2 with ⟨hv, hn⟩ | ⟨g, cap, cur, hv, hg, hgc, hgm, hgs, hgt⟩
  · -- nil: a new block
    have : l = [] := by cases l with
      | nil => rfl
      | cons _ _ => simp [intR] at hn
    subst this
    subst hv
    obtain rfl : i = 0 := by simpa using hi
    refine (Any2.slices_Insert_int_end_grow L none 0 0 vb 0 1 vc [] [iv x] W (by decide) (by decide) (by decide) (by decide) rfl rfl (fun _ => rfl) (fun a h => by cases h) hvs' h1v).mono fun e W' ⟨he, hW⟩ => ?_
    subst hW
    have hge := grownCap_ge W (0 + 1) 0 (ρ.t 3)
    have hcm := grownCap_le_maxLen W (0 + 1) 0 (ρ.t 3) (by simp [maxLen])
    refine fin W.heap.size _ [] _ e he (turn_new (g := W.heap.size) (e := ρ.t 3) (C := [iv x] ++ (Builtin.zeroCells (Value.int .i64 0).cells (grownCap W (0 + 1) 0 (ρ.t 3) - (0 + 1))).toList) hI (by simp) ?_ ?_ rfl rfl rfl ?_)
    · have := heap_alloc_new W.drew (.cells (([] ++ [iv x]).toArray ++ Builtin.zeroCells (Value.int .i64 0).cells (grownCap W (0 + 1) 0 (ρ.t 3) - (0 + 1))) (ρ.t 3))
      refine this.trans ?_
      congr 2
      simp
    · intro j hj
      rcases Nat.lt_or_ge j W.heap.size with h | h
      · exact heap_alloc_old W.drew _ h
      · rw [Array.getElem?_eq_none h, Array.getElem?_eq_none]
        show (W.heap.push _).size ≤ j
        simp; omega
    · exact ow_block (by rw [hll]; exact hge) hcm (len_new 0 [iv x] rfl hge) (by rw [hll]; simp [insL])
  · subst hv
    have hgW : W.heap[g]? = some (.cells cur (ρ.t 3) (0, 0)) := hk0 _ _ hg
    simp only [intR_length, intR_flat, Nat.mul_one] at hgc hgs hgt
    have hlen : cur.toList.length = cap := by simpa using hgs
    have hcs : ∀ j v, (l.map iv)[j]? = some v → W.cell? ⟨g, 0 + j, none⟩ = some v := fun j v hj => by
      rw [cell_of_row W g _ cur _ (0, 0) hgW, Nat.zero_add]
      rw [← hgt, List.getElem?_take] at hj
      split at hj
      · simpa using hj
      · cases hj
    have hne : ∀ h, Hp.le h (hp W) → Ow (.slice (some ⟨g, 0, none⟩) (intR l).length cap) (ρ.t 3) 1 (intR l) h → h g ≠ none := fun h _ ⟨_, h2⟩ => by
      rcases h2 with ⟨h3, _⟩ | ⟨g2, _, _, h3, h4, _⟩
      · cases h3
      · cases h3; rw [h4]; simp
    have hI' : Inv w0 ro ((la, Ow (.slice (some ⟨g, 0, none⟩) (intR l).length cap) (ρ.t 3) 1 (intR l)) :: (lb, Ow (.slice (some ⟨vb, 0, none⟩) (intR [x]).length vc) (ρ.t 3) 1 (intR [x])) :: M) W := hI
    have hvbg : vb ≠ g := by
      intro e
      subst e
      obtain ⟨hh, _, _, _, h1, h2, _, _, hd, a1, h3, _, hl3, _, _, b1, _⟩ := hI'.own
      have x1 := hne h1 (Hp.le_trans ‹Hp.le h1 hh› ‹_›) a1
      obtain ⟨_, hb2⟩ := b1
      rcases hb2 with ⟨h5, _⟩ | ⟨g2, _, _, h5, h6, _⟩
      · cases h5
      · cases h5
        have x2 := hl3 _ _ h6
        rcases hd vb with y | y
        · exact x1 y
        · rw [x2] at y; cases y
    have hsa : W.shape? vb = some (ρ.t 3, curv.size) := by simp [World.shape?, hvW]
    have hsb : W.shape? g = some (ρ.t 3, cur.size) := by simp [World.shape?, hgW]
    have hfr : ∀ b c o, W.heap[b]? = some (.cells c (ρ.t 3) (0, 0)) → W.frozen? ⟨b, o, none⟩ = false := fun b c o h => by simp [World.frozen?, h]
    rw [intR_length l]
    rcases Nat.lt_or_ge i l.length with hlt | hge
    · rcases Nat.lt_or_ge cap (l.length + 1) with hroom | hroom
      · -- in the midst, no room
        refine (Any2.slices_Insert_int_grow L g 0 l.length cap i vb 0 1 vc (l.map iv) [iv x] W hlt (by decide) hgc (by omega) (by omega) (by simp) rfl hcs hvs' h1c h1v).mono fun e W' ⟨he, hW⟩ => ?_
        have hgr := grownCap_ge W (l.length + 1) cap (ρ.t 3)
        have hcm := grownCap_le_maxLen W (l.length + 1) cap (ρ.t 3) (by simp only [maxLen]; omega)
        have hnew := heap_alloc_new W (.cells (((l.map iv).take i).toArray ++ Builtin.zeroCells (Value.int .i64 0).cells (l.length + 1 - i) ++ Builtin.zeroCells (Value.int .i64 0).cells (grownCap W (l.length + 1) cap (ρ.t 3) - (l.length + 1))) (ρ.t 3))
        generalize hC0 : ((l.map iv).take i).toArray ++ Builtin.zeroCells (Value.int .i64 0).cells (l.length + 1 - i) ++ Builtin.zeroCells (Value.int .i64 0).cells (grownCap W (l.length + 1) cap (ρ.t 3) - (l.length + 1)) = C0 at hW hnew
        have hsz : C0.size = grownCap W (l.length + 1) cap (ρ.t 3) := by
          rw [← hC0]; simp [size_zeroCells, Value.cells]; omega
        have htk : C0.toList.take i = (l.map iv).take i := by
          rw [← hC0]; simp only [Array.toList_append, List.append_assoc]; exact List.take_left' (by simp; omega)
        obtain ⟨a1, a2, a3, a4, a5⟩ := setCells_at [iv x] i (W.alloc (.cells C0 (ρ.t 3))).drew C0 hnew (by simp; omega)
        obtain ⟨b1, b2, b3, b4, b5⟩ := setCells_at ((l.map iv).drop i) (i + 1) ((W.alloc (.cells C0 (ρ.t 3))).drew.setCells W.heap.size i [iv x]).drew _ a1 (by simp; omega)
        obtain ⟨t1, t2⟩ := take_mid (v := iv x) (C := C0.toList) (cs := l.map iv) (i := i) (n := l.length) hi (by simp) (by rw [show C0.toList.length = C0.size from Array.length_toList, hsz]; exact hgr) htk
        subst hW
        refine fin W.heap.size _ [] _ e he (turn_new (g := W.heap.size) (e := ρ.t 3) hI (by simp) b1 ?_ (b3.trans a3) (b4.trans a4) (b5.trans a5) ?_)
        · intro j hj
          refine ((b2 j hj).trans (a2 j hj)).trans ?_
          rcases Nat.lt_or_ge j W.heap.size with h | h
          · exact heap_alloc_old W _ h
          · rw [Array.getElem?_eq_none h, Array.getElem?_eq_none]
            show (W.heap.push _).size ≤ j
            simp; omega
        · refine ow_block (by rw [hll]; exact hgr) hcm ?_ ?_
          · have := t2; simp only [List.toList_toArray, List.length_map, List.length_drop, List.length_cons, List.length_nil] at this ⊢; rw [this]; simpa using hsz
          · rw [hll, insL_iv]; have := t1; simp only [List.toList_toArray, List.length_map, List.length_drop, List.length_cons, List.length_nil] at this ⊢; exact this
      · -- in the midst, in place
        refine (Any2.slices_Insert_int_shift L g 0 l.length cap i vb 0 1 vc (l.map iv) [iv x] W hlt (by decide) hroom (by have := hgm; simp only [maxLen] at this; omega) hvbg (by simp) rfl hcs
          (fun j hj => by rw [cell_of_row W g _ cur _ (0, 0) hgW]; simp; omega) (fun j _ => hfr g cur _ hgW) hvs' h1c h1v (ρ.t 3) (ρ.t 3) curv.size cur.size hsa hsb (by omega) (hfr vb curv _ hvW) (hfr vb curv _ hvW)).mono fun e W' ⟨he, hW⟩ => ?_
        obtain ⟨a1, a2, a3, a4, a5⟩ := setCells_at ((l.map iv).drop i) (0 + (i + 1)) W.drew cur hgW (by simp; omega)
        obtain ⟨b1, b2, b3, b4, b5⟩ := setCells_at [iv x] (0 + i) (W.drew.setCells g (0 + (i + 1)) ((l.map iv).drop i)) _ a1 (by simp; omega)
        obtain ⟨t1, t2⟩ := take_shift (v := iv x) (C := cur.toList) (cs := l.map iv) (i := i) (n := l.length) hi (by simp) (by omega) hgt
        subst hW
        have e1 : i + 1 + (l.length - i) = l.length + 1 := by omega
        refine fin g cap [] _ e he (turn_in (g := g) (e := ρ.t 3) hI' hne b1 (fun j hj => (b2 j hj).trans (a2 j hj)) (b3.trans a3) (b4.trans a4) (b5.trans a5) (ow_block (by rw [hll]; exact hroom) hgm ?_ ?_))
        · have := t2; simp only [List.toList_toArray, List.length_map, List.length_drop, List.length_cons, List.length_nil, Nat.zero_add, e1] at this ⊢; rw [this]; exact hlen
        · rw [hll, insL_iv]; have := t1; simp only [List.toList_toArray, List.length_map, List.length_drop, List.length_cons, List.length_nil, Nat.zero_add, e1] at this ⊢; exact this
    · obtain rfl : i = l.length := by omega
      rcases Nat.lt_or_ge cap (l.length + 1) with hroom | hroom
      · -- at the end, no room
        refine (Any2.slices_Insert_int_end_grow L (some ⟨g, 0, none⟩) l.length cap vb 0 1 vc (l.map iv) [iv x] W (by decide) hgc (by omega) (by omega) (by simp) rfl (fun h => by cases h) (fun a h j v hj => by cases h; have := hcs j v hj; simpa [addr_add] using this) hvs' h1v).mono fun e W' ⟨he, hW⟩ => ?_
        have hgr := grownCap_ge W (l.length + 1) cap (ρ.t 3)
        have hcm := grownCap_le_maxLen W (l.length + 1) cap (ρ.t 3) (by simp only [maxLen]; omega)
        subst hW
        refine fin W.heap.size _ [] _ e he (turn_new (g := W.heap.size) (e := ρ.t 3) (C := (l.map iv ++ [iv x]) ++ (Builtin.zeroCells (Value.int .i64 0).cells (grownCap W (l.length + 1) cap (ρ.t 3) - (l.length + 1))).toList) hI (by simp) ?_ ?_ rfl rfl rfl ?_)
        · refine (heap_alloc_new W.drew _).trans ?_
          congr 2
          apply Array.ext'
          simp
        · intro j hj
          rcases Nat.lt_or_ge j W.heap.size with h | h
          · exact heap_alloc_old W.drew _ h
          · rw [Array.getElem?_eq_none h, Array.getElem?_eq_none]
            show (W.heap.push _).size ≤ j
            simp; omega
        · exact ow_block (by rw [hll]; exact hgr) hcm (by exact len_new l.length (l.map iv ++ [iv x]) (by simp) hgr) (by rw [hll, insL_iv, List.take_left' (by simp)]; simp [List.take_of_length_le, List.drop_of_length_le])
      · -- at the end, in place
        refine (Any2.slices_Insert_int_end_room L g 0 l.length cap vb 0 1 vc [iv x] W (by decide) hroom (by have := hgm; simp only [maxLen] at this; omega) rfl (fun j hj => by rw [cell_of_row W g _ cur _ (0, 0) hgW]; simp; omega) (fun j _ => hfr g cur _ hgW) hvs' h1v).mono fun e W' ⟨he, hW⟩ => ?_
        obtain ⟨a1, a2, a3, a4, a5⟩ := setCells_at [iv x] (0 + l.length) W cur hgW (by simp; omega)
        subst hW
        refine fin g cap [] _ e he (turn_in (g := g) (e := ρ.t 3) hI' hne a1 a2 a3 a4 a5 (ow_block (by rw [hll]; exact hroom) hgm ?_ ?_))
        · simp only [List.length_append, List.length_take, List.length_drop, List.length_cons, List.length_nil]; omega
        · have e3 : (l.map iv).take l.length = l.map iv := List.take_of_length_le (by simp)
          have e4 : (l.map iv).drop l.length = [] := List.drop_of_length_le (by simp)
          rw [hll, insL_iv, Nat.zero_add, hgt, e3, e4, List.take_left' (by simp)]
end
end Go.Sx
namespace Go.Sx
open Go Go.Db Go.Proofs Go.Shelf
/-- how many stand below -/
def posI (l : List Int) (x : Int) : Nat := l.countP (· < x)
theorem posI_le (l : List Int) (x : Int) : posI l x ≤ l.length := List.countP_le_length
theorem bsearch_pu {P : Program} {ρ : Ren} {w0 : World} {ro : Hp} {M : Res} (L : Lays2.n25 P ρ) (v : Value) (l : List Int) (x : Int) (hR : RS ro v 1 (intR l)) (hl : l.length ≤ 1000000) (hs : l.Pairwise (· ≤ ·)) :
    Pu P (ρ.f 25) #[v, .int .i64 x] w0 ro M (.tuple #[.int .i64 (posI l x : Nat), .bool (l.contains x)]) := by
  intro W hI
  obtain ⟨a, c, rfl, _⟩ := hR.shape
  have hlR := intR_length l
  by_cases hn : l = []
  · subst hn
    exact (Any.slices_BinarySearch_int_empty L a c x W).mono fun e W' ⟨h1, h2⟩ => ⟨h1, by rw [h2]; exact hI⟩
  · obtain ⟨c', cs, T, fr, hv, hr, hm⟩ := hR.mem (by intro h; rw [h] at hlR; exact hn (List.length_eq_zero_iff.1 hlR.symm))
    have hW := hI.roLe _ _ hr
    generalize slB (Value.slice a (intR l).length c) = bb at hv hr hm hW
    generalize slO (Value.slice a (intR l).length c) = oo at hv hr hm hW
    rw [hv, hlR]
    have htk : l.take l.length = l := List.take_length
    refine (Any.slices_BinarySearch_int L _ _ l.length c' l x W (Nat.le_refl _) (by omega) (fun j hj => ?_) (by rw [htk]; exact hs)).mono fun e W' ⟨h1, q, h2⟩ => ?_
    · rw [cell_of_row W _ _ cs T fr hW]
      have hg : l[j]? = some (l.getD j 0) := by rw [List.getD_eq_getElem?_getD, List.getElem?_eq_getElem hj]; rfl
      have := hm j _ (by simpa using intR_get hg) 0 _ rfl
      simp only [Nat.mul_one, Nat.add_zero] at this
      exact this
    · rw [htk] at h1
      exact ⟨h1, by rw [h2]; exact hI.same rfl rfl rfl (Hp.le_refl _)⟩
end Go.Sx
namespace Go.Db
open Go Go.Sx
def ixI (l : List Int) (h : Int) : Int := if h ∈ l then (l.idxOf h : Int) else -1
theorem ixI_none {l : List Int} {h : Int} (hn : ∀ j, j < l.length → ∀ q, l[j]? = some q → q ≠ h) : ixI l h = -1 := by
  refine if_neg fun hm => ?_
  obtain ⟨j, hj, he⟩ := List.mem_iff_getElem.1 hm
  exact hn j hj _ (List.getElem?_eq_getElem hj) he
theorem ixI_some {l : List Int} {h : Int} {k : Nat} (hn : ∀ j, j < k → ∀ q, l[j]? = some q → q ≠ h) (hk : l[k]? = some h) : ixI l h = (k : Int) := by
  obtain ⟨hlt, he⟩ := List.getElem?_eq_some_iff.1 hk
  have hm : h ∈ l := List.mem_iff_getElem.2 ⟨k, hlt, he⟩
  unfold ixI
  rw [if_pos hm]
  congr 1
  have h1 := List.idxOf_lt_length_of_mem hm
  have h2 : l[l.idxOf h]'h1 = h := List.getElem_idxOf h1
  rcases Nat.lt_trichotomy (l.idxOf h) k with g | g | g
  · exact absurd h2 (hn _ g _ (List.getElem?_eq_getElem h1))
  · exact g
  · have := List.not_of_lt_findIdx (p := (· == h)) g
    simp [he] at this
theorem ixI_has (l : List Int) (h : Int) : Value.bool (decide (ixI l h ≥ 0)) = .bool (decide (h ∈ l)) := by
  congr 1
  unfold ixI
  by_cases g : h ∈ l
  · simp [g]
  · simp [g]
/-- what is wrong with a claim -/
def clX (x : SideR) (c : ClaimD) : Int :=
  if ¬ x.ceased then 14 else if c.account ∈ x.used then 13 else if ¬ goodLeaf x.root c.account (leafOf c.account c.state) c.proof.toList then 12 else if x.balance < c.state.amount then 5 else 0
noncomputable def clE (l : List SideR) (c : ClaimD) : Int :=
  if ¬ mayClaim c then 4 else match l[c.side.toNat]? with
  | none => 8
  | some x => clX x c
abbrev clTx (c : ClaimD) : TxD := { TxD.zero with kind := 5, claim := c }
theorem clTx_may (c : ClaimD) : mayTx (clTx c) ↔ mayClaim c := by
  constructor
  · exact fun h => h.k5 rfl
  · exact fun h => .inr <| .inr <| .inr <| .inr ⟨rfl, h, rfl⟩
theorem clTx_sm (c : ClaimD) : TxSm (clTx c) := ⟨Nat.zero_le _, Nat.zero_le _, Nat.zero_le _, Nat.zero_le _, Nat.zero_le _, Nat.zero_le _⟩
abbrev vN : Value := .slice none 0 0
abbrev txvN : TxV := ⟨vN, vN, vN, vN, vN, vN⟩
theorem clTx_rs {ro : Hp} (c : ClaimD) : TxRS ro (clTx c) txvN := ⟨RS.none_, RS.none_, RS.none_, RS.none_, RS.none_, RS.none_⟩
theorem clE_no {l : List SideR} {c : ClaimD} (h : ¬ mayClaim c) : clE l c = 4 := if_pos h
theorem clE_none {l : List SideR} {c : ClaimD} (h : mayClaim c) (hl : l.length ≤ c.side) : clE l c = 8 := by
  unfold clE
  rw [if_neg (not_not_intro h), List.getElem?_eq_none (by omega)]
theorem clE_at {l : List SideR} {c : ClaimD} {x : SideR} (h : mayClaim c) (hx : l[c.side.toNat]? = some x) : clE l c = clX x c := by
  unfold clE
  rw [if_neg (not_not_intro h), hx]
theorem clX_0 {x : SideR} {c : ClaimD} (h : clX x c = 0) : x.ceased = true ∧ c.account ∉ x.used ∧ goodLeaf x.root c.account (leafOf c.account c.state) c.proof.toList = true ∧ c.state.amount ≤ x.balance := by
  unfold clX at h
  split at h; · cases h
  rename_i h1
  split at h; · cases h
  rename_i h2
  split at h; · cases h
  rename_i h3
  split at h; · cases h
  rename_i h4
  exact ⟨by simpa using h1, h2, by simpa using h3, by omega⟩
/-- a record behind a claim -/
def clR (x : SideR) (c : ClaimD) : SideR := { x with balance := x.balance - c.state.amount, claimed := x.claimed + c.state.amount, used := insL x.used (posI x.used c.account) c.account }
/-- what a claim's taking answers, and the coins behind it -/
noncomputable def tkE (l : List SideR) (u : UD) (t : TxD) (h : Int) : Int :=
  if ¬ mayTx t ∨ t.kind ≠ 5 then 4 else if clE l t.claim ≠ 0 then clE l t.claim else (outsTo (hOf 120 [encTx t]) h false u 0 [⟨t.claim.state.owner, t.claim.state.amount⟩]).1
noncomputable def tkU (l : List SideR) (u : UD) (t : TxD) (h : Int) : UD :=
  if ¬ mayTx t ∨ t.kind ≠ 5 then u else if clE l t.claim ≠ 0 then u else (outsTo (hOf 120 [encTx t]) h false u 0 [⟨t.claim.state.owner, t.claim.state.amount⟩]).2
noncomputable def tkS (l : List SideR) (u : UD) (t : TxD) (h : Int) : List SideR := if tkE l u t h = 0 then l.modify t.claim.side.toNat fun x => clR x t.claim else l
end Go.Db
namespace Go.Db
open Go Go.Sx
theorem insL_mem {l : List Int} {i : Nat} {x y : Int} : y ∈ insL l i x ↔ y = x ∨ y ∈ l := by
  unfold insL
  rw [List.mem_append, List.mem_cons]
  constructor
  · rintro (h | h | h)
    · exact .inr (List.mem_of_mem_take h)
    · exact .inl h
    · exact .inr (List.mem_of_mem_drop h)
  · rintro (h | h)
    · exact .inr (.inl h)
    · rw [← List.take_append_drop i l] at h
      rcases List.mem_append.1 h with h | h
      · exact .inl h
      · exact .inr (.inr h)
theorem insL_cons0 (a : Int) (l : List Int) (x : Int) : insL (a :: l) 0 x = x :: a :: l := rfl
theorem insL_consS (a : Int) (l : List Int) (n : Nat) (x : Int) : insL (a :: l) (n + 1) x = a :: insL l n x := rfl
theorem posI_zero {l : List Int} {x : Int} (h : ∀ y ∈ l, x ≤ y) : posI l x = 0 := by
  unfold posI
  rw [List.countP_eq_zero]
  intro y hy
  have := h y hy
  simp; omega
theorem ins_srt {l : List Int} {x : Int} (hs : l.Pairwise (· < ·)) (hn : x ∉ l) : (insL l (posI l x) x).Pairwise (· < ·) := by
  induction l with
  | nil => simp [insL]
  | cons a l ih =>
    rw [List.pairwise_cons] at hs
    rw [List.mem_cons, not_or] at hn
    by_cases h : a < x
    · have e : posI (a :: l) x = posI l x + 1 := by simp [posI, h]
      rw [e, insL_consS, List.pairwise_cons]
      refine ⟨fun y hy => ?_, ih hs.2 hn.2⟩
      rcases insL_mem.1 hy with rfl | hy
      · exact h
      · exact hs.1 y hy
    · have h2 : x < a := by have := hn.1; omega
      have e : posI (a :: l) x = 0 := posI_zero fun y hy => by
        rcases List.mem_cons.1 hy with rfl | hy
        · omega
        · have := hs.1 y hy; omega
      rw [e, insL_cons0, List.pairwise_cons]
      refine ⟨fun y hy => ?_, List.pairwise_cons.2 hs⟩
      rcases List.mem_cons.1 hy with rfl | hy
      · exact h2
      · have := hs.1 y hy; omega
theorem srt_le {l : List Int} (hs : l.Pairwise (· < ·)) : l.Pairwise (· ≤ ·) := hs.imp fun h => by omega
theorem clR_sm {x : SideR} {c : ClaimD} (h : SideSm x) (h0 : clX x c = 0) (h1 : 0 ≤ c.state.amount) (hu : x.used.length < 1000) : SideSm (clR x c) := by
  obtain ⟨_, hn, _, hb⟩ := clX_0 h0
  refine ⟨?_, h.m, ?_, ?_, h.le, h.k, h.o, h.g, ?_, ins_srt h.srt hn⟩
  · show 0 ≤ x.balance - c.state.amount; omega
  · have := h.c; show 0 ≤ x.claimed + c.state.amount; omega
  · have := h.f; show x.forwarded = x.balance - c.state.amount + x.matured + (x.claimed + c.state.amount); omega
  · show (insL x.used (posI x.used c.account) c.account).length ≤ 1000
    rw [insL_length (posI_le _ _)]; omega
theorem modify_set {α : Type} {l : List α} {i : Nat} {x : α} (f : α → α) (hx : l[i]? = some x) : l.modify i f = l.set i (f x) := by
  obtain ⟨h1, h2⟩ := List.getElem?_eq_some_iff.1 hx
  subst h2
  apply List.ext_getElem?
  intro m
  rw [List.getElem?_modify, List.getElem?_set]
  by_cases e : i = m
  · subst e; simp [h1]
  · simp [e]
theorem tkE_no {l : List SideR} {u : UD} {t : TxD} {h : Int} (hn : ¬ mayTx t ∨ t.kind ≠ 5) : tkE l u t h = 4 ∧ tkU l u t h = u ∧ tkS l u t h = l := by
  have e : tkE l u t h = 4 := if_pos hn
  exact ⟨e, if_pos hn, if_neg (by rw [e]; decide)⟩
theorem tkE_bad {l : List SideR} {u : UD} {t : TxD} {h : Int} (hm : mayTx t) (hk : t.kind = 5) (hn : clE l t.claim ≠ 0) : tkE l u t h = clE l t.claim ∧ tkU l u t h = u ∧ tkS l u t h = l := by
  have hno : ¬ (¬ mayTx t ∨ t.kind ≠ 5) := by simp [hm, hk]
  have e : tkE l u t h = clE l t.claim := by unfold tkE; rw [if_neg hno, if_pos hn]
  exact ⟨e, by unfold tkU; rw [if_neg hno, if_pos hn], if_neg (by rw [e]; exact hn)⟩
theorem tkE_ok {l : List SideR} {u : UD} {t : TxD} {h : Int} (hm : mayTx t) (hk : t.kind = 5) (h0 : clE l t.claim = 0) :
    tkE l u t h = (outsTo (hOf 120 [encTx t]) h false u 0 [⟨t.claim.state.owner, t.claim.state.amount⟩]).1 ∧ tkU l u t h = (outsTo (hOf 120 [encTx t]) h false u 0 [⟨t.claim.state.owner, t.claim.state.amount⟩]).2 := by
  have hno : ¬ (¬ mayTx t ∨ t.kind ≠ 5) := by simp [hm, hk]
  exact ⟨by unfold tkE; rw [if_neg hno, if_neg (by simp [h0])], by unfold tkU; rw [if_neg hno, if_neg (by simp [h0])]⟩
end Go.Db
namespace Go.Db
open Go Go.Sx
theorem out_cz (a : Hash) (n : Int) : Cz (ag (OutD.lv ⟨a, n⟩)) 9 := cz_ag (vs := OutD.lv ⟨a, n⟩) (by kernel_rfl)
end Go.Db
namespace Go.Db
open Go Go.Sx
def fairP (at_ am : List UInt16) : Prop := (at_.length ≤ 12 ∧ at_.length ≤ am.length ∧ am.length ≤ 50) ∧ at_.Nodup
instance {at_ am : List UInt16} : Decidable (fairP at_ am) := by unfold fairP; infer_instance
theorem nodup_step {l : List UInt16} {k : Nat} {x : UInt16} (h : (l.take k).Nodup) (hx : l[k]? = some x) (hn : ∀ j, j < k → ∀ y, l[j]? = some y → y ≠ x) : (l.take (k + 1)).Nodup := by
  rw [List.take_add_one, hx]
  simp only [Option.toList_some]
  rw [List.nodup_append]
  refine ⟨h, by simp, fun a ha b hb => ?_⟩
  simp at hb; subst hb
  obtain ⟨j, hj, he⟩ := List.mem_iff_getElem.1 ha
  rw [List.length_take] at hj
  rw [List.getElem_take] at he
  exact hn j (by omega) a (by rw [List.getElem?_eq_getElem (by omega), he])
theorem nodup_not {l : List UInt16} {j k : Nat} {x : UInt16} (h : j < k) (hj : l[j]? = some x) (hk : l[k]? = some x) : ¬ l.Nodup := fun hn => by
  obtain ⟨h1, e1⟩ := List.getElem?_eq_some_iff.1 hj
  obtain ⟨h2, e2⟩ := List.getElem?_eq_some_iff.1 hk
  exact List.pairwise_iff_getElem.1 hn j k h1 h2 h (e1.trans e2.symm)
theorem uv_inj {x y : UInt16} : ((x.toNat : Int) = (y.toNat : Int)) ↔ x = y := by
  constructor
  · intro h; exact UInt16.toNat_inj.1 (by omega)
  · rintro rfl; rfl
theorem proof_length (l : LL) (i : Nat) : (proof l i).length = 16 := by simp [proof, proofTo]
def proofV (l : LL) (i : Nat) : Vector Hash 16 := ⟨(proof l i).toArray, by simp [proof_length]⟩
def acTree (at_ am : List UInt16) : LL := treeTo at_ am at_.length
/-- a claim that is right -/
def claim0 (at_ am : List UInt16) (i : Nat) : ClaimD :=
  if i < at_.length then ⟨0, ((at_.getD i 0).toNat : Int), acState am i, proofV (acTree at_ am) (at_.getD i 0).toNat⟩ else ClaimD.zero
/-- the first record of what is filled -/
noncomputable def fill1 (money : Int) : SideR := if 1 ≤ money ∧ money ≤ maxM then fwdR (crR (madeP 3 2) 3) money else crR (madeP 3 2) 3
theorem fillS_one (hP : mayP (madeP 3 2)) (money : Int) : fillS [money] = [fill1 money] := by
  have hc : crS [] (madeP 3 2) 3 = [crR (madeP 3 2) 3] := by
    have h0 : crE [] (madeP 3 2) = 0 := by unfold crE; rw [if_neg (not_not_intro hP), if_neg (by simp)]
    unfold crS
    rw [if_pos h0]; rfl
  show fwdS (crS [] (madeP 3 2) 3) (fillF [money] 0) = _
  rw [hc]
  have hE : fwdE [crR (madeP 3 2) 3] (fillF [money] 0) = if money < 1 ∨ maxM < money ∨ maxM - money < 0 ∨ maxM - money < 0 then 5 else 0 := by
    rw [fwdE_at (x := crR (madeP 3 2) 3) (Int.le_refl 0) rfl]
    rfl
  unfold fill1
  by_cases h : 1 ≤ money ∧ money ≤ maxM
  · rw [if_pos h]
    rw [if_neg (by omega)] at hE
    rw [fwdS_at (x := crR (madeP 3 2) 3) hE rfl]; rfl
  · rw [if_neg h]
    rw [if_pos (by omega)] at hE
    exact fwdS_no hE (by decide)
/-- .. and behind its being filled for the cease laws -/
def filA (x : SideR) (ceased : Bool) (root : Hash) : SideR := { x with ceased := ceased, root := root }
noncomputable def fillA (at_ am : List UInt16) (money : Int) (ceased : Bool) : SideR := filA (fill1 money) ceased (top (acTree at_ am))
end Go.Db
namespace Go.Db
open Go Go.Sx
theorem map_one {l : List RecV} {x : SideR} (h : l.map (·.s) = [x]) : ∃ r : RecV, l = [r] ∧ r.s = x := by
  cases l with
  | nil => simp at h
  | cons a t =>
    rw [List.map_cons, List.cons.injEq, List.map_eq_nil_iff] at h
    obtain ⟨h1, rfl⟩ := h
    exact ⟨a, rfl, h1⟩
theorem proofV_hvs (l : LL) (i : Nat) : ag (uni hv 8 (proof l i)) = hvs (proofV l i) := rfl
theorem acTree_sm {at_ am : List UInt16} (h : at_.length ≤ 12) : (acTree at_ am).length ≤ 1000000 := by
  have := treeTo_sm at_ am (k := at_.length) h
  unfold acTree; omega
theorem filA_sm {x : SideR} {c : Bool} {r : Hash} (h : SideSm x) : SideSm (filA x c r) := ⟨h.b, h.m, h.c, h.f, h.le, h.k, h.o, h.g, h.u, h.srt⟩
theorem filA_rs {ro : Hp} {x : SideR} {c : Bool} {r : Hash} {vk vo vs vu : Value} (h : SideRS ro x vk vo vs vu) : SideRS ro (filA x c r) vk vo vs vu := ⟨h.k, h.o, h.g, h.u⟩
end Go.Db
namespace Go.Db
open Go Go.Sx
theorem over_00 : over h0 h0 = h0 := by unfold over; simp
theorem node_none {l : LL} {f h : Nat} (hs : someIn l f h = false) : node l f h = h0 := by cases h <;> simp [node, hs]
theorem someIn_iff {l : LL} {f h : Nat} : someIn l f h = true ↔ ∃ p ∈ l, f ≤ p.1 ∧ p.1 < f + 2 ^ h := by
  simp [someIn, inSpan, List.any_eq_true]
theorem node_succ (l : LL) (f h : Nat) : node l f (h + 1) = over (node l f h) (node l (f + 2 ^ h) h) := by
  by_cases hs : someIn l f (h + 1) = true
  · simp [node, hs]
  · have h1 : someIn l f h = false := by
      rw [Bool.eq_false_iff]; intro hh
      obtain ⟨p, hp, a, b⟩ := someIn_iff.1 hh
      exact hs (someIn_iff.2 ⟨p, hp, a, by rw [Nat.pow_succ]; omega⟩)
    have h2 : someIn l (f + 2 ^ h) h = false := by
      rw [Bool.eq_false_iff]; intro hh
      obtain ⟨p, hp, a, b⟩ := someIn_iff.1 hh
      exact hs (someIn_iff.2 ⟨p, hp, by omega, by rw [Nat.pow_succ]; omega⟩)
    rw [node_none (by simpa using hs), node_none h1, node_none h2, over_00]
theorem node_zero (l : LL) (i : Nat) : node l i 0 = getL l i := by
  by_cases hs : someIn l i 0 = true
  · simp [node, hs]
  · rw [node_none (by simpa using hs), getL_none]
    intro j hj p hp e
    exact hs (someIn_iff.2 ⟨p, List.mem_of_getElem? hp, by omega, by rw [Nat.pow_zero]; omega⟩)
theorem xor_half (a : Nat) : (a ^^^ 1) / 2 = a / 2 := by rw [Nat.xor_div_two]; simp
theorem xor_mod (a : Nat) : (a ^^^ 1) % 2 = 1 - a % 2 := by
  have h := Nat.xor_mod_two_eq_one (a := a) (b := 1)
  rcases Nat.mod_two_eq_zero_or_one a with e | e <;> rcases Nat.mod_two_eq_zero_or_one (a ^^^ 1) with f | f <;> simp [e, f] at h ⊢
theorem xor_even {a : Nat} (h : a % 2 = 0) : a ^^^ 1 = a + 1 := by have h1 := xor_half a; have h2 := xor_mod a; omega
theorem xor_odd {a : Nat} (h : a % 2 = 1) : a ^^^ 1 = a - 1 := by have h1 := xor_half a; have h2 := xor_mod a; omega
theorem proof_getD (l : LL) (i : Nat) {k : Nat} (h : k < 16) : (proof l i).getD k h0 = node l ((i / 2 ^ k ^^^ 1) * 2 ^ k) k := by
  rw [List.getD_eq_getElem?_getD, proof, proofTo, List.getElem?_map, List.getElem?_range h]; rfl
theorem up_node (l : LL) (i : Nat) : ∀ k, k ≤ 16 → upTo i (proof l i) (getL l i) k = node l (i / 2 ^ k * 2 ^ k) k
  | 0, _ => by rw [Nat.pow_zero, Nat.div_one, Nat.mul_one, node_zero]; rfl
  | k + 1, hk => by
    have ih := up_node l i k (by omega)
    have e1 : i / 2 ^ (k + 1) = i / 2 ^ k / 2 := by rw [Nat.pow_succ, Nat.div_div_eq_div_mul]
    rw [upTo, proof_getD l i (by omega), ih, node_succ, e1]
    generalize i / 2 ^ k = a
    have e2 : a / 2 * 2 ^ (k + 1) = a / 2 * 2 * 2 ^ k := by rw [Nat.pow_succ, Nat.mul_comm (2 ^ k) 2, Nat.mul_assoc]
    rw [e2]
    by_cases h : a % 2 = 1
    · rw [if_pos h, xor_odd h, show a - 1 = a / 2 * 2 by omega]
      have e3 : a * 2 ^ k = a / 2 * 2 * 2 ^ k + 2 ^ k := by
        have : a = a / 2 * 2 + 1 := by omega
        calc a * 2 ^ k = (a / 2 * 2 + 1) * 2 ^ k := by rw [← this]
          _ = _ := by rw [Nat.add_mul, Nat.one_mul]
      rw [e3]
    · rw [if_neg h, xor_even (by omega)]
      have e3 : a = a / 2 * 2 := by omega
      rw [← e3, Nat.add_mul, Nat.one_mul]
theorem proof_good (l : LL) (i : Nat) (hi : i < 65536) : goodLeaf (top l) (i : Int) (getL l i) (proof l i) = true := by
  unfold goodLeaf
  rw [Int.toNat_natCast, up_node l i 16 (Nat.le_refl _), Nat.div_eq_of_lt (by omega)]
  simp [top]; omega
end Go.Db
namespace Go.Db
open Go Go.Sx
theorem getL_filter (l : LL) (j : Nat) : getL l j = (((l.filter fun p => p.1 == j).head?).map (·.2)).getD h0 := by rw [List.head?_filter]; rfl
theorem filter_sub {l : LL} {i j : Nat} (h : j ≠ i) : (l.filter fun p => p.1 == j) = (l.filter fun p => p.1 != i).filter fun p => p.1 == j := by
  rw [List.filter_filter]
  apply List.filter_congr
  intro p _
  by_cases e : p.1 = j
  · subst e; simp [h]
  · simp [e]
def putF (i : Nat) (leaf : Hash) (b : Bool) : LL := if leaf = h0 then [] else if b then [(i, leaf)] else []
theorem putTo_ne (l : LL) (i : Nat) (leaf : Hash) : ∀ k, k ≤ l.length → ((putTo l i leaf k).1.filter fun p => p.1 != i) = (l.take k).filter fun p => p.1 != i
  | 0, _ => rfl
  | k + 1, hk => by
    have ih := putTo_ne l i leaf k (by omega)
    obtain ⟨p, hp⟩ : ∃ p, l[k]? = some p := ⟨_, List.getElem?_eq_getElem (by omega)⟩
    rw [putTo_next hp, List.take_add_one, hp, List.filter_append]
    have hA : ((putA i leaf p (putTo l i leaf k)).1.filter fun p => p.1 != i) = (l.take k).filter fun p => p.1 != i := by
      unfold putA; split
      · rw [List.filter_append, ih]; simp
      · exact ih
    unfold putB
    split
    · rename_i h; rw [List.filter_append, hA]; simp
    · rename_i h
      have h := Decidable.not_not.1 h
      rw [hA]; simp [h]
theorem putTo_eq (l : LL) (i : Nat) (leaf : Hash) : ∀ k, k ≤ l.length → ((putTo l i leaf k).1.filter fun p => p.1 == i) = putF i leaf (putTo l i leaf k).2 ∧ (leaf = h0 → (putTo l i leaf k).2 = true)
  | 0, _ => by
    unfold putF putTo
    by_cases h : leaf = h0
    · simp [h]
    · simp [h]
  | k + 1, hk => by
    obtain ⟨ih, ih2⟩ := putTo_eq l i leaf k (by omega)
    obtain ⟨p, hp⟩ : ∃ p, l[k]? = some p := ⟨_, List.getElem?_eq_getElem (by omega)⟩
    rw [putTo_next hp]
    have hA : ((putA i leaf p (putTo l i leaf k)).1.filter fun p => p.1 == i) = putF i leaf (putA i leaf p (putTo l i leaf k)).2 ∧ (leaf = h0 → (putA i leaf p (putTo l i leaf k)).2 = true) := by
      unfold putA; split
      · rename_i h
        refine ⟨?_, fun _ => rfl⟩
        have hz : leaf ≠ h0 := fun e => by rw [ih2 e] at h; cases h.1
        rw [List.filter_append, ih, h.1]
        simp [putF, hz]
      · exact ⟨ih, ih2⟩
    unfold putB
    split
    · rename_i h
      refine ⟨?_, hA.2⟩
      rw [List.filter_append, hA.1]
      simp [h]
    · exact hA
theorem put_ne (l : LL) (i : Nat) (leaf : Hash) : ((put l i leaf).filter fun p => p.1 != i) = l.filter fun p => p.1 != i := by
  have h := putTo_ne l i leaf l.length (Nat.le_refl _)
  rw [List.take_length] at h
  unfold put
  dsimp only
  split
  · rw [List.filter_append, h]; simp
  · exact h
theorem put_eq (l : LL) (i : Nat) (leaf : Hash) : ((put l i leaf).filter fun p => p.1 == i) = putF i leaf true := by
  obtain ⟨h, h2⟩ := putTo_eq l i leaf l.length (Nat.le_refl _)
  unfold put
  dsimp only
  split
  · rename_i hf
    have hz : leaf ≠ h0 := fun e => by rw [h2 e] at hf; cases hf
    rw [List.filter_append, h, hf]
    simp [putF, hz]
  · rename_i hf
    rw [h]
    simp at hf
    rw [hf]
theorem getL_put_eq (l : LL) (i : Nat) (leaf : Hash) : getL (put l i leaf) i = leaf := by
  rw [getL_filter, put_eq]
  unfold putF
  by_cases h : leaf = h0
  · simp [h]
  · simp [h]
theorem getL_put_ne (l : LL) {i j : Nat} (leaf : Hash) (h : j ≠ i) : getL (put l i leaf) j = getL l j := by
  rw [getL_filter, getL_filter, filter_sub h, put_ne, ← filter_sub h]
theorem getL_tree {at_ am : List UInt16} (hn : at_.Nodup) {k : Nat} : ∀ n, n ≤ at_.length → k < n → getL (treeTo at_ am n) (at_.getD k 0).toNat = leafOf ((at_.getD k 0).toNat : Int) (acState am k)
  | 0, _, h => by omega
  | n + 1, hl, h => by
    rw [treeTo]
    by_cases e : k = n
    · subst e; exact getL_put_eq _ _ _
    · rw [getL_put_ne]
      · exact getL_tree hn n (by omega) (by omega)
      · intro he
        have h1 : at_.getD k 0 = at_.getD n 0 := UInt16.toNat_inj.1 he
        rw [List.getD_eq_getElem?_getD, List.getD_eq_getElem?_getD, List.getElem?_eq_getElem (by omega), List.getElem?_eq_getElem (by omega)] at h1
        exact List.pairwise_iff_getElem.1 hn k n (by omega) (by omega) (by omega) h1
/-- an account's claim has a good proof -/
theorem claim0_good {at_ am : List UInt16} (hf : fairP at_ am) {i : Nat} (hi : i < at_.length) :
    goodLeaf (top (acTree at_ am)) (claim0 at_ am i).account (leafOf (claim0 at_ am i).account (claim0 at_ am i).state) (claim0 at_ am i).proof.toList = true := by
  unfold claim0
  rw [if_pos hi]
  have h := proof_good (acTree at_ am) (at_.getD i 0).toNat (UInt16.toNat_lt _)
  rw [show getL (acTree at_ am) (at_.getD i 0).toNat = _ from getL_tree hf.2 at_.length (Nat.le_refl _) hi] at h
  exact h
end Go.Db
namespace Go.Db
open Go Go.Sx
theorem wh_ne (i : Nat) : wh i ≠ h0 := fun h => by
  have h1 := congrArg (fun v : Hash => v.toList) h
  have h2 : (119 : UInt8) = 0 := List.head_eq_of_cons_eq h1
  exact absurd h2 (by decide)
abbrev accN (at_ : List UInt16) (i : Nat) : Int := ((at_.getD i 0).toNat : Int)
abbrev amtN (am : List UInt16) (i : Nat) : Int := 1 + ((am.getD i 0).toNat : Int)
section
variable {at_ am : List UInt16} {i : Nat}
theorem claim0_at (hi : i < at_.length) : claim0 at_ am i = ⟨0, accN at_ i, acState am i, proofV (acTree at_ am) (at_.getD i 0).toNat⟩ := if_pos hi
theorem claim0_may (hi : i < at_.length) : mayClaim (claim0 at_ am i) := by
  rw [claim0_at hi]
  have h1 := UInt16.toNat_lt (at_.getD i 0)
  have h2 := UInt16.toNat_lt (am.getD i 0)
  refine ⟨⟨⟨Int.le_refl 0, by show (0 : Int) ≤ 7; decide⟩, ?_⟩, wh_ne i, ⟨?_, ?_⟩, ?_, ?_⟩
  · show 0 ≤ ((at_.getD i 0).toNat : Int) ∧ ((at_.getD i 0).toNat : Int) ≤ 65535; omega
  · show 1 ≤ 1 + ((am.getD i 0).toNat : Int); omega
  · show 1 + ((am.getD i 0).toNat : Int) ≤ 1125899906842624; omega
  · show 0 ≤ ((i % 8 : Nat) : Int); omega
  · show ((i % 8 : Nat) : Int) ≤ 255; omega
theorem clX_claim0 (hf : fairP at_ am) (hi : i < at_.length) {x : SideR} (hx : x.ceased = true) (hr : x.root = top (acTree at_ am)) :
    clX x (claim0 at_ am i) = if accN at_ i ∈ x.used then 13 else if x.balance < amtN am i then 5 else 0 := by
  have hg := claim0_good hf hi
  have ha : (claim0 at_ am i).account = accN at_ i := by rw [claim0_at hi]
  have hm : (claim0 at_ am i).state.amount = amtN am i := by rw [claim0_at hi]; rfl
  unfold clX
  rw [if_neg (by simp [hx]), hr, if_neg (c := ¬ goodLeaf _ _ _ _ = true) (by rw [hg]; simp), ha, hm]
abbrev idN (at_ am : List UInt16) (i : Nat) : Hash := hOf 120 [encTx (clTx (claim0 at_ am i))]
abbrev coinN (am : List UInt16) (i : Nat) (h : Int) : CoinD := ⟨⟨wh i, amtN am i⟩, h, false⟩
theorem tk_no (hf : fairP at_ am) (hi : i < at_.length) {x : SideR} (hx : x.ceased = true) (hr : x.root = top (acTree at_ am)) (u : UD) (h : Int) (hn : accN at_ i ∈ x.used ∨ x.balance < amtN am i) :
    tkE [x] u (clTx (claim0 at_ am i)) h = (if accN at_ i ∈ x.used then 13 else 5) ∧ tkU [x] u (clTx (claim0 at_ am i)) h = u ∧ tkS [x] u (clTx (claim0 at_ am i)) h = [x] := by
  have hm := claim0_may (am := am) hi
  have hs : (claim0 at_ am i).side = 0 := by rw [claim0_at hi]
  have hE : clE [x] (claim0 at_ am i) = if accN at_ i ∈ x.used then 13 else 5 := by
    rw [clE_at hm (x := x) (by rw [hs]; rfl), clX_claim0 hf hi hx hr]
    by_cases h1 : accN at_ i ∈ x.used
    · rw [if_pos h1, if_pos h1]
    · rw [if_neg h1, if_neg h1, if_pos (hn.resolve_left h1)]
  have h0 : clE [x] (clTx (claim0 at_ am i)).claim ≠ 0 := by show clE [x] (claim0 at_ am i) ≠ 0; rw [hE]; split <;> decide
  obtain ⟨e1, e2, e3⟩ := tkE_bad (u := u) (h := h) ((clTx_may _).2 hm) rfl h0
  exact ⟨e1.trans hE, e2, e3⟩
theorem tk_yes (hf : fairP at_ am) (hi : i < at_.length) {x : SideR} (hx : x.ceased = true) (hr : x.root = top (acTree at_ am)) (u : UD) (h : Int) (hn : accN at_ i ∉ x.used) (hb : amtN am i ≤ x.balance) :
    let o := outsTo (idN at_ am i) h false u 0 [⟨wh i, amtN am i⟩]
    tkE [x] u (clTx (claim0 at_ am i)) h = o.1 ∧ tkU [x] u (clTx (claim0 at_ am i)) h = o.2 ∧ (o.1 = 0 → tkS [x] u (clTx (claim0 at_ am i)) h = [clR x (claim0 at_ am i)]) ∧ (o.1 ≠ 0 → tkS [x] u (clTx (claim0 at_ am i)) h = [x]) := by
  have hm := claim0_may (am := am) hi
  have hs : (claim0 at_ am i).side = 0 := by rw [claim0_at hi]
  have hE : clE [x] (claim0 at_ am i) = 0 := by
    rw [clE_at hm (x := x) (by rw [hs]; rfl), clX_claim0 hf hi hx hr, if_neg hn, if_neg (by omega)]
  obtain ⟨e1, e2⟩ := tkE_ok (u := u) (h := h) (t := clTx (claim0 at_ am i)) ((clTx_may _).2 hm) rfl hE
  have hst : (claim0 at_ am i).state = acState am i := by rw [claim0_at hi]
  have ho : (⟨(clTx (claim0 at_ am i)).claim.state.owner, (clTx (claim0 at_ am i)).claim.state.amount⟩ : OutD) = ⟨wh i, amtN am i⟩ := by
    show (⟨(claim0 at_ am i).state.owner, (claim0 at_ am i).state.amount⟩ : OutD) = _
    rw [hst]; rfl
  rw [ho] at e1 e2
  refine ⟨e1, e2, fun hz => ?_, fun hz => ?_⟩
  · unfold tkS
    rw [if_pos (e1.trans hz)]
    show [x].modify (claim0 at_ am i).side.toNat _ = _
    rw [hs]; rfl
  · unfold tkS
    rw [if_neg (by rw [e1]; exact hz)]
theorem outs_one (tx : Hash) (h : Int) (u : UD) (o : OutD) : outsTo tx h false u 0 [o] = if (getM u.coins ⟨tx, 0⟩).isSome then (6, u) else if addOk u ⟨tx, 0⟩ ⟨o, h, false⟩ then (0, addU u ⟨tx, 0⟩ ⟨o, h, false⟩) else (5, u) := rfl
theorem outs_ok {tx : Hash} {h : Int} {u : UD} {o : OutD} (hn : getM u.coins ⟨tx, 0⟩ = none) (h1 : 1 ≤ o.amount) (h2 : u.total + o.amount ≤ 1125899906842624) (h3 : 0 ≤ u.total) :
    outsTo tx h false u 0 [o] = (0, ⟨u.coins ++ [(⟨tx, 0⟩, ⟨o, h, false⟩)], u.steps ++ [⟨⟨tx, 0⟩, ⟨o, h, false⟩, true⟩], u.total + o.amount⟩) := by
  have hok : addOk u ⟨tx, 0⟩ ⟨o, h, false⟩ := ⟨⟨Int.le_refl 0, by show (0 : Int) ≤ 255; decide⟩, h1, hn, by show o.amount ≤ 1125899906842624; omega, h2⟩
  rw [outs_one, hn, if_neg (by simp), if_pos hok]
  unfold addU
  rw [if_pos hok, setM_none hn]
end
def aAt : List UInt16 := [5, 900]
def aAm : List UInt16 := [3, 4]
theorem aFair : fairP aAt aAm := by decide
noncomputable def aX0 : SideR := fillA aAt aAm 20 true
noncomputable def aX1 : SideR := clR aX0 (claim0 aAt aAm 1)
def aU1 : UD := ⟨[(⟨idN aAt aAm 1, 0⟩, coinN aAm 1 30)], [⟨⟨idN aAt aAm 1, 0⟩, coinN aAm 1 30, true⟩], 5⟩
theorem fill1_in {m : Int} (h : 1 ≤ m ∧ m ≤ maxM) : fill1 m = fwdR (crR (madeP 3 2) 3) m := if_pos h
theorem fill1_f {m : Int} (h : 1 ≤ m ∧ m ≤ maxM) : (fill1 m).balance = m ∧ (fill1 m).claimed = 0 ∧ (fill1 m).used = [] := by
  rw [fill1_in h]
  exact ⟨Int.zero_add m, rfl, rfl⟩
theorem filA_f (x : SideR) (c : Bool) (r : Hash) : (filA x c r).balance = x.balance ∧ (filA x c r).claimed = x.claimed ∧ (filA x c r).used = x.used ∧ (filA x c r).ceased = c ∧ (filA x c r).root = r := ⟨rfl, rfl, rfl, rfl, rfl⟩
theorem clR_f (x : SideR) (c : ClaimD) : (clR x c).balance = x.balance - c.state.amount ∧ (clR x c).claimed = x.claimed + c.state.amount ∧ (clR x c).used = insL x.used (posI x.used c.account) c.account ∧ (clR x c).ceased = x.ceased ∧ (clR x c).root = x.root := ⟨rfl, rfl, rfl, rfl, rfl⟩
theorem aX0_bal : aX0.balance = 20 ∧ aX0.claimed = 0 ∧ aX0.used = [] ∧ aX0.ceased = true ∧ aX0.root = top (acTree aAt aAm) := by
  have h : aX0 = filA (fill1 20) true (top (acTree aAt aAm)) := rfl
  obtain ⟨a, b, c, d, e⟩ := filA_f (fill1 20) true (top (acTree aAt aAm))
  obtain ⟨f, g, k⟩ := fill1_f (m := 20) (by decide)
  rw [h]
  exact ⟨a.trans f, b.trans g, c.trans k, d, e⟩
theorem awake_1 : tkE [aX0] UD.nil (clTx (claim0 aAt aAm 1)) 30 = 0 ∧ tkU [aX0] UD.nil (clTx (claim0 aAt aAm 1)) 30 = aU1 ∧ tkS [aX0] UD.nil (clTx (claim0 aAt aAm 1)) 30 = [aX1] := by
  obtain ⟨hb, _, hu, hc, hr⟩ := aX0_bal
  have h := tk_yes aFair (i := 1) (by decide) hc hr UD.nil 30 (by rw [hu]; simp) (by rw [hb]; decide)
  have ho := outs_ok (tx := idN aAt aAm 1) (h := 30) (u := UD.nil) (o := ⟨wh 1, amtN aAm 1⟩) rfl (by decide) (by decide) (by decide)
  simp only [ho] at h
  exact ⟨h.1, h.2.1, h.2.2.1 trivial⟩
theorem aX1_bal : aX1.balance = 15 ∧ aX1.claimed = 5 ∧ aX1.used = [900] ∧ aX1.ceased = true ∧ aX1.root = top (acTree aAt aAm) := by
  obtain ⟨hb, hc, hu, hd, hr⟩ := aX0_bal
  have ha : (claim0 aAt aAm 1).account = 900 := by rw [claim0_at (by decide)]; rfl
  have hm : (claim0 aAt aAm 1).state.amount = 5 := by rw [claim0_at (by decide)]; rfl
  obtain ⟨a, b, c, d, e⟩ := clR_f aX0 (claim0 aAt aAm 1)
  refine ⟨?_, ?_, ?_, d.trans hd, e.trans hr⟩
  · refine a.trans ?_; rw [hb, hm]; rfl
  · refine b.trans ?_; rw [hc, hm]; rfl
  · refine c.trans ?_; rw [hu, ha]; rfl
theorem awake_2 : tkE [aX1] aU1 (clTx (claim0 aAt aAm 1)) 31 = 13 ∧ tkU [aX1] aU1 (clTx (claim0 aAt aAm 1)) 31 = aU1 ∧ tkS [aX1] aU1 (clTx (claim0 aAt aAm 1)) 31 = [aX1] := by
  obtain ⟨_, _, hu, hc, hr⟩ := aX1_bal
  have h := tk_no aFair (i := 1) (by decide) hc hr aU1 31 (.inl (by rw [hu]; decide))
  rw [if_pos (by rw [hu]; decide)] at h
  exact h
end Go.Db
namespace Go.Sx
open Go
theorem cs2 {v w : Value} {x y : Value} (h1 : v.cells = #[x]) (h2 : w.cells = #[y]) (h3 : x.oneCell' = true := by rfl) (h4 : y.oneCell' = true := by rfl) : ∀ u ∈ [v, w], u.cells.size = 1 ∧ Ones u.cells.toList := fun u hu => by
  simp at hu
  rcases hu with rfl | rfl
  · exact ⟨by rw [h1]; rfl, by rw [h1]; intro z hz; simp at hz; subst hz; exact h3⟩
  · exact ⟨by rw [h2]; rfl, by rw [h2]; intro z hz; simp at hz; subst hz; exact h4⟩
end Go.Sx
namespace Go.Db
open Go Go.Sx
theorem fillA_f {at_ am : List UInt16} {m : Int} {c : Bool} (h : 1 ≤ m ∧ m ≤ maxM) : (fillA at_ am m c).balance = m ∧ (fillA at_ am m c).claimed = 0 ∧ (fillA at_ am m c).used = [] ∧ (fillA at_ am m c).ceased = c ∧ (fillA at_ am m c).root = top (acTree at_ am) := by
  obtain ⟨a, b, d, e, f⟩ := filA_f (fill1 m) c (top (acTree at_ am))
  obtain ⟨g, k, n⟩ := fill1_f h
  exact ⟨a.trans g, b.trans k, d.trans n, e, f⟩
/-- of a side that goes on -/
theorem not_1 {at_ am : List UInt16} {i : Nat} (hi : i < at_.length) {x : SideR} (hx : x.ceased = false) (u : UD) (h : Int) :
    tkE [x] u (clTx (claim0 at_ am i)) h = 14 ∧ tkU [x] u (clTx (claim0 at_ am i)) h = u ∧ tkS [x] u (clTx (claim0 at_ am i)) h = [x] := by
  have hm := claim0_may (am := am) hi
  have hs : (claim0 at_ am i).side = 0 := by rw [claim0_at hi]
  have hE : clE [x] (claim0 at_ am i) = 14 := by
    rw [clE_at hm (x := x) (by rw [hs]; rfl)]
    unfold clX
    rw [if_pos (by simp [hx])]
  obtain ⟨e1, e2, e3⟩ := tkE_bad (l := [x]) (u := u) (h := h) (t := clTx (claim0 at_ am i)) ((clTx_may _).2 hm) rfl (by show clE [x] (claim0 at_ am i) ≠ 0; rw [hE]; decide)
  exact ⟨e1.trans hE, e2, e3⟩
def clS (c : ClaimD) (s : Int) : ClaimD := { c with side := s }
/-- of a side that is not there -/
theorem not_2 {at_ am : List UInt16} {i : Nat} (hi : i < at_.length) (x : SideR) (u : UD) (h s : Int) (hs : 1 ≤ s ∧ s ≤ 7) :
    tkE [x] u (clTx (clS (claim0 at_ am i) s)) h = 8 ∧ tkU [x] u (clTx (clS (claim0 at_ am i) s)) h = u ∧ tkS [x] u (clTx (clS (claim0 at_ am i) s)) h = [x] := by
  have hm := claim0_may (am := am) hi
  have hm2 : mayClaim (clS (claim0 at_ am i) s) := ⟨⟨⟨by show 0 ≤ s; omega, hs.2⟩, hm.1.2⟩, hm.2⟩
  have hE : clE [x] (clS (claim0 at_ am i) s) = 8 := clE_none hm2 (by show ((1 : Nat) : Int) ≤ s; omega)
  obtain ⟨e1, e2, e3⟩ := tkE_bad (l := [x]) (u := u) (h := h) (t := clTx (clS (claim0 at_ am i) s)) ((clTx_may _).2 hm2) rfl (by show clE [x] (clS (claim0 at_ am i) s) ≠ 0; rw [hE]; decide)
  exact ⟨e1.trans hE, e2, e3⟩
abbrev cbTx : TxD := { TxD.zero with kind := 1, height := 3 }
theorem not_3 (x : List SideR) (u : UD) (h : Int) : tkE x u cbTx h = 4 ∧ tkU x u cbTx h = u ∧ tkS x u cbTx h = x := tkE_no (.inr (by decide))
theorem cb_rs {ro : Hp} : TxRS ro cbTx txvN := ⟨RS.none_, RS.none_, RS.none_, RS.none_, RS.none_, RS.none_⟩
theorem cb_sm : TxSm cbTx := ⟨Nat.zero_le _, Nat.zero_le _, Nat.zero_le _, Nat.zero_le _, Nat.zero_le _, Nat.zero_le _⟩
end Go.Db
