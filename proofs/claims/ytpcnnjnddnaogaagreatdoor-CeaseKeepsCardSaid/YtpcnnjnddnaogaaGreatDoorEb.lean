import Derived.Test.YtpcnnjnddnaogaaGreatDoorEa
import Derived.DeepKeys4
import Derived.MapKept
import Derived.WideKeyRuns
set_option linter.unusedVariables false
set_option linter.unusedSimpArgs false
set_option linter.unusedSectionVars false
set_option linter.unnecessarySimpa false
set_option exponentiation.threshold 1000
namespace Go.Db
open Go Go.Sx

abbrev Hash := Vector UInt8 8
def bv (b : UInt8) : Value := .int .u8 b.toNat
def iv (n : Int) : Value := .int .i64 n
def hc (h : Hash) : List Value := h.toList.map bv
def hv (h : Hash) : Value := .agg (hc h).toArray
def h0 : Hash := Vector.replicate 8 0
instance {b : UInt8} : Cz (bv b) 1 := inferInstanceAs (Cz (.int .u8 b.toNat) 1)
instance {n : Int} : Cz (iv n) 1 := inferInstanceAs (Cz (.int .i64 n) 1)
theorem hc_length (h : Hash) : (hc h).length = 8 := by simp [hc]
theorem ones_bytes (l : List UInt8) : Ones (l.map bv) := by
  intro v hv
  obtain ⟨b, _, rfl⟩ := List.mem_map.1 hv
  rfl
instance {h : Hash} : Cz (hv h) 8 := ⟨by show (hc h).toArray.size = 8; simp [hc_length], ones_bytes _⟩
instance {h : Hash} : Cz (.agg (hc h).toArray) 8 := inferInstanceAs (Cz (hv h) 8)
theorem bv_inj {a b : UInt8} (h : bv a = bv b) : a = b := by
  simp only [bv, Value.int.injEq, true_and] at h
  exact UInt8.toNat_inj.1 (by omega)
theorem hc_inj {a b : Hash} (h : hc a = hc b) : a = b := by
  have : a.toList = b.toList := (List.map_inj_right (fun _ _ => bv_inj)).1 h
  exact Vector.toList_inj.1 this

/-- bytes in memory -/
def bys (l : List UInt8) : List (List Value) := l.map fun b => [bv b]
theorem bys_length (l : List UInt8) : (bys l).length = l.length := by simp [bys]
end Go.Db
namespace Go.Sx
open Go

/-- a type of numbers and bools, however nested -/
structure Kt (P : Program) (T m : Nat) : Prop where
  key : P.keyTypeAt m T = true
  tiled : P.tiled m T = true
  wide : (match P.underlying T with | some (.array _ _) | some (.struct _) => true | _ => false) = true
  guard : P.eqGuardType P.depth T = false
  m : m ≤ 10000
/-- cells that read as such -/
def Kl (P : Program) (T m : Nat) (cs : List Value) : Prop := ∃ l, P.keyLits m T cs = some l

section
variable {P : Program}
theorem Kl.length {T m k : Nat} {cs : List Value} (hw : Kt P T k) (h : Kl P T m cs) : cs.length = P.cellsOf T := by
  obtain ⟨l, h⟩ := h
  have hwide := hw.wide
  cases m with
  | zero => simp [Program.keyLits] at h
  | succ m =>
    unfold Program.keyLits at h
    split at h <;> simp_all

theorem formed_of {T m : Nat} {xs : Array Value} (k : Kt P T m) (h : xs.size = P.cellsOf T) : (Value.agg xs).formed P T = true := by
  have hw := k.wide
  unfold Value.formed
  simp only
  split <;> simp_all

theorem run_equalIn_kt {T m : Nat} (k : Kt P T m) {xs ys : Array Value} (hx : Kl P T m xs.toList) (hy : Kl P T m ys.toList) (W : World) :
    ∃ r : Bool, (Op.equalIn 10000 T (.agg xs) (.agg ys)).run P W = .ok r W ∧ (r = true ↔ xs = ys) := by
  have lx := Kl.length k hx
  have ly := Kl.length k hy
  obtain ⟨la, ha⟩ := hx
  obtain ⟨lb, hb⟩ := hy
  have h := run_equalIn_deep (P := P) (10000 - m) m T k.key
  have hm : 10000 - m + m = 10000 := by have := k.m; omega
  rw [hm] at h
  obtain ⟨r, h1, h2⟩ := h W m m (.agg xs) (.agg ys) la lb (formed_of k (by simpa using lx)) (formed_of k (by simpa using ly)) ha hb
  refine ⟨r, h1, h2.trans ⟨fun e => ?_, fun e => ?_⟩⟩
  · have h3 := cells_of_lits m T k.tiled m _ _ ha
    have h4 := cells_of_lits m T k.tiled m _ _ hb
    rw [e, ← h4] at h3
    exact Array.toList_inj.1 h3
  · subst e
    rw [ha] at hb; cases hb; rfl

section
variable {n : Nat} {w0 : World} {ro : Hp} {E : Env} {M : Res}
variable {dst : Option Tmp} {ty T T' : TypeId} {pos : String} {af : Array Edge} {g : Option (Nat × Bool)} {x y : Operand}
theorem V.eqlK {m : Nat} {xs ys : Array Value} {p : Prop} [Decidable p] (hx : opnd E x = some (.agg xs)) (hy : opnd E y = some (.agg ys)) (k : Kt P T m) (lx : Kl P T m xs.toList) (ly : Kl P T m ys.toList) (hp : xs = ys ↔ p) :
    V P n w0 ro E M ⟨dst, .binOp .eql T x y T', ty, pos, af, g⟩ (.bool (decide p)) :=
  .of_run fun a W f i => by
    obtain ⟨r, h1, h2⟩ := run_equalIn_kt k lx ly W
    have : r = decide p := by
      cases r
      · symm; rw [decide_eq_false_iff_not]; exact fun h => by have := h2.2 (hp.2 h); cases this
      · symm; rw [decide_eq_true_iff]; exact hp.1 (h2.1 rfl)
    subst this
    simp only [execOp, f.eval hx, f.eval hy, Sem.run_bind, run_eqGuard_agg W .eql T x y xs ys k.guard, Result.andThen_ok, run_eql_struct, h1, Sem.run_pure]
theorem V.neqK {m : Nat} {xs ys : Array Value} {p : Prop} [Decidable p] (hx : opnd E x = some (.agg xs)) (hy : opnd E y = some (.agg ys)) (k : Kt P T m) (lx : Kl P T m xs.toList) (ly : Kl P T m ys.toList) (hp : xs = ys ↔ p) :
    V P n w0 ro E M ⟨dst, .binOp .neq T x y T', ty, pos, af, g⟩ (.bool (decide (¬ p))) :=
  .of_run fun a W f i => by
    obtain ⟨r, h1, h2⟩ := run_equalIn_kt k lx ly W
    have : r = decide p := by
      cases r
      · symm; rw [decide_eq_false_iff_not]; exact fun h => by have := h2.2 (hp.2 h); cases this
      · symm; rw [decide_eq_true_iff]; exact hp.1 (h2.1 rfl)
    subst this
    simp only [execOp, f.eval hx, f.eval hy, Sem.run_bind, run_eqGuard_agg W .neq T x y xs ys k.guard, Result.andThen_ok, run_neq_struct, h1, Sem.run_pure, decide_not]
theorem V.eqb {a b : Bool} (hx : opnd E x = some (.bool a)) (hy : opnd E y = some (.bool b)) (ht : P.underlying T = some .bool) :
    V P n w0 ro E M ⟨dst, .binOp .eql T x y T', ty, pos, af, g⟩ (.bool (a == b)) :=
  .of_run fun a' W f i => by
    have hg : (eqGuard .eql T x y (.bool a) (.bool b)).run P W = .ok () W := by unfold eqGuard; split <;> rfl
    simp only [execOp, f.eval hx, f.eval hy, Sem.run_bind, hg, Result.andThen_ok]
    simp [binOp, Op.equal, Op.maxDepth, run_equalIn_bool' W 9999 T a b ht]
theorem V.neb {a b : Bool} (hx : opnd E x = some (.bool a)) (hy : opnd E y = some (.bool b)) (ht : P.underlying T = some .bool) :
    V P n w0 ro E M ⟨dst, .binOp .neq T x y T', ty, pos, af, g⟩ (.bool (a != b)) :=
  .of_run fun a' W f i => by
    have hg : (eqGuard .neq T x y (.bool a) (.bool b)).run P W = .ok () W := by unfold eqGuard; split <;> rfl
    simp only [execOp, f.eval hx, f.eval hy, Sem.run_bind, hg, Result.andThen_ok]
    simp [binOp, Op.equal, Op.maxDepth, run_equalIn_bool' W 9999 T a b ht, bne]
end

/-- an array of numbers -/
theorem Kl.ints {T e len m : Nat} {q : IntKind} (hT : P.underlying T = some (.array len e)) (he : P.underlying e = some (.int q)) (hce : P.cellsOf e = 1) (hcT : P.cellsOf T = len)
    (l : List Int) (hl : l.length = len) (hw : ∀ x ∈ l, (Lit.int q x).wf = true) : Kl P T (m + 2) (l.map (Value.int q)) := by
  have h1 : ∀ i ∈ List.range len, P.keyLits (m + 1) e (((l.map (Value.int q)).drop (i * P.cellsOf e)).take (P.cellsOf e)) = some [Lit.int q (l.getD i 0)] := by
    intro i hi
    have hlt : i < l.length := by rw [hl]; exact List.mem_range.1 hi
    rw [hce, Nat.mul_one, List.drop_eq_getElem_cons (by simpa using hlt)]
    have hx := hw l[i] (List.getElem_mem hlt)
    simp [Program.keyLits, he, hx, hlt]
  have h2 : ∀ is : List Nat, (∀ i ∈ is, i ∈ List.range len) → ∃ as, is.mapM (fun i => P.keyLits (m + 1) e (((l.map (Value.int q)).drop (i * P.cellsOf e)).take (P.cellsOf e))) = some as := by
    intro is
    induction is with
    | nil => intro _; exact ⟨[], rfl⟩
    | cons i is ih =>
      intro h
      obtain ⟨as, has⟩ := ih fun j hj => h j (by simp [hj])
      exact ⟨[Lit.int q (l.getD i 0)] :: as, by rw [List.mapM_cons, h1 i (h i (by simp)), has]; rfl⟩
  obtain ⟨as, has⟩ := h2 (List.range len) fun _ h => h
  refine ⟨as.flatten, ?_⟩
  unfold Program.keyLits
  simp only [hT]
  rw [if_pos (by simp [hcT, hl]), has]; rfl
end
end Go.Sx
namespace Go.Sx
open Go

theorem foldl_set_splice : ∀ (l : List Value) (k off : Nat) (cs : Array Value), off + k + l.length ≤ cs.size →
    ((l.zipIdx k).foldl (fun cs (x : Value × Nat) => cs.setIfInBounds (off + x.2) x.1) cs).toList = cs.toList.take (off + k) ++ l ++ cs.toList.drop (off + k + l.length)
  | [], k, off, cs, _ => by simp
  | v :: l, k, off, cs, h => by
    simp only [List.zipIdx_cons, List.foldl_cons, List.length_cons] at h ⊢
    rw [foldl_set_splice l (k + 1) off _ (by simp; omega)]
    simp only [Array.toList_setIfInBounds]
    have hk : off + k < cs.toList.length := by simp; omega
    rw [List.set_eq_take_append_cons_drop, if_pos hk]
    have hl : (cs.toList.take (off + k)).length = off + k := by simp; omega
    generalize hA : cs.toList.take (off + k) = A at hl
    generalize hB : cs.toList.drop (off + k + 1) = B
    have t1 : (A ++ v :: B).take (off + (k + 1)) = A ++ [v] := by
      rw [show A ++ v :: B = (A ++ [v]) ++ B from by simp]; exact List.take_left' (by simp [hl]; omega)
    have t2 : (A ++ v :: B).drop (off + (k + 1) + l.length) = B.drop l.length := by
      rw [show A ++ v :: B = (A ++ [v]) ++ B from by simp, ← List.drop_drop, List.drop_left' (by simp [hl]; omega)]
    rw [t1, t2, ← hB, List.drop_drop]
    simp [Nat.add_comm, Nat.add_left_comm]

theorem fill_step {place : Nat → Option (Nat × Nat)} {cells : Array Value} {j off size : Nat} {v : Value} {rest : List (Nat × Value)} (hp : place j = some (off, size)) (hv : v.cells.size = size) (hf : off + size ≤ cells.size) :
    Instr.fill place cells ((j, v) :: rest) = Instr.fill place (cells.toList.take off ++ v.cells.toList ++ cells.toList.drop (off + size)).toArray rest := by
  have h := foldl_set_splice v.cells.toList 0 off cells (by simp [hv]; omega)
  simp only [Nat.add_zero, Array.length_toList, hv] at h
  have e : (v.cells.zipIdx.foldl (fun cs (x : Value × Nat) => cs.setIfInBounds (off + x.2) x.1) cells) = (cells.toList.take off ++ v.cells.toList ++ cells.toList.drop (off + size)).toArray := by
    rw [← Array.toList_inj, ← h]
    rw [← Array.foldl_toList, Array.toList_zipIdx]
  simp only [Instr.fill, hp]
  rw [if_neg (by simp [hv]; omega)]
  congr 1

/-- the places of a struct's fields, as 'build' reckons them -/
def Pls (P : Program) (T : Nat) (ps : List (Nat × Nat)) : Prop := ∃ fs, P.underlying T = some (.struct fs) ∧ fs.toList.map (fun f => (f.offset, (P.info? f.type).map (·.size))) = ps.map fun p => (p.1, some p.2)

section
variable {P : Program}
theorem run_places : ∀ (fs : List Field) (ps : List (Nat × Nat)) (W : World), fs.map (fun f => (f.offset, (P.info? f.type).map (·.size))) = ps.map (fun p => (p.1, some p.2)) →
    (fs.mapM fun (f : Field) => do pure (f.offset, ← sizeOf f.type)).run P W = .ok ps W
  | [], ps, W, h => by cases ps with
    | nil => simp
    | cons => simp at h
  | f :: fs, ps, W, h => by
    cases ps with
    | nil => simp at h
    | cons p ps =>
      simp only [List.map_cons, List.cons.injEq, Prod.mk.injEq] at h
      obtain ⟨⟨h1, h2⟩, h3⟩ := h
      have ih := run_places fs ps W h3
      simp only [List.mapM_cons, Sem.run_bind, run_sizeOf h2, Result.andThen_ok, Sem.run_pure, ih, h1]

/-- leaves put into a struct's leaves -/
inductive Put : List (Nat × Nat) → List (Nat × Value) → Lv → Lv → Prop
  | nil {ps zs} : Put ps [] zs zs
  | cons {ps j v rest zs off size i k us zs'} : ps[j]? = some (off, size) → lsz (zs.take i) = off → lsz ((zs.drop i).take k) = size → v.cells.toList = flat us → Wl us → lsz us = size →
      Put ps rest (zs.take i ++ us ++ zs.drop (i + k)) zs' → Put ps ((j, v) :: rest) zs zs'

theorem Put.one {ps : List (Nat × Nat)} {j i s off : Nat} {u v : Value} {rest : List (Nat × Value)} {zs zs' : Lv} (h1 : ps[j]? = some (off, s)) (h2 : lsz (zs.take i) = off) (h3 : zs[i]? = some (s, u)) [c : Cz v s]
    (h : Put ps rest (zs.set i (s, v)) zs') : Put ps ((j, v) :: rest) zs zs' := by
  have hlt := (List.getElem?_eq_some_iff.1 h3).1
  have he := (List.getElem?_eq_some_iff.1 h3).2
  refine Put.cons (i := i) (k := 1) (us := [(s, v)]) h1 h2 ?_ (by simp [flat]) (Wl.cons c.sz c.ones Wl.nil) (by simp [lsz]) ?_
  · rw [List.drop_eq_getElem_cons hlt, he]; simp [lsz]
  · rw [List.set_eq_take_append_cons_drop, if_pos hlt] at h
    simpa using h
theorem Put.ags {ps : List (Nat × Nat)} {j i k s off : Nat} {us : Lv} {rest : List (Nat × Value)} {zs zs' : Lv} (h1 : ps[j]? = some (off, s)) (h2 : lsz (zs.take i) = off) (h3 : lsz ((zs.drop i).take k) = s) (h4 : lsz us = s) [c : Wc us]
    (h : Put ps rest (zs.take i ++ us ++ zs.drop (i + k)) zs') : Put ps ((j, ag us) :: rest) zs zs' :=
  Put.cons h1 h2 h3 rfl c.wl h4 h

theorem fill_put {ps : List (Nat × Nat)} {parts : List (Nat × Value)} {zs zs' : Lv} (h : Put ps parts zs zs') (w : Wl zs) : Instr.fill (ps.toArray[·]?) (flat zs).toArray parts = some (flat zs').toArray ∧ Wl zs' := by
  induction h with
  | nil => exact ⟨rfl, w⟩
  | @cons j v rest zs off size i k us zs' h1 h2 h3 h4 h5 h6 h7 ih =>
    have e : zs = zs.take i ++ ((zs.drop i).take k ++ zs.drop (i + k)) := by
      rw [← List.drop_drop, List.take_append_drop, List.take_append_drop]
    have w1 : Wl (zs.take i) := w.sub fun p hp => List.mem_of_mem_take hp
    have w2 : Wl ((zs.drop i).take k) := w.sub fun p hp => List.mem_of_mem_drop (List.mem_of_mem_take hp)
    have w3 : Wl (zs.drop (i + k)) := w.sub fun p hp => List.mem_of_mem_drop hp
    have hw : Wl (zs.take i ++ us ++ zs.drop (i + k)) := by
      intro p hp
      simp only [List.mem_append] at hp
      rcases hp with (hp | hp) | hp
      · exact w1 p hp
      · exact h5 p hp
      · exact w3 p hp
    have hv : v.cells.size = size := by rw [← Array.length_toList, h4, h5.flat_length, h6]
    have l1 : (flat (zs.take i)).length = off := w1.flat_length.trans h2
    have l2 : (flat ((zs.drop i).take k)).length = size := w2.flat_length.trans h3
    have hlen : (flat zs).length = off + (size + (flat (zs.drop (i + k))).length) := by
      conv => lhs; rw [e]
      rw [flat_append, flat_append, List.length_append, List.length_append, l1, l2]
    obtain ⟨r1, r2⟩ := ih hw
    refine ⟨?_, r2⟩
    rw [fill_step (off := off) (size := size) (by simpa using h1) hv (by simp [hlen])]
    rw [← r1]
    congr 1
    rw [h4]
    congr 1
    have e1 : (flat zs).toArray.toList = flat (zs.take i) ++ (flat ((zs.drop i).take k) ++ flat (zs.drop (i + k))) := by
      show flat zs = _
      conv => lhs; rw [e]
      rw [flat_append, flat_append]
    rw [e1, flat_append, flat_append, List.take_left' l1]
    congr 1
    rw [← List.append_assoc, List.drop_left' (by rw [List.length_append, l1, l2])]

variable {n : Nat} {w0 : World} {ro : Hp} {E : Env} {M : Res}
variable {dst : Option Tmp} {ty T T' : TypeId} {pos : String} {af : Array Edge} {g : Option (Nat × Bool)} {x y : Operand}

theorem parts_eval {a : Act} (f : Fits n E a) (l : List (Nat × Operand)) (vs : List Value) (h : opnds E (l.map (·.2)) = some vs) :
    (l.toArray.map fun (p : Nat × Operand) => (p.1, a.eval p.2)) = ((l.map (·.1)).zip vs).toArray := by
  have h1 := opnds_eval f h
  rw [List.map_toArray]
  congr 1
  rw [← h1]
  clear h h1
  induction l with
  | nil => rfl
  | cons p l ih => simp [ih]

theorem V.bld {l : List (Nat × Operand)} {vs : List Value} {ps : List (Nat × Nat)} {zs us : Lv} (hx : opnds E (l.map (·.2)) = some vs) (hz : Zr P T zs) [hc : Wc zs] (hp : Pls P T ps)
    (hput : Put ps ((l.map (·.1)).zip vs) zs us) : V P n w0 ro E M ⟨dst, .build T l.toArray, ty, pos, af, g⟩ (ag us) :=
  .of_run fun a W f i => by
    obtain ⟨fs, hu, hps⟩ := hp
    obtain ⟨zv, hz1, hz2⟩ := hz.ex
    obtain ⟨hfill, _⟩ := fill_put hput hc.wl
    have hzz : (zeroValue T).run P W = .ok zv W := by
      cases hq : P.info? T with
      | none => simp [hq] at hz1
      | some i => simp [hq] at hz1; simp [zeroValue, typeInfo, hq, hz1]
    have hplaces : (fs.mapM fun (f : Field) => do pure (f.offset, ← sizeOf f.type)).run P W = .ok ps.toArray W := by
      have h1 := run_places fs.toList ps W hps
      have h2 : (fs.mapM fun (f : Field) => (do pure (f.offset, ← sizeOf f.type) : Sem (Nat × Nat))) = (List.toArray <$> fs.toList.mapM fun (f : Field) => (do pure (f.offset, ← sizeOf f.type) : Sem (Nat × Nat))) := by
        rw [Array.mapM_eq_mapM_toList]
      rw [h2]
      show ((fs.toList.mapM fun (f : Field) => (do pure (f.offset, ← sizeOf f.type) : Sem (Nat × Nat))) >>= fun x => pure (List.toArray x)).run P W = _
      rw [Sem.run_bind, h1]
      rfl
    have hzc : zv.cells = (flat zs).toArray := by rw [← hz2]
    simp only [execOp, parts_eval f l vs hx, Instr.build, Sem.run_bind, hzz, Result.andThen_ok, run_underlying hu, hplaces, hzc, hfill, Sem.run_pure]
    rfl

/-- an array's literal -/
def fillL (s : Nat) : List Value → List (Nat × Value) → List Value
  | cs, [] => cs
  | cs, (j, v) :: rest => fillL s (cs.take (j * s) ++ v.cells.toList ++ cs.drop (j * s + s)) rest
theorem fill_arr {s : Nat} : ∀ (parts : List (Nat × Value)) (cs : List Value) (len : Nat), cs.length = len * s → (∀ p ∈ parts, p.1 < len ∧ p.2.cells.size = s) →
    Instr.fill (fun i => some (i * s, s)) cs.toArray parts = some (fillL s cs parts).toArray
  | [], cs, len, _, _ => rfl
  | (j, v) :: rest, cs, len, hl, h => by
    obtain ⟨h1, h2⟩ := h (j, v) (by simp)
    have hfit : j * s + s ≤ len * s := by
      have : (j + 1) * s ≤ len * s := Nat.mul_le_mul_right _ h1
      rw [Nat.add_mul] at this; omega
    simp only at h1 h2
    rw [fill_step (off := j * s) (size := s) rfl h2 (by simp only [List.size_toArray]; omega)]
    rw [fillL]
    refine fill_arr rest _ len ?_ fun p hp => h p (by simp [hp])
    simp only [List.length_append, List.length_take, List.length_drop, Array.length_toList, h2, hl]
    omega
theorem V.bldA {len e s : Nat} {l : List (Nat × Operand)} {vs : List Value} {cs cs' : List Value} (hT : Ar P T len e s) (hx : opnds E (l.map (·.2)) = some vs) (hzr : ((P.info? T).bind (·.zero)).map (·.cells.toList) = some cs)
    (hl : cs.length = len * s) (hp : ∀ p ∈ (l.map (·.1)).zip vs, p.1 < len ∧ p.2.cells.size = s) (he : fillL s cs ((l.map (·.1)).zip vs) = cs') : V P n w0 ro E M ⟨dst, .build T l.toArray, ty, pos, af, g⟩ (.agg cs'.toArray) :=
  .of_run fun a W f i => by
    obtain ⟨zv, hz1, hz2⟩ := Option.map_eq_some_iff.1 hzr
    have hzz : (zeroValue T).run P W = .ok zv W := by
      cases hq : P.info? T with
      | none => simp [hq] at hz1
      | some i => simp [hq] at hz1; simp [zeroValue, typeInfo, hq, hz1]
    have hzc : zv.cells = cs.toArray := by rw [← hz2]
    have hf := fill_arr (s := s) ((l.map (·.1)).zip vs) cs len hl hp
    rw [he] at hf
    simp only [execOp, parts_eval f l vs hx, Instr.build, Sem.run_bind, hzz, Result.andThen_ok, run_underlying hT.1, run_sizeOf hT.2, hzc, hf, Sem.run_pure]

theorem fill_seq {s : Nat} : ∀ (vs : List Value) (k : Nat) (done tail : List Value), done.length = k * s → tail.length = vs.length * s → (∀ v ∈ vs, v.cells.size = s) →
    Instr.fill (fun i => some (i * s, s)) (done ++ tail).toArray ((List.range' k vs.length).zip vs) = some (done ++ vs.flatMap fun v => v.cells.toList).toArray
  | [], k, done, tail, hd, ht, _ => by
    simp at ht; subst ht; rfl
  | v :: vs, k, done, tail, hd, ht, hs => by
    have hv := hs v (by simp)
    have hl : tail.length = s + vs.length * s := by rw [ht, List.length_cons, Nat.add_mul]; omega
    rw [List.length_cons, List.range'_succ, List.zip_cons_cons, fill_step (off := k * s) (size := s) rfl hv (by simp only [List.size_toArray, List.length_append]; omega)]
    have e : (done ++ tail).toArray.toList.take (k * s) ++ v.cells.toList ++ (done ++ tail).toArray.toList.drop (k * s + s) = (done ++ v.cells.toList) ++ tail.drop s := by
      have e1 : (done ++ tail).toArray.toList.take (k * s) = done := List.take_left' hd
      have e2 : (done ++ tail).toArray.toList.drop (k * s + s) = tail.drop s := by
        show (done ++ tail).drop (k * s + s) = _
        rw [← List.drop_drop, List.drop_left' hd]
      rw [e1, e2]
    rw [e, fill_seq vs (k + 1) (done ++ v.cells.toList) (tail.drop s) (by simp [hd, hv, Nat.add_mul]) (by simp [hl]) fun u hu => hs u (by simp [hu])]
    simp
/-- values of one size -/
class Cs (vs : List Value) (s : outParam Nat) : Prop where
  all : ∀ v ∈ vs, v.cells.size = s ∧ Ones v.cells.toList
instance {v : Value} {s : Nat} [c : Cz v s] : Cs [v] s := ⟨fun u hu => by simp at hu; subst hu; exact ⟨c.sz, c.ones⟩⟩
instance {v u : Value} {l : List Value} {s : Nat} [c : Cz v s] [r : Cs (u :: l) s] : Cs (v :: u :: l) s := ⟨fun x hx => by
  rcases List.mem_cons.1 hx with rfl | hx
  · exact ⟨c.sz, c.ones⟩
  · exact r.all x hx⟩
theorem Cs.nil {s : Nat} : ∀ v ∈ ([] : List Value), v.cells.size = s ∧ Ones v.cells.toList := fun _ h => by cases h
/-- a slice's literal: its own block -/
theorem JO.bsl {K : Act → World → Prop} {Q : Exit → Act → World → Prop} {e s bytes d len l : Nat} {ps : List (Nat × Operand)} {vs : List Value} (hn : Nat.blt d n = true) (hT : El P T e s bytes)
    (hi : ps.map (·.1) = List.range' 0 len) (hx : opnds E (ps.map (·.2)) = some vs) (hlen : vs.length = len) (hs : ∀ v ∈ vs, v.cells.size = s ∧ Ones v.cells.toList) (hsmall : len * s ≤ 2 ^ 24)
    (h : ∀ v, Kp n w0 ro K ((d, v) :: E) ((l, Ow v e s (vs.map fun v => v.cells.toList)) :: M)) :
    JO P Q n w0 ro K ⟨some d, .buildSlice T len ps.toArray, ty, pos, af, g⟩ E M := fun a W f iv => by
  obtain ⟨i, z, hinf, hz, hsize, hbytes, hzs⟩ := hT.inf
  have hpos := hT.pos
  subst hlen
  subst hsize
  have hzc : (Array.range (vs.length * i.size)).size = vs.length * i.size := by simp
  have hp : (ps.toArray.map fun (p : Nat × Operand) => (p.1, a.eval p.2)) = ((List.range' 0 vs.length).zip vs).toArray := by rw [parts_eval f ps vs hx, hi]
  have hf : ∀ cells : Array Value, cells.size = vs.length * i.size → Instr.fill (fun j => some (j * i.size, i.size)) cells ((List.range' 0 vs.length).zip vs) = some (vs.flatMap fun v => v.cells.toList).toArray := by
    intro cells hc
    have := fill_seq (s := i.size) vs 0 [] cells.toList (by simp) (by simpa using hc) fun v hv => (hs v hv).1
    simpa using this
  have hr : (execOp a.eval ⟨some d, .buildSlice T vs.length ps.toArray, ty, pos, af, g⟩).run P W = .ok (.value (.slice (some ⟨W.heap.size, 0, none⟩) vs.length vs.length)) (W.alloc (.cells (vs.flatMap fun v => v.cells.toList).toArray e)) := by
    have hns : ¬ (vs.length * i.size > 2 ^ 24) := by omega
    simp only [execOp, hp, Instr.buildSlice, Sem.run_bind, run_underlying hT.ut, Result.andThen_ok, run_sizeOf (P := P) (t := e) (s := i.size) (by simp [hinf]) W, if_neg hns]
    by_cases h0 : vs.length * i.size = 0
    · simp only [if_pos h0]
      rw [Sem.run_bind, Sem.run_pure, Result.andThen_ok]
      rw [hf _ (by simp only [Array.size_map, Array.size_range])]
      simp [newRow]
    · have hzz : (zeroValue e).run P W = .ok z W := by simp [zeroValue, typeInfo, hinf, hz]
      simp only [if_neg h0, Sem.run_bind, hzz, Sem.run_pure, Result.andThen_ok]
      rw [hf _ (by simp only [Array.size_map, Array.size_range])]
      simp [newRow]
  unfold Oper.wp
  rw [hr, Oper.upon_value]
  refine h _ _ _ (f.put _ hn) (iv.new l _ ⟨?_, .inr ⟨W.heap.size, vs.length, _, by simp, by simp; rfl, by simp, ?_, ?_, ?_⟩⟩)
  · intro x hx
    obtain ⟨v, hv, rfl⟩ := List.mem_map.1 hx
    exact ⟨by simpa using (hs v hv).1, (hs v hv).2⟩
  · have : vs.length ≤ vs.length * i.size := Nat.le_mul_of_pos_right _ hpos
    simp only [maxLen]; omega
  · rw [List.size_toArray, List.flatMap_def, length_flatten_of (sz := i.size)]
    · simp
    · intro x hx
      obtain ⟨v, hv, rfl⟩ := List.mem_map.1 hx
      simpa using (hs v hv).1
  · rw [List.flatMap_def]
    apply List.take_of_length_le
    rw [length_flatten_of (sz := i.size)]
    · simp
    · intro x hx
      obtain ⟨v, hv, rfl⟩ := List.mem_map.1 hx
      simpa using (hs v hv).1
end
end Go.Sx
namespace Go.Sx
open Go

section
variable {P : Program} {Q : Exit → Act → World → Prop} {n : Nat} {w0 : World} {ro : Hp} {ops : Array Oper} {Mc : Res} {E : Env} {M : Res} {is : List Nat} {K : Env → Prop} {l : List Oper}
variable {dst : Option Tmp} {ty T T' : TypeId} {pos : String} {af : Array Edge} {g : Option (Nat × Bool)} {x y z : Operand}

theorem V.and {b c : Bool} (hx : opnd E x = some (.bool b)) (hy : opnd E y = some (if b = true then .bool c else undef)) (hz : opnd E z = some (.bool false)) :
    V P n w0 ro E M ⟨dst, .pick x y z, ty, pos, af, g⟩ (.bool (b && c)) :=
  .of_run fun a W f i => by cases b <;> simp [execOp, f.eval hx, f.eval hy, f.eval hz, asBool]
theorem V.or {b c : Bool} (hx : opnd E x = some (.bool b)) (hy : opnd E y = some (.bool true)) (hz : opnd E z = some (if b = false then .bool c else undef)) :
    V P n w0 ro E M ⟨dst, .pick x y z, ty, pos, af, g⟩ (.bool (b || c)) :=
  .of_run fun a W f i => by cases b <;> simp [execOp, f.eval hx, f.eval hy, f.eval hz, asBool]

/-- a bool under a name -/
theorem DE.mvB {i : Nat} {d : Nat} {e : Bool} (hi : ops[i]? = some ⟨dst, .move x, ty, pos, af, g⟩) (hg : g = none) (hd : dst = some d) (hn : Nat.blt d n = true) (hx : opnd E x = some (.bool e))
    (h : ∀ b, e = b → DE P n w0 ro ops Mc K is ((d, .bool b) :: E)) : DE P n w0 ro ops Mc K (i :: is) E := by
  subst hg
  exact DE.q hi rfl hd hn (V.mv hx) (h e rfl)
theorem DE.gv {i j s d : Nat} {t b : Bool} {o : Oper} {v : Value} (hi : ops[i]? = some o) (hg : o.guard = some (j, t)) (hj : (ops[j]?).bind (·.dst) = some s) (hb : find E s = some (.bool b))
    (hs : Nat.blt s n = true) (hd : o.dst = some d) (hn : Nat.blt d n = true) (hy : b = t → V P n w0 ro E Mc o v)
    (h : DE P n w0 ro ops Mc K is ((d, if b = t then v else undef) :: E)) : DE P n w0 ro ops Mc K (i :: is) E := by
  by_cases hbt : b = t
  · rw [if_pos hbt] at h
    subst hbt
    exact DE.gq hi hg hj hb hs hd hn (hy rfl) h
  · rw [if_neg hbt] at h
    exact DE.skip hi hg hj hb (by cases b <;> cases t <;> simp_all) hs hd hn h
/-- the guard's bool under a name, of a guarded operation -/
theorem DE.gvB {i j s d : Nat} {t b e : Bool} {o : Oper} (hi : ops[i]? = some o) (hg : o.guard = some (j, t)) (hj : (ops[j]?).bind (·.dst) = some s) (hb : find E s = some (.bool b))
    (hs : Nat.blt s n = true) (hd : o.dst = some d) (hn : Nat.blt d n = true) (hy : b = t → V P n w0 ro E Mc o (.bool e))
    (h : ∀ c, (b = t → e = c) → DE P n w0 ro ops Mc K is ((d, if b = t then .bool c else undef) :: E)) : DE P n w0 ro ops Mc K (i :: is) E :=
  DE.gv hi hg hj hb hs hd hn hy (h e fun _ => rfl)
theorem DE.gcv {i j s d : Nat} {t b : Bool} {v : Value} {F : FuncId} {l : List Operand} {vs : List Value} {ts : Array TypeId}
    (hi : ops[i]? = some ⟨dst, .call { callee := .value (.func F), args := l.toArray, argTypes := ts }, ty, pos, af, some (j, t)⟩)
    (hj : (ops[j]?).bind (·.dst) = some s) (hb : find E s = some (.bool b)) (hs : Nat.blt s n = true) (hd : dst = some d) (hn : Nat.blt d n = true)
    (hT : Tx P F) (hx : b = t → opnds E l = some vs) (hc : b = t → ∀ N, MSub N Mc → Pu P F vs.toArray w0 ro N v)
    (h : DE P n w0 ro ops Mc K is ((d, if b = t then v else undef) :: E)) : DE P n w0 ro ops Mc K (i :: is) E := by
  by_cases hbt : b = t
  · rw [if_pos hbt] at h
    have hx' := hx hbt
    have hc' := hc hbt
    subst hbt
    exact DE.gcall hi hj hb hs hd hn hT hx' hc' h
  · rw [if_neg hbt] at h
    exact DE.skip hi rfl hj hb (by cases b <;> cases t <;> simp_all) hs hd hn h

theorem not_of_flip {b t : Bool} (e : b = !t) : ¬ b = t := by subst e; cases t <;> decide
theorem J.mvB {d : Nat} {e : Bool} (hn : Nat.blt d n = true) (hx : opnd E x = some (.bool e))
    (h : ∀ b, e = b → J P Q n w0 ro ops l ((d, .bool b) :: E) M) : J P Q n w0 ro ops (⟨some d, .move x, ty, pos, af, none⟩ :: l) E M :=
  J.q rfl rfl hn (V.mv hx) (h e rfl)
theorem J.gv {j s d : Nat} {t b : Bool} {o : Oper} {v : Value} (hg : o.guard = some (j, t)) (hj : (ops[j]?).bind (·.dst) = some s) (hb : find E s = some (.bool b))
    (hs : Nat.blt s n = true) (hd : o.dst = some d) (hn : Nat.blt d n = true) (hy : b = t → V P n w0 ro E M o v)
    (h : J P Q n w0 ro ops l ((d, if b = t then v else undef) :: E) M) : J P Q n w0 ro ops (o :: l) E M :=
  J.grd hg hj hb hs (fun e => by rw [if_pos e] at h; exact JO.q hd hn (hy e) h) (fun e d' hd' => by
    rw [hd] at hd'; cases hd'
    rw [if_neg (not_of_flip e)] at h; exact h) ⟨d, hd, hn⟩
/-- a guard that is known: it is done, or it is not -/
theorem J.dn {j s d : Nat} {t : Bool} {o : Oper} {v : Value} (hg : o.guard = some (j, t)) (hj : (ops[j]?).bind (·.dst) = some s) (hb : find E s = some (.bool t))
    (hs : Nat.blt s n = true) (hd : o.dst = some d) (hn : Nat.blt d n = true) (hy : V P n w0 ro E M o v)
    (h : J P Q n w0 ro ops l ((d, v) :: E) M) : J P Q n w0 ro ops (o :: l) E M :=
  J.grd hg hj hb hs (fun _ => JO.q hd hn hy h) (fun e _ _ => by cases t <;> cases e) ⟨d, hd, hn⟩
theorem J.sk {j s d : Nat} {t : Bool} {o : Oper} (hg : o.guard = some (j, t)) (hj : (ops[j]?).bind (·.dst) = some s) (hb : find E s = some (.bool (!t)))
    (hs : Nat.blt s n = true) (hd : o.dst = some d) (hn : Nat.blt d n = true)
    (h : J P Q n w0 ro ops l ((d, undef) :: E) M) : J P Q n w0 ro ops (o :: l) E M :=
  J.grd hg hj hb hs (fun e => by cases t <;> cases e) (fun _ d' hd' => by rw [hd] at hd'; cases hd'; exact h) ⟨d, hd, hn⟩
theorem J.skU {j s d : Nat} {t : Bool} {o : Oper} (hg : o.guard = some (j, t)) (hj : (ops[j]?).bind (·.dst) = some s) (hb : find E s = some undef)
    (hs : Nat.blt s n = true) (hd : o.dst = some d) (hn : Nat.blt d n = true)
    (h : J P Q n w0 ro ops l ((d, undef) :: E) M) : J P Q n w0 ro ops (o :: l) E M := by
  intro a W f i
  have hsn : s < n := by simpa [Nat.blt_eq] using hs
  have hv : a.tmps[s]? = some undef := by
    have := f.slot s _ hb
    have hz := f.size
    rw [Array.getElem?_eq_getElem (by omega)]
    simp [Array.getD, hz, hsn] at this
    rw [this]
  have hy : yielded ops a.tmps j = none := by simp [yielded, hj, hv, undef]
  unfold wpList
  rw [if_neg (by simp [Region.wanted, hg, hy]), hd]
  exact h _ W (f.put undef hn) i
theorem J.mvG {d j s : Nat} {t e : Bool} (hj : (ops[j]?).bind (·.dst) = some s) (hb : find E s = some (.bool t)) (hs : Nat.blt s n = true) (hn : Nat.blt d n = true) (hx : opnd E x = some (.bool e))
    (h : ∀ b, e = b → J P Q n w0 ro ops l ((d, .bool b) :: E) M) : J P Q n w0 ro ops (⟨some d, .move x, ty, pos, af, some (j, t)⟩ :: l) E M :=
  J.dn rfl hj hb hs rfl hn (V.mv hx) (h e rfl)
theorem J.gcv {j s d : Nat} {t b : Bool} {v : Value} {F : FuncId} {as : List Operand} {vs : List Value} {ts : Array TypeId}
    (hj : (ops[j]?).bind (·.dst) = some s) (hb : find E s = some (.bool b)) (hs : Nat.blt s n = true) (hn : Nat.blt d n = true)
    (hT : Tx P F) (hx : b = t → opnds E as = some vs) (hc : b = t → Pu P F vs.toArray w0 ro M v)
    (h : J P Q n w0 ro ops l ((d, if b = t then v else undef) :: E) M) :
    J P Q n w0 ro ops (⟨some d, .call { callee := .value (.func F), args := as.toArray, argTypes := ts }, ty, pos, af, some (j, t)⟩ :: l) E M :=
  J.grd rfl hj hb hs (fun e => by rw [if_pos e] at h; exact JO.callP hn hT (hx e) (hc e) h) (fun e d' hd' => by
    cases hd'
    rw [if_neg (not_of_flip e)] at h; exact h) ⟨d, rfl, hn⟩

/-- two ways meet again: what is told behind them -/
theorem C.cut {σ : Type} {c y : Code} (I : σ → Env) (R : σ → Res) (h : C P (Exit.then (fun a w => ∃ s, Fits n (I s) a ∧ Inv w0 ro (R s) w) Q) n w0 ro c E M)
    (k : ∀ s, C P Q n w0 ro y (I s) (R s)) : C P Q n w0 ro (.seq c y) E M :=
  C.seq fun a W f i => Code.wp_mono (fun e a' w' q => by
    cases e with
    | normal => obtain ⟨s, fs, is⟩ := q; exact k s a' w' fs is
    | exit _ => exact q
    | goto _ => exact q
    | ret => exact q
    | panic _ => exact q
    | outgrown => exact q) (h a W f i)
theorem Po.cut {σ : Type} {I : σ → Env} {R : σ → Res} (s : σ) (hE : Sub E (I s)) (hM : MSub M (R s)) :
    Po (Exit.then (fun a w => ∃ s, Fits n (I s) a ∧ Inv w0 ro (R s) w) Q) n w0 ro .normal E M := fun _ _ f i => ⟨s, f.sub hE, i.sub hM⟩
end
end Go.Sx
namespace Go.Db
open Go Go.Sx

/-- the type of hashes -/
structure HT (P : Program) (T e : Nat) : Prop where
  ut : P.underlying T = some (.array 8 e)
  ue : P.underlying e = some (.int .u8)
  ce : P.cellsOf e = 1
  cT : P.cellsOf T = 8
  k : Kt P T 2
theorem hc_ints (h : Hash) : hc h = (h.toList.map fun b => (b.toNat : Int)).map (Value.int .u8) := by simp [hc, bv]
theorem wf_byte (b : UInt8) : (Lit.int .u8 (b.toNat : Int)).wf = true := by
  have : b.toNat < 256 := UInt8.toNat_lt b
  have h1 : IntKind.u8.min = 0 := rfl
  have h2 : IntKind.u8.max = 255 := rfl
  simp only [Lit.wf, h1, h2, Bool.and_eq_true, decide_eq_true_eq]
  omega
theorem Kl.hash {P : Program} {T e : Nat} (t : HT P T e) (h : Hash) : Kl P T 2 (hc h) := by
  rw [hc_ints]
  exact Kl.ints (m := 0) t.ut t.ue t.ce t.cT _ (by simp) fun x hx => by
    obtain ⟨b, _, rfl⟩ := List.mem_map.1 hx
    exact wf_byte b
section
variable {P : Program} {n : Nat} {w0 : World} {ro : Hp} {E : Env} {M : Res}
variable {dst : Option Tmp} {ty T T' : TypeId} {pos : String} {af : Array Edge} {g : Option (Nat × Bool)} {x y : Operand} {e : Nat} {a b : Hash}
theorem hv_eq : (hc a).toArray = (hc b).toArray ↔ a = b := ⟨fun h => hc_inj (by simpa using congrArg Array.toList h), fun h => by rw [h]⟩
theorem V.eqlH (hx : opnd E x = some (hv a)) (hy : opnd E y = some (hv b)) (t : HT P T e) : V P n w0 ro E M ⟨dst, .binOp .eql T x y T', ty, pos, af, g⟩ (.bool (decide (a = b))) :=
  V.eqlK (xs := (hc a).toArray) (ys := (hc b).toArray) hx hy t.k (by simpa using Kl.hash t a) (by simpa using Kl.hash t b) hv_eq
theorem V.neqH (hx : opnd E x = some (hv a)) (hy : opnd E y = some (hv b)) (t : HT P T e) : V P n w0 ro E M ⟨dst, .binOp .neq T x y T', ty, pos, af, g⟩ (.bool (decide (¬ a = b))) :=
  V.neqK (xs := (hc a).toArray) (ys := (hc b).toArray) hx hy t.k (by simpa using Kl.hash t a) (by simpa using Kl.hash t b) hv_eq
theorem V.bldH0 {s : Nat} (hx : opnds E [] = some []) (hT : Ar P T 8 e s) (hz : Zr P T [(8, hv h0)]) : V P n w0 ro E M ⟨dst, .build T #[], ty, pos, af, g⟩ (hv h0) := by
  obtain ⟨zv, hz1, hz2⟩ := hz.ex
  refine .of_run fun a W f i => ?_
  have hzz : (zeroValue T).run P W = .ok zv W := by
    cases hq : P.info? T with
    | none => simp [hq] at hz1
    | some i => simp [hq] at hz1; simp [zeroValue, typeInfo, hq, hz1]
  have hzc : zv.cells = (hc h0).toArray := by rw [← Array.toList_inj, hz2]; simp [flat, hv, Value.cells]
  simp [execOp, Instr.build, hzz, run_underlying hT.1, Go.Sx.run_sizeOf hT.2, hzc, Instr.fill, hv]
end
theorem eH {a b : Hash} (h : a = b) : Ending.returned (.agg (hc a).toArray) = .returned (hv b) := by rw [h]; rfl
theorem eB {a b : Bool} (h : a = b) : Ending.returned (.bool a) = .returned (.bool b) := by rw [h]
theorem eI {k : IntKind} {a b : Int} (h : a = b) : Ending.returned (.int k a) = .returned (.int k b) := by rw [h]
theorem decide_tt {p : Prop} [Decidable p] (h : decide p = true) : p := of_decide_eq_true h
theorem decide_ff {p : Prop} [Decidable p] (h : decide p = false) : ¬ p := of_decide_eq_false h
end Go.Db
namespace Go.Db
open Go Go.Sx

def wv (x : UInt32) : Value := .int .u32 (x.toNat : Int)
instance {x : UInt32} : Cz (wv x) 1 := inferInstanceAs (Cz (.int .u32 (x.toNat : Int)) 1)

theorem wrap32 (i : Int) : IntKind.u32.wrap i = i % 4294967296 := rfl
theorem wrap8 (i : Int) : IntKind.u8.wrap i = i % 256 := rfl
theorem ofInt32 (x : UInt32) : BitVec.ofInt 32 (x.toNat : Int) = x.toBitVec := by
  rw [BitVec.ofInt_natCast]; simp
theorem run_u32 {P : Program} (c : UInt32) (W : World) : (Sem.run P (pure (Value.int .u32 (IntKind.u32.wrap (c.toNat : Int)))) W) = .ok (wv c) W := by
  have h : IntKind.u32.wrap (c.toNat : Int) = (c.toNat : Int) := by have := UInt32.toNat_lt c; rw [wrap32]; omega
  rw [h]; rfl
theorem u32_lt (x : UInt32) : x.toNat < 4294967296 := UInt32.toNat_lt x

section
variable {P : Program} {n : Nat} {w0 : World} {ro : Hp} {E : Env} {M : Res}
variable {dst : Option Tmp} {ty T T' : TypeId} {pos : String} {af : Array Edge} {g : Option (Nat × Bool)} {x y : Operand} {a b : UInt32}
theorem V.add32 (hx : opnd E x = some (wv a)) (hy : opnd E y = some (wv b)) : V P n w0 ro E M ⟨dst, .binOp .add T x y T', ty, pos, af, g⟩ (wv (a + b)) :=
  V.bin (k := .u32) hx hy fun W => by
    simp only [binOp, Op.intArith, wv]
    rw [wrap32]; simp [UInt32.toNat_add]
theorem V.xor32 (hx : opnd E x = some (wv a)) (hy : opnd E y = some (wv b)) : V P n w0 ro E M ⟨dst, .binOp .xor T x y T', ty, pos, af, g⟩ (wv (a ^^^ b)) :=
  V.bin (k := .u32) hx hy fun W => by
    have h : (BitVec.ofInt 32 (a.toNat : Int) ^^^ BitVec.ofInt 32 (b.toNat : Int)).toNat = (a ^^^ b).toNat := by rw [ofInt32, ofInt32]; rfl
    simp only [binOp, Op.intBits, wv]
    show (Sem.run P (pure (Value.int .u32 (IntKind.u32.wrap ((BitVec.ofInt 32 (a.toNat : Int) ^^^ BitVec.ofInt 32 (b.toNat : Int)).toNat : Int)))) W) = _
    rw [h]; exact run_u32 _ W
theorem V.and32 (hx : opnd E x = some (wv a)) (hy : opnd E y = some (wv b)) : V P n w0 ro E M ⟨dst, .binOp .and T x y T', ty, pos, af, g⟩ (wv (a &&& b)) :=
  V.bin (k := .u32) hx hy fun W => by
    have h : (BitVec.ofInt 32 (a.toNat : Int) &&& BitVec.ofInt 32 (b.toNat : Int)).toNat = (a &&& b).toNat := by rw [ofInt32, ofInt32]; rfl
    show (Sem.run P (pure (Value.int .u32 (IntKind.u32.wrap ((BitVec.ofInt 32 (a.toNat : Int) &&& BitVec.ofInt 32 (b.toNat : Int)).toNat : Int)))) W) = _
    rw [h]; exact run_u32 _ W
theorem V.or32 (hx : opnd E x = some (wv a)) (hy : opnd E y = some (wv b)) : V P n w0 ro E M ⟨dst, .binOp .or T x y T', ty, pos, af, g⟩ (wv (a ||| b)) :=
  V.bin (k := .u32) hx hy fun W => by
    have h : (BitVec.ofInt 32 (a.toNat : Int) ||| BitVec.ofInt 32 (b.toNat : Int)).toNat = (a ||| b).toNat := by rw [ofInt32, ofInt32]; rfl
    show (Sem.run P (pure (Value.int .u32 (IntKind.u32.wrap ((BitVec.ofInt 32 (a.toNat : Int) ||| BitVec.ofInt 32 (b.toNat : Int)).toNat : Int)))) W) = _
    rw [h]; exact run_u32 _ W
theorem V.not32 (hx : opnd E x = some (wv a)) : V P n w0 ro E M ⟨dst, .unOp .xor T x, ty, pos, af, g⟩ (wv (~~~ a)) :=
  .of_run fun a' W f i => by
    have h : (BitVec.ofInt 32 (4294967295 : Int) ^^^ BitVec.ofInt 32 (a.toNat : Int)).toNat = (~~~ a).toNat := by
      rw [ofInt32]
      have : BitVec.ofInt 32 (4294967295 : Int) = BitVec.allOnes 32 := by decide
      rw [this, BitVec.allOnes_xor]; rfl
    have hr : (Op.unary .xor (wv a)).run P W = .ok (.int .u32 (IntKind.u32.wrap ((BitVec.ofInt 32 (4294967295 : Int) ^^^ BitVec.ofInt 32 (a.toNat : Int)).toNat : Int))) W := rfl
    simp only [execOp, f.eval hx, Sem.run_bind, hr, Result.andThen_ok, Sem.run_pure]
    rw [h, wrap32]; have := u32_lt (~~~ a); simp only [wv]; congr 4; omega
/-- a shift by a number that stands in the text -/
theorem V.shr32 {k' : IntKind} {s : UInt32} (hx : opnd E x = some (wv a)) (hy : opnd E y = some (.int k' (s.toNat : Int))) (h : s.toNat < 32) : V P n w0 ro E M ⟨dst, .binOp .shr T x y T', ty, pos, af, g⟩ (wv (a >>> s)) := by
  have := V.shr (P := P) (n := n) (w0 := w0) (ro := ro) (M := M) (dst := dst) (T := T) (T' := T') (ty := ty) (pos := pos) (af := af) (g := g) (k := .u32) hx hy ⟨by omega, by simp [IntKind.bits]; omega⟩
  have e : ((a.toNat : Int) / 2 ^ ((s.toNat : Int).toNat)) = ((a >>> s).toNat : Int) := by
    rw [UInt32.toNat_shiftRight, Nat.mod_eq_of_lt h, Nat.shiftRight_eq_div_pow]; simp
  rw [e] at this; exact this
theorem V.shl32 {k' : IntKind} {s : UInt32} (hx : opnd E x = some (wv a)) (hy : opnd E y = some (.int k' (s.toNat : Int))) (h : s.toNat < 32) : V P n w0 ro E M ⟨dst, .binOp .shl T x y T', ty, pos, af, g⟩ (wv (a <<< s)) := by
  have := V.shl (P := P) (n := n) (w0 := w0) (ro := ro) (M := M) (dst := dst) (T := T) (T' := T') (ty := ty) (pos := pos) (af := af) (g := g) (k := .u32) hx hy ⟨by omega, by simp [IntKind.bits]; omega⟩
  have e : IntKind.u32.wrap ((a.toNat : Int) * 2 ^ ((s.toNat : Int).toNat)) = ((a <<< s).toNat : Int) := by
    rw [UInt32.toNat_shiftLeft, Nat.mod_eq_of_lt h, Nat.shiftLeft_eq, wrap32]; simp
  rw [e] at this; exact this
/-- a byte as a word, a word as a byte -/
theorem V.cvBW {d : TypeDesc} {c : UInt8} (h : opnd E x = some (bv c)) (hs : P.underlying T = some d) (hd : P.underlying T' = some (.int .u32)) :
    V P n w0 ro E M ⟨dst, .convert T T' x, ty, pos, af, g⟩ (wv c.toUInt32) := by
  have := V.cv (n := n) (w0 := w0) (ro := ro) (M := M) (dst := dst) (ty := ty) (pos := pos) (af := af) (g := g) (k' := .u8) h hs hd
  have e : IntKind.u32.wrap (c.toNat : Int) = (c.toUInt32.toNat : Int) := by
    have := UInt8.toNat_lt c
    rw [wrap32]; simp; omega
  rw [e] at this; exact this
theorem V.cvWB {d : TypeDesc} (h : opnd E x = some (wv a)) (hs : P.underlying T = some d) (hd : P.underlying T' = some (.int .u8)) :
    V P n w0 ro E M ⟨dst, .convert T T' x, ty, pos, af, g⟩ (bv a.toUInt8) := by
  have := V.cv (n := n) (w0 := w0) (ro := ro) (M := M) (dst := dst) (ty := ty) (pos := pos) (af := af) (g := g) (k' := .u32) h hs hd
  have e : IntKind.u8.wrap (a.toNat : Int) = (a.toUInt8.toNat : Int) := by rw [wrap8]; simp
  rw [e] at this; exact this
theorem V.and64 {a b : Nat} (hx : opnd E x = some (.int .u64 (a : Int))) (hy : opnd E y = some (.int .u64 (b : Int))) (ha : a < 18446744073709551616) (hb : b < 18446744073709551616) :
    V P n w0 ro E M ⟨dst, .binOp .and T x y T', ty, pos, af, g⟩ (.int .u64 ((a &&& b : Nat) : Int)) :=
  V.bin hx hy fun W => by
    have h : (BitVec.ofInt 64 (a : Int) &&& BitVec.ofInt 64 (b : Int)).toNat = a &&& b := by
      rw [BitVec.ofInt_natCast, BitVec.ofInt_natCast, BitVec.toNat_and, BitVec.toNat_ofNat, BitVec.toNat_ofNat, Nat.mod_eq_of_lt ha, Nat.mod_eq_of_lt hb]
    show (Sem.run P (pure (Value.int .u64 (IntKind.u64.wrap ((BitVec.ofInt 64 (a : Int) &&& BitVec.ofInt 64 (b : Int)).toNat : Int)))) W) = _
    rw [h, IntKind.wrap_u64]
    have : a &&& b ≤ a := Nat.and_le_left
    rw [Int.emod_eq_of_lt (by omega) (by omega)]; rfl
end
end Go.Db
namespace Go.Sx
open Go

/-- an array's elements as leaves -/
def uni {α : Type} (enc : α → Value) (s : Nat) (l : List α) : Lv := l.map fun x => (s, enc x)
instance {α : Type} {enc : α → Value} {s : Nat} {l : List α} [h : ∀ x, Cz (enc x) s] : Wc (uni enc s l) := ⟨fun p hp => by
  obtain ⟨x, _, rfl⟩ := List.mem_map.1 hp
  exact ⟨(h x).sz, (h x).ones⟩⟩
theorem lsz_uni {α : Type} {enc : α → Value} {s : Nat} : ∀ (l : List α), lsz (uni enc s l) = l.length * s
  | [] => by simp [uni, lsz]
  | x :: l => by
    have := lsz_uni (enc := enc) (s := s) l
    simp only [uni, List.map_cons, lsz, List.length_cons] at this ⊢
    rw [this, Nat.add_mul]; omega
theorem uni_take {α : Type} {enc : α → Value} {s : Nat} {l : List α} {i : Nat} : (uni enc s l).take i = uni enc s (l.take i) := by simp [uni, List.map_take]
theorem uni_get {α : Type} {enc : α → Value} {s : Nat} {l : List α} {i : Nat} {x : α} (h : l[i]? = some x) : (uni enc s l)[i]? = some (s, enc x) := by simp [uni, h]
theorem uni_set {α : Type} {enc : α → Value} {s : Nat} {l : List α} {i : Nat} {x : α} : (uni enc s l).set i (s, enc x) = uni enc s (l.set i x) := by simp [uni, List.map_set]
theorem lsz_take {α : Type} {enc : α → Value} {s : Nat} {l : List α} {i : Nat} {x : α} (h : l[i]? = some x) : lsz ((uni enc s l).take i) = i * s := by
  have := (List.getElem?_eq_some_iff.1 h).1
  rw [uni_take, lsz_uni, List.length_take, Nat.min_eq_left (by omega)]
theorem flat_uni1 {α : Type} {enc : α → Value} (h : ∀ x, (enc x).cells = #[enc x]) : ∀ (l : List α), flat (uni enc 1 l) = l.map enc
  | [] => rfl
  | x :: l => by
    have := flat_uni1 h l
    simp only [uni, List.map_cons, flat, h] at this ⊢
    rw [this]; rfl
theorem flat_uniA {α : Type} {enc : α → List Value} {s : Nat} : ∀ (l : List α), flat (uni (fun x => .agg (enc x).toArray) s l) = l.flatMap enc
  | [] => rfl
  | x :: l => by
    have := flat_uniA (enc := enc) (s := s) l
    simp only [uni, List.map_cons, flat, List.flatMap_cons] at this ⊢
    rw [this]; rfl

section
variable {P : Program} {Q : Exit → Act → World → Prop} {n : Nat} {w0 : World} {ro : Hp} {E : Env} {M R R2 : Res}
variable {dst : Option Tmp} {ty T T' T0 : TypeId} {pos : String} {af : Array Edge} {g : Option (Nat × Bool)} {x y z : Operand}
variable {α : Type} {enc : α → Value} {l : List α}

theorem V.ldU {b off i lab : Nat} {u : α} (hx : opnd E x = some (.pointer (some ⟨b, off, none⟩))) (hp : pull M lab = some (St b (uni enc 1 l) T0, R)) (hT : Sc P T)
    (hi : l[i]? = some u) (ho : off = i * 1) (hc : (enc u).cells = #[enc u]) : V P n w0 ro E M ⟨dst, .load T x, ty, pos, af, g⟩ (enc u) :=
  V.ldS lab hx hp hT (uni_get hi) ((lsz_take hi).trans ho.symm) hc
theorem V.ldUA {b off i s lab : Nat} {u : α} {cs : Array Value} (hx : opnd E x = some (.pointer (some ⟨b, off, none⟩))) (hp : pull M lab = some (St b (uni enc s l) T0, R)) (hT : Ag P T s)
    (hi : l[i]? = some u) (ho : off = i * s) (hc : enc u = .agg cs) : V P n w0 ro E M ⟨dst, .load T x, ty, pos, af, g⟩ (enc u) := by
  have h := uni_get (enc := enc) (s := s) hi
  rw [hc] at h ⊢
  exact V.ldA lab hx hp hT h ((lsz_take hi).trans ho.symm)
theorem JO.stU {K : Act → World → Prop} {b off i s lab : Nat} {u v : α} (hx : opnd E x = some (.pointer (some ⟨b, off, none⟩))) (hy : opnd E y = some (enc u))
    (hp : pull M lab = some (St b (uni enc s l) T0, R)) (hT : (P.info? T).map (·.size) = some s) (hi : l[i]? = some v) (ho : off = i * s) [Cz (enc u) s]
    (h : Kp n w0 ro K E ((lab, St b (uni enc s (l.set i u)) T0) :: R)) : JO P Q n w0 ro K ⟨none, .store T x y, ty, pos, af, g⟩ E M :=
  JO.st hx hy hp hT (uni_get hi) ((lsz_take hi).trans ho.symm) (by rw [uni_set]; exact h)
/-- an element of an array's value -/
theorem V.ixU {len e i : Nat} {k : IntKind} {j : Int} {u : α} (hx : opnd E x = some (ag (uni enc 1 l))) (hy : opnd E y = some (.int k j)) (hT : Ar P T len e 1) (he : Sc P e) [∀ x, Cz (enc x) 1]
    (hi : l[i]? = some u) (hj : j = (i : Int)) (hl : i < len) (hc : ∀ x, (enc x).cells = #[enc x]) : V P n w0 ro E M ⟨dst, .index T x y, ty, pos, af, g⟩ (enc u) :=
  .of_run fun a W f iv => by
    subst hj
    obtain ⟨⟨d, hd, hd2⟩, hs⟩ := he
    have hagg : (isAgg e).run P W = .ok false W := by
      unfold isAgg
      rw [Sem.run_bind, run_underlying hd W]
      cases d <;> simp_all
    have hg : (flat (uni enc 1 l)).toArray[i]? = some (enc u) := by rw [flat_uni1 hc]; simp [hi]
    have hpart : (part e (flat (uni enc 1 l)).toArray i).run P W = .ok (enc u) W := by
      unfold part
      rw [Sem.run_bind, hagg]
      simp only [Result.andThen_ok, Bool.false_eq_true, if_false, hg, Sem.run_pure]
    have hlt : (i : Int) < (len : Int) := by omega
    simp [execOp, f.eval hx, f.eval hy, Instr.index, asIntOf, run_underlying hT.1, ag, hlt, Go.Sx.run_sizeOf hT.2, hpart]
    intro hle; exact absurd hle (by omega)
theorem V.ixUA {len e i s : Nat} {k : IntKind} {j : Int} {u : α} {ec : α → List Value} {l : List α} (hx : opnd E x = some (.agg (l.flatMap ec).toArray)) (hy : opnd E y = some (.int k j)) (hT : Ar P T len e s) (he : Ag P e s)
    (hs : ∀ x, (ec x).length = s) (hi : l[i]? = some u) (hj : j = (i : Int)) (hl : i < len) : V P n w0 ro E M ⟨dst, .index T x y, ty, pos, af, g⟩ (.agg (ec u).toArray) :=
  .of_run fun a W f iv => by
    subst hj
    obtain ⟨⟨d, hd, hd2⟩, hsz⟩ := he
    have hagg : (isAgg e).run P W = .ok true W := by
      unfold isAgg
      rw [Sem.run_bind, run_underlying hd W]
      cases d <;> simp_all
    have hg : (l.flatMap ec).toArray.extract (i * s) (i * s + s) = (ec u).toArray := by
      obtain ⟨hlt, he⟩ := List.getElem?_eq_some_iff.1 hi
      have e1 : l = l.take i ++ u :: l.drop (i + 1) := by
        conv => lhs; rw [← List.take_append_drop i l, List.drop_eq_getElem_cons hlt, he]
      have hlen : ∀ m : List α, (m.flatMap ec).length = m.length * s := by
        intro m
        induction m with
        | nil => simp
        | cons y m ih => rw [List.flatMap_cons, List.length_append, ih, hs, List.length_cons, Nat.add_mul]; omega
      have h1 : ((l.take i).flatMap ec).length = i * s := by rw [hlen, List.length_take, Nat.min_eq_left (by omega)]
      rw [List.extract_toArray]
      congr 1
      rw [List.extract_eq_take_drop]
      conv => lhs; rw [e1]
      rw [List.flatMap_append, List.flatMap_cons, List.drop_left' h1]
      rw [Nat.add_sub_cancel_left, List.take_left' (hs u)]
    have hpart : (part e (l.flatMap ec).toArray (i * s)).run P W = .ok (.agg (ec u).toArray) W := by
      unfold part
      rw [Sem.run_bind, hagg]
      simp only [Result.andThen_ok, if_true, Sem.run_bind, Go.Sx.run_sizeOf hsz, Sem.run_pure, hg]
    have hlt : (i : Int) < (len : Int) := by omega
    simp [execOp, f.eval hx, f.eval hy, Instr.index, asIntOf, run_underlying hT.1, hlt, Go.Sx.run_sizeOf hT.2, hpart]
    intro hle; exact absurd hle (by omega)

/-- bounds of a slice expression as operands -/
def bnd (E : Env) (o : Option Operand) (dflt : Nat) (b : Nat) : Prop := match o with
  | none => b = dflt
  | some x => ∃ k, opnd E x = some (.int k (b : Int))
theorem run_sliceBound {k : IntKind} {b m : Nat} {code : BoundsCode} (h : b ≤ m) (W : World) : (Instr.sliceBound (.int k (b : Int)) m code).run P W = .ok b W := by
  simp [Instr.sliceBound, asIntOf, h]
theorem run_bounds {isS : Bool} {len cap lo hi : Nat} {low high : Option Operand} {a : Act} (f : Fits n E a) (hl : bnd E low 0 lo) (hh : bnd E high len hi) (h1 : lo ≤ hi) (h2 : hi ≤ cap) (W : World) :
    (Instr.sliceBounds isS len cap (low.map a.eval) (high.map a.eval) none).run P W = .ok (lo, hi, cap) W := by
  have e1 : ∀ (v : Value), (∃ k, v = .int k (hi : Int)) → ∀ c, (Instr.sliceBound v cap c).run P W = .ok hi W := by
    rintro v ⟨k, rfl⟩ c; exact run_sliceBound h2 W
  have e2 : ∀ (v : Value), (∃ k, v = .int k (lo : Int)) → ∀ c, (Instr.sliceBound v hi c).run P W = .ok lo W := by
    rintro v ⟨k, rfl⟩ c; exact run_sliceBound h1 W
  unfold Instr.sliceBounds
  cases high with
  | none =>
    simp only [bnd] at hh
    subst hh
    cases low with
    | none => simp only [bnd] at hl; subst hl; simp
    | some x =>
      obtain ⟨k, hx⟩ := hl
      simp [e2 _ ⟨k, f.eval hx⟩]
  | some y =>
    obtain ⟨k, hy⟩ := hh
    cases low with
    | none => simp only [bnd] at hl; subst hl; simp [e1 _ ⟨k, f.eval hy⟩]
    | some x =>
      obtain ⟨k', hx⟩ := hl
      simp [e1 _ ⟨k, f.eval hy⟩, e2 _ ⟨k', f.eval hx⟩]
/-- a slice of an array in a box -/
theorem V.slA {b off len e s lo hi : Nat} {low high : Option Operand} (hx : opnd E x = some (.pointer (some ⟨b, off, none⟩))) (hT : Ar P T len e s) (hl : bnd E low 0 lo) (hh : bnd E high len hi) (h1 : lo ≤ hi) (h2 : hi ≤ len) (h3 : lo < len) :
    V P n w0 ro E M ⟨dst, .slice T x low high none, ty, pos, af, g⟩ (.slice (some ⟨b, off + lo * s, none⟩) (hi - lo) (len - lo)) :=
  .of_run fun a W f iv => by
    have hb := run_bounds (P := P) (isS := false) f hl hh h1 h2 W
    have hne : len ≠ lo := by omega
    simp [execOp, f.eval hx, Instr.sliceAt, run_underlying hT.1, Instr.sureAddr, hb, Go.Sx.run_sizeOf hT.2, hne, addr_add]

/-- part of a slice -/
def subS (v : Value) (lo hi sz : Nat) : Value := match v with
  | .slice a len cap => .slice (if cap = lo then a else a.map (·.add (lo * sz))) (hi - lo) (cap - lo)
  | v => v
theorem V.slR {v : Value} {xs : List (List Value)} {e sz lo hi : Nat} {low high : Option Operand} (hx : opnd E x = some v) (hR : RS ro v sz xs) (hT : Sl P T e sz) (hl : bnd E low 0 lo) (hh : bnd E high xs.length hi) (h1 : lo ≤ hi) (h2 : hi ≤ xs.length) :
    V P n w0 ro E M ⟨dst, .slice T x low high none, ty, pos, af, g⟩ (subS v lo hi sz) := by
  obtain ⟨a, c, rfl, hlc⟩ := hR.shape
  refine .of_run fun a W f iv => ?_
  have hb := run_bounds (P := P) (isS := true) (cap := c) f hl hh h1 (by omega) W
  simp [execOp, f.eval hx, Instr.sliceAt, Instr.slice, run_underlying hT.1, hb, Go.Sx.run_sizeOf hT.2, subS]

theorem subS_at {b o len c lo hi sz : Nat} (h : lo < hi) (hc : hi ≤ c) : subS (.slice (some ⟨b, o, none⟩) len c) lo hi sz = .slice (some ⟨b, o + lo * sz, none⟩) (hi - lo) (c - lo) := by
  have : c ≠ lo := by omega
  simp [subS, this, addr_add]
theorem RS.sub {v : Value} {xs : List (List Value)} {sz lo hi : Nat} (h : RS ro v sz xs) (h1 : lo ≤ hi) (h2 : hi ≤ xs.length) : RS ro (subS v lo hi sz) sz ((xs.drop lo).take (hi - lo)) := by
  have hlen : ((xs.drop lo).take (hi - lo)).length = hi - lo := by rw [List.length_take, List.length_drop]; omega
  refine ⟨?_, fun x hx => h.each x (List.mem_of_mem_drop (List.mem_of_mem_take hx)), fun hne => ?_⟩
  · obtain ⟨a, c, rfl, hc⟩ := h.shape
    exact ⟨_, c - lo, by rw [hlen]; rfl, by rw [hlen]; omega⟩
  · have hlt : lo < hi := by
      rcases Nat.lt_or_ge lo hi with g | g
      · exact g
      · exfalso; apply hne; apply List.eq_nil_of_length_eq_zero; rw [hlen]; omega
    obtain ⟨c, cs, T, fr, hv, hr, hm⟩ := h.mem (by intro e; subst e; simp at h2; omega)
    obtain ⟨a', c', hv', hc'⟩ := h.shape
    have hcc : c = c' := by rw [hv] at hv'; cases hv'; rfl
    subst hcc
    have hs : subS v lo hi sz = .slice (some ⟨slB v, slO v + lo * sz, none⟩) (hi - lo) (c - lo) := by
      rw [hv]; simp only [slB, slO]
      have : c ≠ lo := by omega
      simp [subS, this, addr_add]
    refine ⟨c - lo, cs, T, fr, by rw [hs, hlen]; rfl, by rw [hs]; exact hr, fun i x hx j u hu => ?_⟩
    rw [List.getElem?_take] at hx
    split at hx
    · rw [List.getElem?_drop] at hx
      have := hm (lo + i) x hx j u hu
      rw [hs]
      show cs[slO v + lo * sz + i * sz + j]? = _
      rw [← this, Nat.add_mul]
      congr 1
      omega
    · cases hx
/-- what a box holds, as a slice -/
theorem RS.box {b o len cap sz : Nat} {vs : Lv} {xs : List (List Value)} (hb : ro b = some (.cells (flat vs).toArray T (0, 0))) (hl : xs.length = len) (hc : len ≤ cap) (he : ∀ x ∈ xs, x.length = sz ∧ Ones x)
    (hx : ∀ i x, xs[i]? = some x → ∀ j u, x[j]? = some u → (flat vs)[o + i * sz + j]? = some u) : RS ro (.slice (some ⟨b, o, none⟩) len cap) sz xs := by
  subst hl
  exact ⟨⟨_, _, rfl, hc⟩, he, fun _ => ⟨cap, _, T, (0, 0), rfl, hb, fun i x h j u hj => by simpa [slO] using hx i x h j u hj⟩⟩

theorem JO.copy {K : Act → World → Prop} {b o1 n1 c1 n2 c2 e lab d : Nat} {a2 : Addr} {vs vs' : Lv} {srcs : List Value} {D S : TypeId} (hn : Nat.blt d n = true)
    (hx : opnd E x = some (.slice (some ⟨b, o1, none⟩) n1 c1)) (hy : opnd E y = some (.slice (some a2) n2 c2)) (hT : Sl P D e 1) (hp : pull M lab = some (St b vs T0, R))
    (hsrc : ∀ W, Sx.Inv w0 ro M W → ∀ j u, srcs[j]? = some u → W.cell? (a2.add j) = some u) (h1 : Ones srcs) (hl : srcs.length = min n2 n1) (hfit : o1 + srcs.length ≤ lsz vs)
    (hfl : flat vs' = (flat vs).take o1 ++ srcs ++ (flat vs).drop (o1 + srcs.length)) [hw : Wc vs']
    (h : Kp n w0 ro K ((d, .int .i64 (srcs.length : Int)) :: E) ((lab, St b vs' T0) :: R)) :
    JO P Q n w0 ro K ⟨some d, .call { callee := .builtin .copy, args := #[x, y], argTypes := #[D, S] }, ty, pos, af, g⟩ E M := fun a W f iv => by
  obtain ⟨h2, h3⟩ := iv.box hp
  have hlen : (flat vs).length = lsz vs := h3.flat_length
  have hr := run_copy_row (P := P) W D S ty e b o1 n1 c1 a2 n2 c2 _ T0 srcs hT.1 hT.2 h2 (by simpa using hl) (hsrc W iv) (by simpa [hlen] using hfit) h1
  simp only [] at hr
  rw [← hfl] at hr
  unfold Oper.wp
  simp only [execOp, resolve, invoke, builtin, Sem.run_bind, Sem.run_pure, Result.andThen_ok, List.map_toArray, List.map_cons, List.map_nil, f.eval hx, f.eval hy, hr, Oper.upon_value]
  refine h _ _ (f.put _ hn) ?_
  refine (iv.pull hp).turn rfl rfl rfl fun k hk hA => ⟨fun j => if j = b then some (.cells (flat vs').toArray T0 (0, 0)) else none, ⟨if_pos rfl, hw.wl⟩, ?_, ?_, ?_⟩
  · intro j o hj
    by_cases hjb : j = b
    · subst hjb; dsimp only at hj; rw [if_pos rfl] at hj; cases hj; exact setRow_hp h2
    · dsimp only at hj; rw [if_neg hjb] at hj; cases hj
  · intro j o hj
    by_cases hjb : j = b
    · subst hjb; left; rw [hA.1]; simp
    · dsimp only at hj; rw [if_neg hjb] at hj; cases hj
  · intro j o hj hn
    have : j ≠ b := by intro e; subst e; rw [hA.1] at hn; cases hn
    show (W.setRow b _).heap[j]? = _
    rw [setRow_other W b j _ this]; exact hj
/-- what a box holds, as a copy's source -/
theorem src_box {b o lab : Nat} {vs : Lv} {srcs : List Value} (hp : pull M lab = some (St b vs T0, R)) (hs : ∀ j u, srcs[j]? = some u → (flat vs)[o + j]? = some u) :
    ∀ W, Sx.Inv w0 ro M W → ∀ j u, srcs[j]? = some u → W.cell? ((⟨b, o, none⟩ : Addr).add j) = some u := by
  intro W iv j u hj
  obtain ⟨h2, h3⟩ := iv.box hp
  rw [addr_add, cell_of_row W _ _ _ T0 (0, 0) h2]
  simpa using hs j u hj
end
end Go.Sx
namespace Go.Sx
open Go
/-- '==' yields this -/
def Eqv (P : Program) (k T : Nat) (x y : Value) (b : Bool) : Prop := ∀ d W, k ≤ d → (Op.equalIn d T x y).run P W = .ok b W
def EF (P : Program) (k : Nat) (xs ys : Array Value) (fs : List Field) (b : Bool) : Prop := ∀ d W, k ≤ d → (Op.eqFields d xs ys fs).run P W = .ok b W
/-- a part of a value -/
def Pt (P : Program) (T : Nat) (xs : Array Value) (off : Nat) (x : Value) : Prop := ∀ W, (part T xs off).run P W = .ok x W
/-- fit for a key -/
def Ck (P : Program) (k T : Nat) (x : Value) : Prop := ∀ em d W, k ≤ d → (Instr.checkKey em d T x).run P W = .ok () W
section
variable {P : Program} {k T : Nat}
theorem Eqv.to {x y : Value} {b c : Bool} (h : Eqv P k T x y b) (e : b = c) : Eqv P k T x y c := e ▸ h
theorem Eqv.up {x y : Value} {b : Bool} {m : Nat} (h : Eqv P k T x y b) (e : k ≤ m) : Eqv P m T x y b := fun d W hd => h d W (by omega)
theorem Eqv.int {q : IntKind} {a b : Int} (ht : P.underlying T = some (.int q)) : Eqv P 1 T (.int q a) (.int q b) (decide (a = b)) := fun d W hd => by
  obtain ⟨d, rfl⟩ : ∃ m, d = m + 1 := ⟨d - 1, by omega⟩
  simp [Op.equalIn, run_underlying ht, beq_dec]
theorem Eqv.bool {a b : Bool} (ht : P.underlying T = some .bool) : Eqv P 1 T (.bool a) (.bool b) (decide (a = b)) := fun d W hd => by
  obtain ⟨d, rfl⟩ : ∃ m, d = m + 1 := ⟨d - 1, by omega⟩
  have : (a == b) = decide (a = b) := by cases a <;> cases b <;> rfl
  simp [Op.equalIn, run_underlying ht, this]
theorem Pt.sc {xs : Array Value} {off : Nat} {v : Value} (hT : Sc P T) (h : xs[off]? = some v) : Pt P T xs off v := fun W => by
  obtain ⟨⟨d, hd, hd2⟩, _⟩ := hT
  have hagg : (isAgg T).run P W = .ok false W := by
    unfold isAgg; rw [Sem.run_bind, run_underlying hd W]; cases d <;> simp_all
  simp [part, hagg, h]
theorem Pt.cs {xs : Array Value} {off s : Nat} {cs : List Value} (hT : Ag P T s) (h : (xs.toList.drop off).take s = cs) : Pt P T xs off (.agg cs.toArray) := fun W => by
  obtain ⟨⟨d, hd, hd2⟩, hs⟩ := hT
  have hagg : (isAgg T).run P W = .ok true W := by
    unfold isAgg; rw [Sem.run_bind, run_underlying hd W]; cases d <;> simp_all
  have he : xs.extract off (off + s) = cs.toArray := by
    rw [← h, ← Array.toList_inj, Array.toList_extract, List.extract]
    simp
  simp [part, hagg, run_sizeOf hs, he]
theorem flat_cut {vs us : Lv} {i n off s : Nat} (w : Wl vs) (ho : lsz (vs.take i) = off) (hu : (vs.drop i).take n = us) (hs : lsz us = s) : ((flat vs).drop off).take s = flat us := by
  have e : vs = vs.take i ++ (us ++ vs.drop (i + n)) := by
    rw [← hu, ← List.drop_drop, List.take_append_drop, List.take_append_drop]
  have w1 : Wl (vs.take i) := w.sub fun p hp => List.mem_of_mem_take hp
  have w2 : Wl us := w.sub fun p hp => by rw [← hu] at hp; exact List.mem_of_mem_drop (List.mem_of_mem_take hp)
  rw [e, flat_append, flat_append, List.drop_left' (w1.flat_length.trans ho), List.take_left' (w2.flat_length.trans hs)]
/-- a leaf of one cell, of several; several leaves -/
theorem Pt.l1 {vs : Lv} {i off : Nat} {v : Value} [w : Wc vs] (hT : Sc P T) (hi : vs[i]? = some (1, v)) (ho : lsz (vs.take i) = off) (hv : v.cells = #[v]) : Pt P T (flat vs).toArray off v :=
  Pt.sc hT (by simpa using flat_get w.wl hi ho 0 v (by rw [hv]; rfl))
theorem Pt.lA {vs : Lv} {i off s : Nat} {cs : Array Value} [w : Wc vs] (hT : Ag P T s) (hi : vs[i]? = some (s, .agg cs)) (ho : lsz (vs.take i) = off) : Pt P T (flat vs).toArray off (.agg cs) := by
  have h := Pt.cs (P := P) (T := T) (xs := (flat vs).toArray) (off := off) (cs := cs.toList) hT (by
    have h1 := (List.getElem?_eq_some_iff.1 hi).1
    have h2 := (List.getElem?_eq_some_iff.1 hi).2
    have := flat_cut (us := [(s, .agg cs)]) (n := 1) w.wl ho (by rw [List.drop_eq_getElem_cons h1, h2]; rfl) (by simp [lsz]; rfl)
    simpa [flat, Value.cells] using this)
  simpa using h
theorem Pt.lP {vs us : Lv} {i n off s : Nat} [w : Wc vs] (hT : Ag P T s) (hu : (vs.drop i).take n = us) (ho : lsz (vs.take i) = off) (hs : lsz us = s) : Pt P T (flat vs).toArray off (ag us) :=
  Pt.cs hT (flat_cut w.wl ho hu hs)
theorem EF.nil {xs ys : Array Value} : EF P k xs ys [] true := fun d W _ => by simp [Op.eqFields]
theorem EF.cons {xs ys : Array Value} {f : Field} {fs : List Field} {x y : Value} {b c : Bool} (hn : f.name ≠ "_") (hx : Pt P f.type xs f.offset x) (hy : Pt P f.type ys f.offset y)
    (h : Eqv P k f.type x y b) (r : EF P k xs ys fs c) : EF P k xs ys (f :: fs) (b && c) := fun d W hd => by
  simp only [Op.eqFields, hn, ne_eq, not_false_eq_true, if_true, Sem.run_bind, hx W, hy W, h d W hd, Result.andThen_ok]
  cases b
  · simp
  · simpa using r d W hd
theorem Eqv.st {xs ys : Array Value} {fs : List Field} {b : Bool} (ht : P.underlying T = some (.struct fs.toArray)) (hp : P.stoodInHeld T = false) (h : EF P k xs ys fs b) : Eqv P (k + 1) T (.agg xs) (.agg ys) b := fun d W hd => by
  obtain ⟨d, rfl⟩ : ∃ m, d = m + 1 := ⟨d - 1, by omega⟩
  have hf : P.fieldsOf T = fs.toArray := by simp [Program.fieldsOf, ht]
  rw [run_equalIn_struct W d T xs ys (by rw [hf]; exact ht) hp, hf]
  exact h d W (by omega)
theorem eqItems_uni {α : Type} [DecidableEq α] {enc : α → Value} {e s d : Nat} {l r : List α} [∀ x, Cz (enc x) s] (hlen : l.length = r.length) (hp : ∀ (l : List α) i x, l[i]? = some x → Pt P e (flat (uni enc s l)).toArray (i * s) (enc x))
    (he : ∀ a b W, (Op.equalIn d e (enc a) (enc b)).run P W = .ok (decide (a = b)) W) (W : World) : ∀ m i, i + m = l.length →
    (Op.eqItems d e s (flat (uni enc s l)).toArray (flat (uni enc s r)).toArray (List.range' i m)).run P W = .ok (decide (l.drop i = r.drop i)) W
  | 0, i, hi => by
    rw [List.drop_of_length_le (by omega), List.drop_of_length_le (by omega)]
    simp [Op.eqItems]
  | m + 1, i, hi => by
    have h1 : i < l.length := by omega
    have h2 : i < r.length := by omega
    rw [List.range'_succ, List.drop_eq_getElem_cons h1, List.drop_eq_getElem_cons h2]
    have ih := eqItems_uni (enc := enc) (s := s) hlen hp he W m (i + 1) (by omega)
    simp only [Op.eqItems, Sem.run_bind, hp l i _ (List.getElem?_eq_getElem h1) W, hp r i _ (List.getElem?_eq_getElem h2) W, he, Result.andThen_ok, List.cons.injEq]
    by_cases h : l[i] = r[i]
    · simp only [h, decide_true, Bool.not_true, Bool.false_eq_true, if_false, true_and]; exact ih
    · simp [h]
/-- an array of such -/
theorem Eqv.uni {α : Type} [DecidableEq α] {enc : α → Value} {len e s : Nat} {l r : List α} [∀ x, Cz (enc x) s] (ht : P.underlying T = some (.array len e)) (hs : (P.info? e).map (·.size) = some s) (hc : P.cellsOf e = s)
    (hp : ∀ (l : List α) i x, l[i]? = some x → Pt P e (flat (uni enc s l)).toArray (i * s) (enc x)) (he : ∀ a b, Eqv P k e (enc a) (enc b) (decide (a = b))) (hl : l.length = len) (hr : r.length = len) :
    Eqv P (k + 1) T (ag (uni enc s l)) (ag (uni enc s r)) (decide (l = r)) := fun d W hd => by
  obtain ⟨d, rfl⟩ : ∃ m, d = m + 1 := ⟨d - 1, by omega⟩
  obtain ⟨i, hi, _⟩ := Option.map_eq_some_iff.1 hs
  show (Op.equalIn (d + 1) T (.agg _) (.agg _)).run P W = _
  rw [run_equalIn_array W d _ _ ht hi, hc]
  have := eqItems_uni (P := P) (enc := enc) (e := e) (s := s) (d := d) (l := l) (r := r) (by omega) hp (fun a b W => he a b d W (by omega)) W len 0 (by omega)
  rw [← List.range_eq_range'] at this
  simpa using this
section
variable {n : Nat} {w0 : World} {ro : Hp} {E : Env} {M : Res}
variable {dst : Option Tmp} {ty T' : TypeId} {pos : String} {af : Array Edge} {g : Option (Nat × Bool)} {x y : Operand}
theorem V.eqlV {xs ys : Array Value} {b : Bool} (hx : opnd E x = some (.agg xs)) (hy : opnd E y = some (.agg ys)) (hg : P.eqGuardType P.depth T = false) (h : Eqv P 10000 T (.agg xs) (.agg ys) b) :
    V P n w0 ro E M ⟨dst, .binOp .eql T x y T', ty, pos, af, g⟩ (.bool b) :=
  .of_run fun a W f i => by
    simp only [execOp, f.eval hx, f.eval hy, Sem.run_bind, run_eqGuard_agg W .eql T x y xs ys hg, Result.andThen_ok, run_eql_struct, h 10000 W (Nat.le_refl _), Sem.run_pure]
theorem V.neqV {xs ys : Array Value} {b : Bool} (hx : opnd E x = some (.agg xs)) (hy : opnd E y = some (.agg ys)) (hg : P.eqGuardType P.depth T = false) (h : Eqv P 10000 T (.agg xs) (.agg ys) b) :
    V P n w0 ro E M ⟨dst, .binOp .neq T x y T', ty, pos, af, g⟩ (.bool (!b)) :=
  .of_run fun a W f i => by
    simp only [execOp, f.eval hx, f.eval hy, Sem.run_bind, run_eqGuard_agg W .neq T x y xs ys hg, Result.andThen_ok, run_neq_struct, h 10000 W (Nat.le_refl _), Sem.run_pure]
end
/- keys -/
theorem Ck.int {q : IntKind} {a : Int} (ht : P.underlying T = some (.int q)) : Ck P 1 T (.int q a) := fun em d W hd => by
  obtain ⟨d, rfl⟩ : ∃ m, d = m + 1 := ⟨d - 1, by omega⟩
  simp [Instr.checkKey, run_underlying ht]
theorem Ck.up {x : Value} {m : Nat} (h : Ck P k T x) (e : k ≤ m) : Ck P m T x := fun em d W hd => h em d W (by omega)
def CF (P : Program) (k : Nat) (xs : Array Value) (fs : List Field) : Prop := ∀ f ∈ fs, ∃ x, Pt P f.type xs f.offset x ∧ Ck P k f.type x
theorem CF.nil {xs : Array Value} : CF P k xs [] := fun _ h => by cases h
theorem CF.cons {xs : Array Value} {f : Field} {fs : List Field} {x : Value} (hx : Pt P f.type xs f.offset x) (h : Ck P k f.type x) (r : CF P k xs fs) : CF P k xs (f :: fs) := fun g hg => by
  rcases List.mem_cons.1 hg with rfl | hg
  · exact ⟨x, hx, h⟩
  · exact r g hg
theorem Ck.st {xs : Array Value} {fs : List Field} (ht : P.underlying T = some (.struct fs.toArray)) (h : CF P k xs fs) : Ck P (k + 1) T (.agg xs) := fun em d W hd => by
  obtain ⟨d, rfl⟩ : ∃ m, d = m + 1 := ⟨d - 1, by omega⟩
  unfold Instr.checkKey
  simp only [Sem.run_bind, run_underlying ht, Result.andThen_ok]
  rw [← Array.forIn_toList]
  simp only [List.toList_toArray]
  clear ht
  induction fs with
  | nil => simp
  | cons f fs ih =>
    obtain ⟨x, hx, hc⟩ := h f (by simp)
    have ih := ih fun g hg => h g (by simp [hg])
    by_cases hn : f.name = "_"
    · simp only [List.forIn_cons, hn, ne_eq, not_true_eq_false, if_false, Sem.run_bind, Sem.run_pure, Result.andThen_ok]
      exact ih
    · simp only [List.forIn_cons, hn, ne_eq, not_false_eq_true, if_true, Sem.run_bind, hx W, hc em d W (by omega), Sem.run_pure, Result.andThen_ok]
      exact ih
/-- an array of numbers: by the kit's reading of it -/
theorem Ck.lits {m : Nat} {xs : Array Value} (hk : Kt P T m) (h : Kl P T m xs.toList) : Ck P m T (.agg xs) := fun em d W hd => by
  have hl := Kl.length hk h
  obtain ⟨l, h⟩ := h
  have := run_checkKey_deep (P := P) em (d - m) m T hk.key W m (.agg xs) l (formed_of hk (by simpa using hl)) h
  rwa [show d - m + m = d by omega] at this
theorem Eqv.lits {m : Nat} {xs ys : Array Value} {p : Prop} [Decidable p] (hk : Kt P T m) (hx : Kl P T m xs.toList) (hy : Kl P T m ys.toList) (hp : xs = ys ↔ p) : Eqv P m T (.agg xs) (.agg ys) (decide p) := fun d W hd => by
  have lx := Kl.length hk hx
  have ly := Kl.length hk hy
  obtain ⟨la, ha⟩ := hx
  obtain ⟨lb, hb⟩ := hy
  have h := run_equalIn_deep (P := P) (d - m) m T hk.key
  rw [show d - m + m = d by omega] at h
  obtain ⟨r, h1, h2⟩ := h W m m (.agg xs) (.agg ys) la lb (formed_of hk (by simpa using lx)) (formed_of hk (by simpa using ly)) ha hb
  rw [h1]
  congr 1
  have h3 := cells_of_lits m T hk.tiled m _ _ ha
  have h4 := cells_of_lits m T hk.tiled m _ _ hb
  have : r = true ↔ p := h2.trans (Iff.trans ⟨fun e => by rw [e, ← h4] at h3; exact Array.toList_inj.1 h3, fun e => by subst e; rw [ha] at hb; cases hb; rfl⟩ hp)
  cases r
  · symm; rw [decide_eq_false_iff_not]; exact fun h => by have := this.2 h; cases this
  · symm; rw [decide_eq_true_iff]; exact this.1 rfl
end
end Go.Sx
namespace Go.Sx
open Go
section
variable {α β : Type} [DecidableEq α]
def getM : List (α × β) → α → Option β
  | [], _ => none
  | p :: l, k => if p.1 = k then some p.2 else getM l k
def setM : List (α × β) → α → β → List (α × β)
  | [], k, v => [(k, v)]
  | p :: l, k, v => if p.1 = k then (k, v) :: l else p :: setM l k v
def delM : List (α × β) → α → List (α × β)
  | [], _ => []
  | p :: l, k => if p.1 = k then l else p :: delM l k
theorem getM_none {l : List (α × β)} {k : α} (h : ∀ p ∈ l, p.1 ≠ k) (w : β) : getM l k = none ∧ setM l k w = l ++ [(k, w)] ∧ delM l k = l := by
  induction l with
  | nil => simp [getM, setM, delM]
  | cons p l ih =>
    have h1 := h p (by simp)
    have h2 := ih fun q hq => h q (by simp [hq])
    simp [getM, setM, delM, h1, h2]
theorem delM_none {l : List (α × β)} {k : α} (h : ∀ p ∈ l, p.1 ≠ k) : delM l k = l := by
  induction l with
  | nil => rfl
  | cons p t ih => simp only [delM, h p (by simp), if_false, ih fun q hq => h q (by simp [hq])]
theorem getM_at {k : α} {v : β} : ∀ {l : List (α × β)} {j : Nat}, l[j]? = some (k, v) → (∀ m, m < j → ∀ p, l[m]? = some p → p.1 ≠ k) → ∀ w, getM l k = some v ∧ setM l k w = l.set j (k, w) ∧ delM l k = l.eraseIdx j
  | [], j, h, _, _ => by simp at h
  | p :: l, 0, h, _, w => by simp at h; subst h; simp [getM, setM, delM]
  | p :: l, j + 1, h, hn, w => by
    have h1 := hn 0 (by omega) p rfl
    have h2 := getM_at (l := l) (j := j) (by simpa using h) (fun m hm q hq => hn (m + 1) (by omega) q (by simpa using hq)) w
    simp [getM, setM, delM, h1, h2]
end
/-- keys, and how they are held -/
structure Ky (P : Program) (T : Nat) {α : Type} [DecidableEq α] (enc : α → Value) : Prop where
  eq : ∀ a b, Eqv P 10000 T (enc a) (enc b) (decide (a = b))
  ck : ∀ a, Ck P 10000 T (enc a)
  wide : (match P.underlying T with | some (.array _ _) | some (.struct _) => true | _ => false) = true
  bits : ∀ a, Instr.sameBits 10000 (enc a) (enc a) = true
def kvs {α β : Type} (ek : α → Value) (ev : β → Value) (l : List (α × β)) : List (Value × Value) := l.map fun p => (ek p.1, ev p.2)
/-- a map's block -/
def Mp {α β : Type} (r : Nat) (ek : α → Value) (ev : β → Value) (l : List (α × β)) : HP := fun h =>
  ∃ es clock, h r = some (.map es clock) ∧ es.toList.map (fun e => (e.key, e.val)) = kvs ek ev l
section
variable {P : Program} {T : Nat} {α β : Type} [DecidableEq α] {ek : α → Value} {ev : β → Value}
theorem run_findA (hk : Ky P T ek) (k : α) (W : World) : ∀ (l : List (α × β)) (es : List MapEntry) (i : Nat), es.map (fun e => (e.key, e.val)) = kvs ek ev l →
    ((∀ p ∈ l, p.1 ≠ k) ∧ (Instr.findAsking T (ek k) es i).run P W = .ok none W) ∨
    ∃ j v, l[j]? = some (k, v) ∧ (∀ m, m < j → ∀ p, l[m]? = some p → p.1 ≠ k) ∧ (Instr.findAsking T (ek k) es i).run P W = .ok (some (i + j, ev v)) W
  | [], es, i, h => by
    have : es = [] := by simpa [kvs] using h
    subst this
    exact .inl ⟨(fun _ h => by cases h), by simp [Instr.findAsking]⟩
  | p :: l, [], i, h => by simp [kvs] at h
  | p :: l, e :: es, i, h => by
    simp only [kvs, List.map_cons, List.cons.injEq, Prod.mk.injEq] at h
    obtain ⟨⟨h1, h2⟩, h3⟩ := h
    have he : (Op.equal T (ek k) e.key).run P W = .ok (decide (k = p.1)) W := by rw [h1]; exact hk.eq k p.1 10000 W (Nat.le_refl _)
    by_cases hc : p.1 = k
    · right
      refine ⟨0, p.2, by rw [← hc]; rfl, fun m hm => by omega, ?_⟩
      simp [Instr.findAsking, he, hc, h2]
    · have hc' : ¬ k = p.1 := fun e => hc e.symm
      have ih := run_findA hk k W l es (i + 1) h3
      have hstep : (Instr.findAsking T (ek k) (e :: es) i).run P W = (Instr.findAsking T (ek k) es (i + 1)).run P W := by simp [Instr.findAsking, he, hc']
      rw [hstep]
      rcases ih with ⟨a, b⟩ | ⟨j, v, a, b, c⟩
      · exact .inl ⟨fun q hq => by
          rcases List.mem_cons.1 hq with rfl | hq
          · exact hc
          · exact a q hq, b⟩
      · refine .inr ⟨j + 1, v, by simpa using a, fun m hm q hq => ?_, by rw [c]; congr 3; omega⟩
        cases m with
        | zero => simp at hq; subst hq; exact hc
        | succ m => exact b m (by omega) q (by simpa using hq)
theorem run_findK (hk : Ky P T ek) (k : α) (W : World) {l : List (α × β)} {es : List MapEntry} (h : es.map (fun e => (e.key, e.val)) = kvs ek ev l) :
    ((∀ p ∈ l, p.1 ≠ k) ∧ (Instr.findKey T (ek k) es).run P W = .ok none W) ∨
    ∃ j v, l[j]? = some (k, v) ∧ (∀ m, m < j → ∀ p, l[m]? = some p → p.1 ≠ k) ∧ (Instr.findKey T (ek k) es).run P W = .ok (some (j, ev v)) W := by
  rw [run_findKey_eq W hk.wide]
  have := run_findA hk k W l es 0 h
  simpa using this
section
variable {Q : Exit → Act → World → Prop} {n : Nat} {w0 : World} {ro : Hp} {E : Env} {M R : Res}
variable {dst : Option Tmp} {ty Tm te T' : TypeId} {pos : String} {af : Array Edge} {g : Option (Nat × Bool)} {x y z : Operand} {lab r : Nat} {l : List (α × β)}
theorem Inv.mp {W : World} (i : Inv w0 ro M W) (hp : Sx.pull M lab = some (Mp r ek ev l, R)) : ∃ es clock, W.heap[r]? = some (.map es clock) ∧ es.toList.map (fun e => (e.key, e.val)) = kvs ek ev l :=
  let ⟨_, h2, es, cl, h3, h4⟩ := (i.pull hp).get; ⟨es, cl, h2 _ _ h3, h4⟩
theorem V.lkp2 {k : α} {d : β} (hx : opnd E x = some (.map (some r))) (hy : opnd E y = some (ek k)) (hp : pull M lab = some (Mp r ek ev l, R)) (ht : P.underlying Tm = some (.map T te)) (hk : Ky P T ek)
    (hz : (P.info? te).bind (·.zero) = some (ev d)) : V P n w0 ro E M ⟨dst, .lookup Tm x y true, ty, pos, af, g⟩ (.tuple #[ev ((getM l k).getD d), .bool (getM l k).isSome]) :=
  .of_run fun a W f iv => by
    obtain ⟨es, cl, hb, hl⟩ := iv.mp hp
    have hc := hk.ck k es.isEmpty 10000 W (Nat.le_refl _)
    have hzz : (zeroValue te).run P W = .ok (ev d) W := by
      cases hq : P.info? te with
      | none => simp [hq] at hz
      | some i => simp [hq] at hz; simp [zeroValue, typeInfo, hq, hz]
    rcases run_findK hk k W hl with ⟨h1, h2⟩ | ⟨j, v, h1, h2, h3⟩
    · have := (getM_none h1 d).1
      simp [execOp, f.eval hx, f.eval hy, Instr.lookup, run_underlying ht, MapKept.run_getObj_map hb, hc, h2, hzz, this, Result.andThen]
    · have := (getM_at h1 h2 d).1
      simp [execOp, f.eval hx, f.eval hy, Instr.lookup, run_underlying ht, MapKept.run_getObj_map hb, hc, h3, this, Result.andThen]
theorem V.lkp1 {k : α} {d : β} (hx : opnd E x = some (.map (some r))) (hy : opnd E y = some (ek k)) (hp : pull M lab = some (Mp r ek ev l, R)) (ht : P.underlying Tm = some (.map T te)) (hk : Ky P T ek)
    (hz : (P.info? te).bind (·.zero) = some (ev d)) : V P n w0 ro E M ⟨dst, .lookup Tm x y false, ty, pos, af, g⟩ (ev ((getM l k).getD d)) :=
  .of_run fun a W f iv => by
    obtain ⟨es, cl, hb, hl⟩ := iv.mp hp
    have hc := hk.ck k es.isEmpty 10000 W (Nat.le_refl _)
    have hzz : (zeroValue te).run P W = .ok (ev d) W := by
      cases hq : P.info? te with
      | none => simp [hq] at hz
      | some i => simp [hq] at hz; simp [zeroValue, typeInfo, hq, hz]
    rcases run_findK hk k W hl with ⟨h1, h2⟩ | ⟨j, v, h1, h2, h3⟩
    · have := (getM_none h1 d).1
      simp [execOp, f.eval hx, f.eval hy, Instr.lookup, run_underlying ht, MapKept.run_getObj_map hb, hc, h2, hzz, this, Result.andThen]
    · have := (getM_at h1 h2 d).1
      simp [execOp, f.eval hx, f.eval hy, Instr.lookup, run_underlying ht, MapKept.run_getObj_map hb, hc, h3, this, Result.andThen]
theorem V.lenM (hx : opnd E x = some (.map (some r))) (hp : pull M lab = some (Mp r ek ev l, R)) (ht : P.underlying Tm = some (.map T te)) :
    V P n w0 ro E M ⟨dst, .call { callee := .builtin .len, args := #[x], argTypes := #[Tm] }, ty, pos, af, g⟩ (.int .i64 (l.length : Int)) :=
  .of_run fun a W f iv => by
    obtain ⟨es, cl, hb, hl⟩ := iv.mp hp
    have : es.size = l.length := by have := congrArg List.length hl; simpa [kvs] using this
    simp [execOp, resolve, invoke, builtin, f.eval hx, Builtin.len_, goInt, run_underlying ht, MapKept.run_getObj_map hb, this]
theorem V.mapNil {a : Option Nat} {te' : Nat} (hx : opnd E x = some (.map a)) (ht : P.underlying Tm = some (.map T te')) :
    V P n w0 ro E M ⟨dst, .binOp .eql Tm x (.const (.map none)) T', ty, pos, af, g⟩ (.bool a.isNone) := by
  refine .of_run fun a' W f i => ?_
  have hg : (eqGuard .eql Tm x (.const (.map none)) (.map a) (.map none)).run P W = .ok () W := by unfold eqGuard; split <;> rfl
  have hd : ∀ d : Nat, (Op.equalIn (d + 1) Tm (.map a) (.map none)).run P W = .ok a.isNone W := fun d => by cases a <;> simp [Op.equalIn, run_underlying ht]
  have hb : (binOp .eql Tm (.map a) (.map none)).run P W = .ok (.bool a.isNone) W := by
    simp only [binOp]; simp [Op.equal, Op.maxDepth, hd 9999]
  have hy : a'.eval (.const (.map none)) = .map none := rfl
  simp only [execOp, f.eval hx, hy, Sem.run_bind, hg, Result.andThen_ok, hb, Sem.run_pure]
/-- the map's block turned -/
theorem Inv.mpTurn {W : World} {es es' : Array MapEntry} {cl cl' : Nat} {l' : List (α × β)} (i : Inv w0 ro ((lab, Mp r ek ev l) :: R) W) (hb : W.heap[r]? = some (.map es cl)) (hl : es'.toList.map (fun e => (e.key, e.val)) = kvs ek ev l') :
    Inv w0 ro ((lab, Mp r ek ev l') :: R) { W with heap := W.heap.setIfInBounds r (.map es' cl') } := by
  have hs := MapKept.heap_set (o' := .map es' cl') hb
  refine i.turn rfl rfl rfl fun k hk hA => ⟨fun j => if j = r then some (.map es' cl') else none, ⟨es', cl', if_pos rfl, hl⟩, ?_, ?_, ?_⟩
  · intro j o hj
    by_cases e : j = r
    · subst e; dsimp only at hj; rw [if_pos rfl] at hj; cases hj; exact hs.1
    · dsimp only at hj; rw [if_neg e] at hj; cases hj
  · intro j o hj
    by_cases e : j = r
    · subst e; left; obtain ⟨_, _, h, _⟩ := hA; rw [h]; simp
    · dsimp only at hj; rw [if_neg e] at hj; cases hj
  · intro j o hj hn
    have : j ≠ r := by intro e; subst e; obtain ⟨_, _, h, _⟩ := hA; rw [h] at hn; cases hn
    exact (hs.2 j this).trans hj
theorem keyStays {a : Value} (h : Instr.sameBits 10000 a a = true) (W : World) : (Instr.keyThatStays a a).run P W = .ok a W := by simp [Instr.keyThatStays, h]
theorem JO.mup {K : Act → World → Prop} {k : α} {v : β} (hx : opnd E x = some (.map (some r))) (hy : opnd E y = some (ek k)) (hv : opnd E z = some (ev v)) (hp : pull M lab = some (Mp r ek ev l, R)) (ht : P.underlying Tm = some (.map T te)) (hk : Ky P T ek)
    (h : Kp n w0 ro K E ((lab, Mp r ek ev (setM l k v)) :: R)) : JO P Q n w0 ro K ⟨none, .mapUpdate Tm x y z, ty, pos, af, g⟩ E M := fun a W f iv => by
  obtain ⟨es, cl, hb, hl⟩ := iv.mp hp
  have hc := hk.ck k false 10000 W (Nat.le_refl _)
  have ip := iv.pull hp
  unfold Oper.wp
  rcases run_findK hk k W hl with ⟨h1, h2⟩ | ⟨j, u, h1, h2, h3⟩
  · have hs := (getM_none h1 v).2.1
    have hr : (execOp a.eval ⟨none, .mapUpdate Tm x y z, ty, pos, af, g⟩).run P W = .ok .skip { W with heap := W.heap.setIfInBounds r (.map (es.push { key := ek k, val := ev v, born := cl }) (cl + 1)) } := by
      simp [execOp, f.eval hx, f.eval hy, f.eval hv, Instr.mapUpdate, run_underlying ht, MapKept.run_getObj_map hb, hc, h2, MapKept.run_setObj_map _ hb, Result.andThen]
    rw [hr, Oper.upon_skip]
    refine h _ _ (f.put_none _) (Inv.mpTurn (l := l) ip hb ?_)
    rw [hs]; simp [kvs, hl]
  · have hs := (getM_at h1 h2 v).2.1
    have hlen : es.size = l.length := by have := congrArg List.length hl; simpa [kvs] using this
    have hjl : j < l.length := (List.getElem?_eq_some_iff.1 h1).1
    obtain ⟨e0, he0⟩ : ∃ e, es[j]? = some e := ⟨es[j], by simp [hlen, hjl]⟩
    have hkey : e0.key = ek k ∧ e0.val = ev u := by
      have := congrArg (·[j]?) hl
      simp only [List.getElem?_map, kvs, h1, Array.getElem?_toList, he0, Option.map_some, Option.some.injEq, Prod.mk.injEq] at this
      exact this
    have hr : (execOp a.eval ⟨none, .mapUpdate Tm x y z, ty, pos, af, g⟩).run P W = .ok .skip { W with heap := W.heap.setIfInBounds r (.map (es.modify j fun e => { e with key := ek k, val := ev v }) cl) } := by
      simp [execOp, f.eval hx, f.eval hy, f.eval hv, Instr.mapUpdate, run_underlying ht, MapKept.run_getObj_map hb, hc, h3, he0, hkey.1, keyStays (hk.bits k), MapKept.run_setObj_map _ hb, Result.andThen]
    rw [hr, Oper.upon_skip]
    refine h _ _ (f.put_none _) (Inv.mpTurn (l := l) ip hb ?_)
    rw [hs, Array.toList_modify]
    apply List.ext_getElem?
    intro m
    have hm := congrArg (·[m]?) hl
    simp only [List.getElem?_map, kvs, List.getElem?_modify, List.getElem?_set] at hm ⊢
    by_cases e : j = m
    · subst e
      simp [hjl, he0, hlen]
    · simp only [Array.getElem?_toList] at hm ⊢
      simp [e, hm]
theorem run_delete {k : α} {W : World} {es : Array MapEntry} {cl : Nat} (ht : P.underlying Tm = some (.map T te)) (hk : Ky P T ek) (hb : W.heap[r]? = some (.map es cl)) (hl : es.toList.map (fun e => (e.key, e.val)) = kvs ek ev l) :
    ∃ es', (Builtin.delete_ #[Tm, T'] ty #[.map (some r), ek k]).run P W = .ok (.tuple #[]) { W with heap := W.heap.setIfInBounds r (.map es' cl) } ∧ es'.toList.map (fun e => (e.key, e.val)) = kvs ek ev (delM l k) := by
  have hc := hk.ck k es.isEmpty 10000 W (Nat.le_refl _)
  rcases run_findK hk k W hl with ⟨h1, h2⟩ | ⟨j, u, h1, h2, h3⟩
  · rw [delM_none h1]
    exact ⟨es, by simp [Builtin.delete_, run_underlying ht, MapKept.run_getObj_map hb, hc, h2, MapKept.run_setObj_map _ hb, Result.andThen], hl⟩
  · have hs := (getM_at h1 h2 u).2.2
    refine ⟨es.eraseIdxIfInBounds j, by simp [Builtin.delete_, run_underlying ht, MapKept.run_getObj_map hb, hc, h3, MapKept.run_setObj_map _ hb, Result.andThen], ?_⟩
    have : (es.eraseIdxIfInBounds j).toList = es.toList.eraseIdx j := by
      have hlen : es.size = l.length := by have := congrArg List.length hl; simpa [kvs] using this
      have hjl : j < es.size := by rw [hlen]; exact (List.getElem?_eq_some_iff.1 h1).1
      simp [Array.eraseIdxIfInBounds, hjl]
    rw [this, hs]
    have em : ∀ {γ δ : Type} (f : γ → δ) (L : List γ) (j : Nat), (L.eraseIdx j).map f = (L.map f).eraseIdx j := by
      intro γ δ f L
      induction L with
      | nil => simp
      | cons a t ih => intro j; cases j <;> simp [ih]
    rw [em, hl, kvs, kvs, em]
theorem JO.del {K : Act → World → Prop} {k : α} {d : Nat} (hn : Nat.blt d n = true) (hx : opnd E x = some (.map (some r))) (hy : opnd E y = some (ek k)) (hp : pull M lab = some (Mp r ek ev l, R)) (ht : P.underlying Tm = some (.map T te)) (hk : Ky P T ek)
    (h : Kp n w0 ro K ((d, .tuple #[]) :: E) ((lab, Mp r ek ev (delM l k)) :: R)) : JO P Q n w0 ro K ⟨some d, .call { callee := .builtin .delete, args := #[x, y], argTypes := #[Tm, T'] }, ty, pos, af, g⟩ E M := fun a W f iv => by
  obtain ⟨es, cl, hb, hl⟩ := iv.mp hp
  obtain ⟨es', hr, hl'⟩ := run_delete (l := l) (k := k) (T' := T') (ty := ty) ht hk hb hl
  unfold Oper.wp
  simp only [execOp, resolve, invoke, builtin, Sem.run_bind, Sem.run_pure, Result.andThen_ok, List.map_toArray, List.map_cons, List.map_nil, f.eval hx, f.eval hy, hr, Oper.upon_value]
  exact h _ _ (f.put _ hn) (Inv.mpTurn (l := l) (iv.pull hp) hb hl')
theorem JO.mkM {K : Act → World → Prop} {d : Nat} (hn : Nat.blt d n = true)
    (h : ∀ r, Kp n w0 ro K ((d, .map (some r)) :: E) ((lab, Mp r ek ev ([] : List (α × β))) :: M)) : JO P Q n w0 ro K ⟨some d, .makeMap Tm none, ty, pos, af, g⟩ E M := fun a W f iv => by
  have hr : (execOp a.eval ⟨some d, .makeMap Tm none, ty, pos, af, g⟩).run P W = .ok (.value (.map (some W.heap.size))) (W.alloc (.map #[] 0)) := by
    simp [execOp, Instr.makeMap]
  unfold Oper.wp
  rw [hr, Oper.upon_value]
  exact h _ _ _ (f.put _ hn) (iv.new lab _ ⟨#[], 0, by simp, rfl⟩)
end
end
end Go.Sx
