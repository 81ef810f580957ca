import Derived.WalkKit
import Derived.KernelRfl
import Derived.Deep.Quiet
set_option linter.unusedVariables false
set_option linter.unusedSimpArgs false
set_option linter.unusedSectionVars false
set_option linter.unnecessarySimpa false
set_option exponentiation.threshold 1000
namespace Go.Sx
open Go

abbrev Hp := Nat → Option Obj
abbrev HP := Hp → Prop
abbrev Env := List (Nat × Value)
abbrev Res := List (Nat × HP)

def Hp.le (a b : Hp) : Prop := ∀ i o, a i = some o → b i = some o
def Hp.disj (a b : Hp) : Prop := ∀ i, a i = none ∨ b i = none
def hp (w : World) : Hp := fun i => w.heap[i]?

def Sats : Res → Hp → Prop
  | [], _ => True
  | (_, A) :: M, h => ∃ h1 h2, Hp.le h1 h ∧ Hp.le h2 h ∧ Hp.disj h1 h2 ∧ A h1 ∧ Sats M h2

theorem Hp.le_refl (a : Hp) : Hp.le a a := fun _ _ h => h
theorem Hp.le_trans {a b c : Hp} (h : Hp.le a b) (k : Hp.le b c) : Hp.le a c := fun i o x => k i o (h i o x)
theorem Hp.disj_symm {a b : Hp} (h : Hp.disj a b) : Hp.disj b a := fun i => (h i).symm
theorem Hp.disj_le {a b c d : Hp} (h : Hp.disj a b) (k : Hp.le c a) (l : Hp.le d b) : Hp.disj c d := by
  intro i
  rcases h i with x | x
  · left
    cases hc : c i with
    | none => rfl
    | some o => rw [k i o hc] at x; cases x
  · right
    cases hc : d i with
    | none => rfl
    | some o => rw [l i o hc] at x; cases x

theorem Sats.mono {M : Res} {h k : Hp} (s : Sats M h) (l : Hp.le h k) : Sats M k := by
  cases M with
  | nil => trivial
  | cons x M =>
    obtain ⟨h1, h2, a, b, c, d, e⟩ := s
    exact ⟨h1, h2, Hp.le_trans a l, Hp.le_trans b l, c, d, e⟩

def find {α : Type} : List (Nat × α) → Nat → Option α
  | [], _ => none
  | (k, v) :: l, n => bif Nat.beq k n then some v else find l n

/-- what is owned, the first of a label taken out -/
def pull : Res → Nat → Option (HP × Res)
  | [], _ => none
  | (k, A) :: M, n => bif Nat.beq k n then some (A, M) else (pull M n).map fun x => (x.1, (k, A) :: x.2)

theorem Sats.swap {k l : Nat} {A B : HP} {M : Res} {h : Hp} (s : Sats ((k, A) :: (l, B) :: M) h) : Sats ((l, B) :: (k, A) :: M) h := by
  obtain ⟨h1, h2, a, b, c, d, h3, h4, e, f, g, i, j⟩ := s
  refine ⟨h3, fun i => (h1 i).or (h4 i), Hp.le_trans e b, ?_, ?_, i, h1, h4, ?_, ?_, Hp.disj_le c (Hp.le_refl _) f, d, j⟩
  · intro n o hn
    cases hx : h1 n with
    | some y => simp [hx] at hn; subst hn; exact a n _ hx
    | none => simp [hx] at hn; exact b n _ (f n _ hn)
  · intro n
    rcases g n with x | x
    · exact .inl x
    · cases hy : h3 n with
      | none => exact .inl rfl
      | some o =>
        right
        have := e n o hy
        rcases c n with z | z
        · simp [z, x]
        · rw [this] at z; cases z
  · intro n o hn; simp [hn]
  · intro n o hn
    rcases c n with z | z
    · simp [z, hn]
    · rw [f n o hn] at z; cases z

theorem Sats.tail {x : Nat × HP} {M M' : Res} {h : Hp} (hM : ∀ k, Sats M k → Sats M' k) (s : Sats (x :: M) h) : Sats (x :: M') h := by
  obtain ⟨h1, h2, a, b, c, d, e⟩ := s
  exact ⟨h1, h2, a, b, c, d, hM _ e⟩

theorem Sats.pull {l : Nat} {A : HP} {R : Res} : ∀ {M : Res} {h : Hp}, pull M l = some (A, R) → Sats M h → Sats ((l, A) :: R) h
  | [], _, e, _ => by simp [Sx.pull] at e
  | (k, B) :: M, h, e, s => by
    unfold Sx.pull at e
    cases hb : Nat.beq k l with
    | true =>
      rw [hb] at e
      simp at e
      obtain ⟨rfl, rfl⟩ := e
      have : k = l := Nat.eq_of_beq_eq_true hb
      subst this
      exact s
    | false =>
      rw [hb] at e
      simp at e
      obtain ⟨A', R', he, rfl, rfl⟩ := e
      exact Sats.swap (Sats.tail (fun k' sk => Sats.pull he sk) s)

theorem Sats.unpull {l : Nat} {A : HP} {R : Res} : ∀ {M : Res} {h : Hp}, Sx.pull M l = some (A, R) → Sats ((l, A) :: R) h → Sats M h
  | [], _, e, _ => by simp [Sx.pull] at e
  | (k, B) :: M, h, e, s => by
    unfold Sx.pull at e
    cases hb : Nat.beq k l with
    | true =>
      rw [hb] at e
      simp at e
      obtain ⟨rfl, rfl⟩ := e
      have : k = l := Nat.eq_of_beq_eq_true hb
      subst this
      exact s
    | false =>
      rw [hb] at e
      simp at e
      obtain ⟨A', R', he, rfl, rfl⟩ := e
      exact Sats.tail (fun k' sk => Sats.unpull he sk) (Sats.swap s)

structure Inv (w0 : World) (ro : Hp) (M : Res) (W : World) : Prop where
  os : W.os = w0.os
  tape : W.tape = w0.tape
  output : W.output = w0.output
  own : ∃ h, Hp.disj ro h ∧ Hp.le ro (hp W) ∧ Hp.le h (hp W) ∧ Sats M h

theorem Inv.up {w0 : World} {ro ro' : Hp} {M : Res} {W : World} (h : Inv w0 ro' M W) (l : Hp.le ro ro') : Inv w0 ro M W :=
  let ⟨k, a, b, c, d⟩ := h.own
  ⟨h.os, h.tape, h.output, k, Hp.disj_le a l (Hp.le_refl _), Hp.le_trans l b, c, d⟩
theorem Inv.weak {w0 : World} {ro : Hp} {M M' : Res} {W : World} (h : Inv w0 ro M W) (hM : ∀ k, Sats M k → Sats M' k) : Inv w0 ro M' W :=
  ⟨h.os, h.tape, h.output, let ⟨k, a, b, c, d⟩ := h.own; ⟨k, a, b, c, hM _ d⟩⟩

theorem Inv.pull {w0 : World} {ro : Hp} {M R : Res} {W : World} {l : Nat} {A : HP} (h : Inv w0 ro M W) (e : Sx.pull M l = some (A, R)) : Inv w0 ro ((l, A) :: R) W :=
  h.weak fun _ s => Sats.pull e s

theorem Inv.roLe {w0 : World} {ro : Hp} {M : Res} {W : World} (h : Inv w0 ro M W) : Hp.le ro (hp W) := let ⟨_, _, b, _, _⟩ := h.own; b

/-- the same owned resources in a world that turned only what the first one holds -/
theorem Inv.turn {w0 : World} {ro : Hp} {M : Res} {W W' : World} {l l' : Nat} {A B : HP} (h : Inv w0 ro ((l, A) :: M) W)
    (ho : W'.os = W.os) (ht : W'.tape = W.tape) (hp' : W'.output = W.output)
    (hk : ∀ h1, Hp.le h1 (hp W) → A h1 → ∃ h1', B h1' ∧ Hp.le h1' (hp W') ∧ (∀ i o, h1' i = some o → h1 i ≠ none ∨ hp W i = none) ∧
      ∀ i o, hp W i = some o → h1 i = none → hp W' i = some o) : Inv w0 ro ((l', B) :: M) W' := by
  obtain ⟨k, a, b, c, h1, h2, d, e, f, g, i⟩ := h.own
  obtain ⟨h1', hB, hle, hnew, hold⟩ := hk h1 (Hp.le_trans d c) g
  refine ⟨ho.trans h.os, ht.trans h.tape, hp'.trans h.output, fun n => (h1' n).or (h2 n), ?_, ?_, ?_, h1', h2, ?_, ?_, ?_, hB, i⟩
  · intro n
    cases hr : ro n with
    | none => exact .inl rfl
    | some o =>
      right
      have h2n : h2 n = none := by
        cases hx : h2 n with
        | none => rfl
        | some y => rcases a n with z | z
                    · rw [hr] at z; cases z
                    · rw [e n y hx] at z; cases z
      have h1n : h1' n = none := by
        cases hx : h1' n with
        | none => rfl
        | some y =>
          rcases hnew n y hx with z | z
          · cases hy : h1 n with
            | none => exact absurd hy z
            | some q => rcases a n with t | t
                        · rw [hr] at t; cases t
                        · rw [d n q hy] at t; cases t
          · rw [b n o hr] at z; cases z
      simp [h1n, h2n]
  · intro n o hn
    refine hold n o (b n o hn) ?_
    cases hx : h1 n with
    | none => rfl
    | some y => rcases a n with z | z
                · rw [hn] at z; cases z
                · rw [d n y hx] at z; cases z
  · intro n o hn
    cases hx : h1' n with
    | some y => simp [hx] at hn; subst hn; exact hle n _ hx
    | none =>
      simp [hx] at hn
      refine hold n o (c n o (e n o hn)) ?_
      rcases f n with z | z
      · exact z
      · rw [hn] at z; cases z
  · intro n o hn; simp [hn]
  · intro n o hn
    cases hx : h1' n with
    | none => simp [hn, hx]
    | some y =>
      exfalso
      rcases hnew n y hx with z | z
      · rcases f n with t | t
        · exact z t
        · rw [hn] at t; cases t
      · rw [c n o (e n o hn)] at z; cases z
  · intro n
    cases hx : h1' n with
    | none => exact .inl rfl
    | some y =>
      right
      cases hy : h2 n with
      | none => rfl
      | some o =>
        exfalso
        rcases hnew n y hx with z | z
        · rcases f n with t | t
          · exact z t
          · rw [hy] at t; cases t
        · rw [c n o (e n o hy)] at z; cases z

/-- nothing owned turned -/
theorem Inv.same {w0 : World} {ro : Hp} {M : Res} {W W' : World} (h : Inv w0 ro M W)
    (ho : W'.os = W.os) (ht : W'.tape = W.tape) (hp' : W'.output = W.output) (hh : Hp.le (hp W) (hp W')) : Inv w0 ro M W' :=
  let ⟨k, a, b, c, d⟩ := h.own
  ⟨ho.trans h.os, ht.trans h.tape, hp'.trans h.output, k, a, Hp.le_trans b hh, Hp.le_trans c hh, d⟩

theorem Inv.drew {w0 : World} {ro : Hp} {M : Res} {W : World} (h : Inv w0 ro M W) : Inv w0 ro M W.drew := h.same rfl rfl rfl (Hp.le_refl _)

/-- a new block -/
theorem Inv.new {w0 : World} {ro : Hp} {M : Res} {W : World} (h : Inv w0 ro M W) (l : Nat) (o : Obj) {A : HP} (hA : A (fun i => if i = W.heap.size then some o else none)) :
    Inv w0 ro ((l, A) :: M) (W.alloc o) := by
  have h0 : Inv w0 ro ((l, fun _ => True) :: M) W := by
    obtain ⟨k, a, b, c, d⟩ := h.own
    exact ⟨h.os, h.tape, h.output, k, a, b, c, fun _ => none, k, (by intro i o h; cases h), Hp.le_refl _, fun _ => .inl rfl, trivial, d⟩
  refine h0.turn (W' := W.alloc o) rfl rfl rfl fun h1 _ _ => ⟨_, hA, ?_, ?_, ?_⟩
  · intro i x hx
    by_cases hi : i = W.heap.size
    · subst hi; simp at hx; subst hx; exact heap_alloc_new W o
    · simp [hi] at hx
  · intro i x hx
    by_cases hi : i = W.heap.size
    · right; simp [hp, hi]
    · simp [hi] at hx
  · intro i x hx _
    have hlt : i < W.heap.size := by
      rcases Nat.lt_or_ge i W.heap.size with g | g
      · exact g
      · simp [hp, Array.getElem?_eq_none g] at hx
    show (W.alloc o).heap[i]? = _
    exact (heap_alloc_old W o hlt).trans hx

theorem Inv.drop {w0 : World} {ro : Hp} {M : Res} {W : World} {x : Nat × HP} (h : Inv w0 ro (x :: M) W) : Inv w0 ro M W :=
  h.weak fun _ ⟨_, _, _, b, _, _, e⟩ => e.mono b

theorem Inv.head {w0 : World} {ro : Hp} {M : Res} {W : World} {l : Nat} {A B : HP} (h : Inv w0 ro ((l, A) :: M) W) (k : ∀ h, A h → B h) (l' : Nat) : Inv w0 ro ((l', B) :: M) W :=
  h.weak fun _ ⟨h1, h2, a, b, c, d, e⟩ => ⟨h1, h2, a, b, c, k _ d, e⟩

theorem Inv.get {w0 : World} {ro : Hp} {M : Res} {W : World} {l : Nat} {A : HP} (h : Inv w0 ro ((l, A) :: M) W) : ∃ h1, Hp.le h1 (hp W) ∧ A h1 :=
  let ⟨_, _, _, c, h1, _, d, _, _, g, _⟩ := h.own; ⟨h1, Hp.le_trans d c, g⟩

/- slots -/
structure Fits (n : Nat) (E : Env) (a : Act) : Prop where
  defers : a.defers = []
  size : a.tmps.size = n
  slot : ∀ k v, find E k = some v → a.tmps.getD k undef = v

def opnd (E : Env) : Operand → Option Value
  | .tmp k => find E k
  | .const v => some v
  | .func f => some (.func (.func f) #[] #[])
  | .global g => some (.pointer (some ⟨g, 0, none⟩))

theorem Fits.eval {n : Nat} {E : Env} {a : Act} (h : Fits n E a) {x : Operand} {v : Value} (hx : opnd E x = some v) : a.eval x = v := by
  cases x with
  | tmp k => exact h.slot k v hx
  | const u => simp [opnd] at hx; subst hx; rfl
  | func f => simp [opnd] at hx; subst hx; rfl
  | global g => simp [opnd] at hx; subst hx; rfl

theorem find_cons {α : Type} {E : List (Nat × α)} {d k : Nat} {v : α} : find ((d, v) :: E) k = if d = k then some v else find E k := by
  by_cases h : d = k
  · subst h; simp [find, Nat.beq_refl]
  · have : Nat.beq d k = false := by
      cases hb : Nat.beq d k with
      | false => rfl
      | true => exact absurd (Nat.eq_of_beq_eq_true hb) h
    simp [find, this, h]

theorem Fits.put {n d : Nat} {E : Env} {a : Act} (h : Fits n E a) (v : Value) (hd : Nat.blt d n = true) : Fits n ((d, v) :: E) (a.put (some d) v) := by
  have hdn : d < n := by simpa [Nat.blt_eq] using hd
  refine ⟨h.defers, by simp [Act.put, h.size], fun k u hk => ?_⟩
  rw [find_cons] at hk
  have hs := h.size
  by_cases hkd : d = k
  · subst hkd
    simp at hk
    subst hk
    simp [Act.put, Array.getElem?_setIfInBounds, hs, hdn]
  · simp [hkd] at hk
    have := h.slot k u hk
    simp [Act.put, Array.getElem?_setIfInBounds, hkd] at this ⊢
    exact this

theorem Fits.put_none {n : Nat} {E : Env} {a : Act} (h : Fits n E a) (v : Value) : Fits n E (a.put none v) := h

/-- every slot that E' tells is told by E alike -/
def Sub (E E' : Env) : Prop := ∀ k v, find E' k = some v → find E k = some v
theorem Fits.sub {n : Nat} {E E' : Env} {a : Act} (h : Fits n E a) (s : Sub E E') : Fits n E' a := ⟨h.defers, h.size, fun k v hk => h.slot k v (s k v hk)⟩
theorem Sub.nil {E : Env} : Sub E [] := fun k v h => by simp [find] at h
theorem Sub.refl {E : Env} : Sub E E := fun _ _ h => h
theorem Sub.cons {E E' : Env} {k : Nat} {v : Value} (h : find E k = some v) (s : Sub E E') : Sub E ((k, v) :: E') := by
  intro j u hj
  rw [find_cons] at hj
  by_cases e : k = j
  · subst e; simp at hj; subst hj; exact h
  · simp [e] at hj; exact s j u hj
theorem Sub.cons' {E E' : Env} {k : Nat} {u v : Value} (h : find E k = some u) (e : u = v) (s : Sub E E') : Sub E ((k, v) :: E') := Sub.cons (e ▸ h) s

/-- what is owned holds at least this -/
def MSub (M M' : Res) : Prop := ∀ h, Sats M h → Sats M' h
theorem MSub.refl {M : Res} : MSub M M := fun _ h => h
theorem MSub.nil {M : Res} : MSub M [] := fun _ _ => trivial
theorem MSub.pull {M M' R : Res} {l : Nat} {A : HP} (e : Sx.pull M l = some (A, R)) (s : MSub R M') : MSub M ((l, A) :: M') :=
  fun _ h => Sats.tail s (Sats.pull e h)
theorem MSub.pull' {M M' R : Res} {l l' : Nat} {A B : HP} (e : Sx.pull M l = some (A, R)) (hAB : ∀ h, A h → B h) (s : MSub R M') : MSub M ((l', B) :: M') :=
  fun _ h => let ⟨h1, h2, a, b, c, d, f⟩ := Sats.pull e h; ⟨h1, h2, a, b, c, hAB _ d, s _ f⟩
theorem MSub.pullE {M M' R : Res} {l : Nat} {A B : HP} (e : Sx.pull M l = some (A, R)) (h : A = B) (s : MSub R M') : MSub M ((l, B) :: M') :=
  MSub.pull (h ▸ e) s
theorem MSub.pullL {M M' R : Res} {l l' : Nat} {A : HP} (e : Sx.pull M l = some (A, R)) (s : MSub R M') : MSub M ((l', A) :: M') :=
  MSub.pull' e (fun _ h => h) s
theorem MSub.pullLE {M M' R : Res} {l l' : Nat} {A B : HP} (e : Sx.pull M l = some (A, R)) (h : A = B) (s : MSub R M') : MSub M ((l', B) :: M') :=
  MSub.pullL (h ▸ e) s
theorem MSub.drop {M M' : Res} {x : Nat × HP} (s : MSub M M') : MSub (x :: M) M' :=
  fun _ ⟨_, _, _, b, _, _, e⟩ => s _ (e.mono b)
theorem Inv.sub {w0 : World} {ro : Hp} {M M' : Res} {W : World} (h : Inv w0 ro M W) (s : MSub M M') : Inv w0 ro M' W := h.weak s

end Go.Sx
namespace Go.Sx
open Go

section
variable (P : Program) (Q : Exit → Act → World → Prop) (n : Nat) (w0 : World) (ro : Hp)

/-- what goes on from this state -/
def Kp (K : Act → World → Prop) (E : Env) (M : Res) : Prop := ∀ a W, Fits n E a → Inv w0 ro M W → K a W
/-- a row of operations from this state on -/
abbrev J (ops : Array Oper) (l : List Oper) (E : Env) (M : Res) : Prop := Kp n w0 ro (wpList P ops Q l) E M
/-- one operation, carried out for certain, and what goes on behind it -/
def JO (K : Act → World → Prop) (o : Oper) (E : Env) (M : Res) : Prop := ∀ a W, Fits n E a → Inv w0 ro M W → o.wp P a W K Q
/-- code -/
def C (c : Code) (E : Env) (M : Res) : Prop := ∀ a W, Fits n E a → Inv w0 ro M W → c.wp P Q a W
/-- an exit -/
def Po (e : Exit) (E : Env) (M : Res) : Prop := ∀ a W, Fits n E a → Inv w0 ro M W → Q e a W
/-- an operation that yields this value and turns nothing -/
def V (E : Env) (M : Res) (o : Oper) (v : Value) : Prop := ∀ a W, Fits n E a → Inv w0 ro M W → (execOp a.eval o).run P W = .ok (.value v) W
end

/-- a call: what it hands back and what is owned behind it -/
def Fn (P : Program) (f : FuncId) (args : Array Value) (w0 : World) (ro : Hp) (M : Res) (Φ : Value → Res → Prop) : Prop :=
  ∀ W, Inv w0 ro M W → Calls P f args W fun e W' => ∃ v M', e = .returned v ∧ Φ v M' ∧ Inv w0 ro M' W'
/-- a call that hands back this and turns nothing that is owned -/
def Pu (P : Program) (f : FuncId) (args : Array Value) (w0 : World) (ro : Hp) (M : Res) (v : Value) : Prop :=
  ∀ W, Inv w0 ro M W → Calls P f args W fun e W' => e = .returned v ∧ Inv w0 ro M W'

/-- a call behind which more is only read -/
def Fg (P : Program) (f : FuncId) (args : Array Value) (w0 : World) (ro : Hp) (M : Res) (Φ : Value → Hp → Res → Prop) : Prop :=
  ∀ W, Inv w0 ro M W → Calls P f args W fun e W' => ∃ v ro' M', e = .returned v ∧ Hp.le ro ro' ∧ Φ v ro' M' ∧ Inv w0 ro' M' W'
theorem Fn.fg {P : Program} {f : FuncId} {args : Array Value} {w0 : World} {ro : Hp} {M : Res} {Φ : Value → Res → Prop} (h : Fn P f args w0 ro M Φ) :
    Fg P f args w0 ro M fun v ro' M' => ro' = ro ∧ Φ v M' := fun W hW => (h W hW).mono fun _ _ ⟨v, M', a, b, c⟩ => ⟨v, ro, M', a, Hp.le_refl _, ⟨rfl, b⟩, c⟩
theorem Fg.mono {P : Program} {f : FuncId} {args : Array Value} {w0 : World} {ro : Hp} {M : Res} {Φ Ψ : Value → Hp → Res → Prop} (h : Fg P f args w0 ro M Φ)
    (k : ∀ v ro' M', Hp.le ro ro' → Φ v ro' M' → Ψ v ro' M') : Fg P f args w0 ro M Ψ := fun W hW => (h W hW).mono fun _ _ ⟨v, ro', M', a, b, c, d⟩ => ⟨v, ro', M', a, b, k _ _ _ b c, d⟩
theorem Fg.sub {P : Program} {f : FuncId} {args : Array Value} {w0 : World} {ro : Hp} {M N : Res} {Φ : Value → Hp → Res → Prop} (h : Fg P f args w0 ro M Φ)
    (k : MSub N M) : Fg P f args w0 ro N Φ := fun W hW => h W (hW.sub k)
theorem Pu.fn {P : Program} {f : FuncId} {args : Array Value} {w0 : World} {ro : Hp} {M : Res} {v : Value} (h : Pu P f args w0 ro M v) :
    Fn P f args w0 ro M fun u M' => u = v ∧ M' = M := fun W hW => (h W hW).mono fun _ _ ⟨a, b⟩ => ⟨v, M, a, ⟨rfl, rfl⟩, b⟩
theorem Fn.mono {P : Program} {f : FuncId} {args : Array Value} {w0 : World} {ro : Hp} {M : Res} {Φ Ψ : Value → Res → Prop} (h : Fn P f args w0 ro M Φ)
    (k : ∀ v M', Φ v M' → Ψ v M') : Fn P f args w0 ro M Ψ := fun W hW => (h W hW).mono fun _ _ ⟨v, M', a, b, c⟩ => ⟨v, M', a, k _ _ b, c⟩
theorem Fn.sub {P : Program} {f : FuncId} {args : Array Value} {w0 : World} {ro : Hp} {M N : Res} {Φ : Value → Res → Prop} (h : Fn P f args w0 ro M Φ)
    (k : MSub N M) : Fn P f args w0 ro N Φ := fun W hW => h W (hW.sub k)

section
variable {P : Program} {Q : Exit → Act → World → Prop} {n : Nat} {w0 : World} {ro : Hp}
variable {ops : Array Oper} {l : List Oper} {E : Env} {M : Res}

theorem C.seq {x y : Code} (h : C P (Exit.then (y.wp P Q) Q) n w0 ro x E M) : C P Q n w0 ro (.seq x y) E M := fun a W f i => wp_seq (h a W f i)
theorem C.reg {id : Nat} (h : J P Q n w0 ro l.toArray l E M) : C P Q n w0 ro (.region id l.toArray false) E M := fun a W f i => wp_region_lit (h a W f i)
theorem C.skip (h : Po Q n w0 ro .normal E M) : C P Q n w0 ro .skip E M := fun a W f i => wp_skip (h a W f i)
theorem C.ret (h : Po Q n w0 ro .ret E M) : C P Q n w0 ro .ret E M := fun a W f i => wp_ret (h a W f i)
theorem C.exit {k : Nat} (h : Po Q n w0 ro (.exit k) E M) : C P Q n w0 ro (.exit k) E M := fun a W f i => wp_exit (h a W f i)
theorem C.block {k : Nat} {c : Code} (h : C P (Exit.inBlock k Q) n w0 ro c E M) : C P Q n w0 ro (.block k c) E M := fun a W f i => wp_block (h a W f i)
theorem C.ite {c : Operand} {x y : Code} {b : Bool} (hc : opnd E c = some (.bool b)) (ht : b = true → C P Q n w0 ro x E M) (hf : b = false → C P Q n w0 ro y E M) :
    C P Q n w0 ro (.cond c x y) E M := fun a W f i => wp_cond_split (f.eval hc) (fun h => ht h a W f i) (fun h => hf h a W f i)
theorem C.ifd {c : Operand} {x y : Code} {p : Prop} [Decidable p] (hc : opnd E c = some (.bool (decide p))) (ht : p → C P Q n w0 ro x E M) (hf : ¬ p → C P Q n w0 ro y E M) :
    C P Q n w0 ro (.cond c x y) E M := C.ite hc (fun h => ht (of_decide_eq_true h)) (fun h => hf (of_decide_eq_false h))
theorem C.yes {c : Operand} {x y : Code} (hc : opnd E c = some (.bool true)) (h : C P Q n w0 ro x E M) : C P Q n w0 ro (.cond c x y) E M :=
  C.ite hc (fun _ => h) (fun h => by cases h)
theorem C.no {c : Operand} {x y : Code} (hc : opnd E c = some (.bool false)) (h : C P Q n w0 ro y E M) : C P Q n w0 ro (.cond c x y) E M :=
  C.ite hc (fun h => by cases h) (fun _ => h)
theorem C.sub {c : Code} {E' : Env} {M' : Res} (h : C P Q n w0 ro c E' M') (s : Sub E E') (t : MSub M M') : C P Q n w0 ro c E M := fun a W f i => h a W (f.sub s) (i.sub t)
theorem J.sub {E' : Env} {M' : Res} (h : J P Q n w0 ro ops l E' M') (s : Sub E E') (t : MSub M M') : J P Q n w0 ro ops l E M := fun a W f i => h a W (f.sub s) (i.sub t)

theorem least_ex {p : Nat → Prop} : ∀ m, p m → ∃ k, p k ∧ ∀ j, p j → k ≤ j := by
  intro m
  induction m using Nat.strongRecOn with
  | _ m ih =>
    intro hm
    by_cases h : ∃ j, j < m ∧ p j
    · obtain ⟨j, hj, pj⟩ := h; exact ih j hj pj
    · exact ⟨m, hm, fun j pj => Nat.le_of_not_lt fun hlt => h ⟨j, hlt, pj⟩⟩
open Classical in
noncomputable def leastOf (p : Nat → Prop) : Nat := if h : ∃ k, p k ∧ ∀ j, p j → k ≤ j then Classical.choose h else 0
theorem leastOf_spec {p : Nat → Prop} (h : ∃ m, p m) : p (leastOf p) ∧ ∀ j, p j → leastOf p ≤ j := by
  obtain ⟨m, hm⟩ := h
  have h2 := least_ex m hm
  unfold leastOf
  rw [dif_pos h2]
  exact Classical.choose_spec h2

/-- a loop: its state as a datum -/
theorem C.loop {σ : Type} {c : Code} (I : σ → Env) (R : σ → Res) (μ : σ → Nat) (x0 : σ) (hE : Sub E (I x0)) (hM : MSub M (R x0))
    (round : ∀ x, C P (Exit.then (fun a w => ∃ y, μ y < μ x ∧ Fits n (I y) a ∧ Inv w0 ro (R y) w) Q) n w0 ro c (I x) (R x)) :
    C P Q n w0 ro (.loop c) E M := by
  intro a W f i
  let p : Act → World → Nat → Prop := fun a w m => ∃ x, μ x = m ∧ Fits n (I x) a ∧ Inv w0 ro (R x) w
  refine wp_loop (fun a w => ∃ m, p a w m) (fun a w => leastOf (p a w)) ⟨_, x0, rfl, f.sub hE, i.sub hM⟩ fun a w hI => ?_
  obtain ⟨x, hx, fx, ix⟩ := (leastOf_spec hI).1
  refine Code.wp_mono (fun e a' w' q => ?_) (round x a w fx ix)
  cases e with
  | normal =>
    obtain ⟨y, hy, fy, iy⟩ := q
    have hp : p a' w' (μ y) := ⟨y, rfl, fy, iy⟩
    have := (leastOf_spec ⟨_, hp⟩).2 _ hp
    refine ⟨⟨_, hp⟩, ?_⟩
    show leastOf (p a' w') < leastOf (p a w)
    omega
  | exit _ => exact q
  | goto _ => exact q
  | ret => exact q
  | panic _ => exact q
  | outgrown => exact q

theorem C.loopP {σ : Type} {c : Code} (ok : σ → Prop) (I : σ → Env) (R : σ → Res) (μ : σ → Nat) (x0 : σ) (h0 : ok x0) (hE : Sub E (I x0)) (hM : MSub M (R x0))
    (round : ∀ x, ok x → C P (Exit.then (fun a w => ∃ y, ok y ∧ μ y < μ x ∧ Fits n (I y) a ∧ Inv w0 ro (R y) w) Q) n w0 ro c (I x) (R x)) :
    C P Q n w0 ro (.loop c) E M :=
  C.loop (σ := {x // ok x}) (fun x => I x.1) (fun x => R x.1) (fun x => μ x.1) ⟨x0, h0⟩ hE hM fun ⟨x, hx⟩ a W f i => Code.wp_mono (fun e a' w' q => by
    cases e with
    | normal => obtain ⟨y, h1, h2, h3, h4⟩ := q; exact ⟨⟨y, h1⟩, h2, h3, h4⟩
    | exit _ => exact q
    | goto _ => exact q
    | ret => exact q
    | panic _ => exact q
    | outgrown => exact q) (round x hx a W f i)
theorem Po.roundP {σ : Type} {ok : σ → Prop} {I : σ → Env} {R : σ → Res} {μ : σ → Nat} {m : Nat} (y : σ) (hy : ok y) (hE : Sub E (I y)) (hM : MSub M (R y)) (hμ : μ y < m) :
    Po (Exit.then (fun a w => ∃ y, ok y ∧ μ y < m ∧ Fits n (I y) a ∧ Inv w0 ro (R y) w) Q) n w0 ro .normal E M :=
  fun _ _ f i => ⟨y, hy, hμ, f.sub hE, i.sub hM⟩

/-- a loop in which more and more is only read -/
theorem C.loopG {σ : Type} {c : Code} (ok : Hp → σ → Prop) (I : σ → Env) (R : σ → Res) (μ : σ → Nat) (x0 : σ) (h0 : ok ro x0) (hE : Sub E (I x0)) (hM : MSub M (R x0))
    (round : ∀ ro1 x, Hp.le ro ro1 → ok ro1 x → C P (Exit.then (fun a w => ∃ ro2 y, Hp.le ro1 ro2 ∧ ok ro2 y ∧ μ y < μ x ∧ Fits n (I y) a ∧ Inv w0 ro2 (R y) w) Q) n w0 ro1 c (I x) (R x)) :
    C P Q n w0 ro (.loop c) E M := by
  intro a W f i
  let p : Act → World → Nat → Prop := fun a w m => ∃ ro1 x, Hp.le ro ro1 ∧ ok ro1 x ∧ μ x = m ∧ Fits n (I x) a ∧ Inv w0 ro1 (R x) w
  refine wp_loop (fun a w => ∃ m, p a w m) (fun a w => leastOf (p a w)) ⟨_, ro, x0, Hp.le_refl _, h0, rfl, f.sub hE, i.sub hM⟩ fun a w hI => ?_
  obtain ⟨ro1, x, hl, hok, hx, fx, ix⟩ := (leastOf_spec hI).1
  refine Code.wp_mono (fun e a' w' q => ?_) (round ro1 x hl hok a w fx ix)
  cases e with
  | normal =>
    obtain ⟨ro2, y, hl2, hok2, hy, fy, iy⟩ := q
    have hp : p a' w' (μ y) := ⟨ro2, y, Hp.le_trans hl hl2, hok2, rfl, fy, iy⟩
    have := (leastOf_spec ⟨_, hp⟩).2 _ hp
    refine ⟨⟨_, hp⟩, ?_⟩
    show leastOf (p a' w') < leastOf (p a w)
    omega
  | exit _ => exact q
  | goto _ => exact q
  | ret => exact q
  | panic _ => exact q
  | outgrown => exact q
theorem Po.roundG {σ : Type} {ok : Hp → σ → Prop} {I : σ → Env} {R : σ → Res} {μ : σ → Nat} {m : Nat} {ro1 : Hp} (hl : Hp.le ro1 ro) (y : σ) (hy : ok ro y) (hE : Sub E (I y)) (hM : MSub M (R y)) (hμ : μ y < m) :
    Po (Exit.then (fun a w => ∃ ro2 y, Hp.le ro1 ro2 ∧ ok ro2 y ∧ μ y < m ∧ Fits n (I y) a ∧ Inv w0 ro2 (R y) w) Q) n w0 ro .normal E M :=
  fun _ _ f i => ⟨ro, y, hl, hy, hμ, f.sub hE, i.sub hM⟩
/-- two ways meet again, behind which more is only read -/
theorem C.cutG {σ : Type} {c y : Code} (ok : Hp → σ → Prop) (I : σ → Env) (R : σ → Res) (h : C P (Exit.then (fun a w => ∃ ro2 s, Hp.le ro ro2 ∧ ok ro2 s ∧ Fits n (I s) a ∧ Inv w0 ro2 (R s) w) Q) n w0 ro c E M)
    (k : ∀ ro1 s, Hp.le ro ro1 → ok ro1 s → C P Q n w0 ro1 y (I s) (R s)) : C P Q n w0 ro (.seq c y) E M :=
  C.seq fun a W f i => Code.wp_mono (fun e a' w' q => by
    cases e with
    | normal => obtain ⟨ro2, s, hl, ho, fs, is⟩ := q; exact k ro2 s hl ho a' w' fs is
    | exit _ => exact q
    | goto _ => exact q
    | ret => exact q
    | panic _ => exact q
    | outgrown => exact q) (h a W f i)
theorem Po.cutG {σ : Type} {ok : Hp → σ → Prop} {I : σ → Env} {R : σ → Res} {ro1 : Hp} (hl : Hp.le ro1 ro) (s : σ) (ho : ok ro s) (hE : Sub E (I s)) (hM : MSub M (R s)) :
    Po (Exit.then (fun a w => ∃ ro2 s, Hp.le ro1 ro2 ∧ ok ro2 s ∧ Fits n (I s) a ∧ Inv w0 ro2 (R s) w) Q) n w0 ro .normal E M := fun _ _ f i => ⟨ro, s, hl, ho, f.sub hE, i.sub hM⟩
theorem Po.then {y : Code} (h : C P Q n w0 ro y E M) : Po (Exit.then (y.wp P Q) Q) n w0 ro .normal E M := h
theorem Po.thenR {K : Act → World → Prop} (h : Po Q n w0 ro .ret E M) : Po (Exit.then K Q) n w0 ro .ret E M := h
theorem Po.thenX {K : Act → World → Prop} {k : Nat} (h : Po Q n w0 ro (.exit k) E M) : Po (Exit.then K Q) n w0 ro (.exit k) E M := h
theorem Po.blkN {k : Nat} (h : Po Q n w0 ro .normal E M) : Po (Exit.inBlock k Q) n w0 ro .normal E M := h
theorem Po.blkR {k : Nat} (h : Po Q n w0 ro .ret E M) : Po (Exit.inBlock k Q) n w0 ro .ret E M := h
theorem Po.blkX {k : Nat} (h : Po Q n w0 ro .normal E M) : Po (Exit.inBlock k Q) n w0 ro (.exit k) E M := fun a W f i => by
  show (if k = k then _ else _)
  rw [if_pos rfl]; exact h a W f i
theorem Po.blkO {j k : Nat} (e : Nat.beq j k = false) (h : Po Q n w0 ro (.exit j) E M) : Po (Exit.inBlock k Q) n w0 ro (.exit j) E M := fun a W f i => by
  show (if j = k then _ else _)
  rw [if_neg (by intro h; subst h; rw [Nat.beq_refl] at e; cases e)]; exact h a W f i
theorem Po.round {σ : Type} {I : σ → Env} {R : σ → Res} {μ : σ → Nat} {x : σ} (y : σ) (hE : Sub E (I y)) (hM : MSub M (R y)) (hμ : μ y < μ x) :
    Po (Exit.then (fun a w => ∃ y, μ y < μ x ∧ Fits n (I y) a ∧ Inv w0 ro (R y) w) Q) n w0 ro .normal E M :=
  fun _ _ f i => ⟨y, hμ, f.sub hE, i.sub hM⟩

theorem J.nil (h : Po Q n w0 ro .normal E M) : J P Q n w0 ro ops [] E M := fun a W f i => wpList_nil (h a W f i)
theorem J.one {o : Oper} (hg : o.guard = none) (h : JO P Q n w0 ro (wpList P ops Q l) o E M) : J P Q n w0 ro ops (o :: l) E M :=
  fun a W f i => wpList_plain hg fun _ hK => Oper.wp_mono hK (h a W f i)

/-- a guarded operation -/
theorem J.grd {o : Oper} {j s : Nat} {t b : Bool} (hg : o.guard = some (j, t)) (hj : (ops[j]?).bind (·.dst) = some s) (hb : find E s = some (.bool b))
    (hs : Nat.blt s n = true)
    (yes : b = t → JO P Q n w0 ro (wpList P ops Q l) o E M) (no : b = !t → ∀ d, o.dst = some d → J P Q n w0 ro ops l ((d, undef) :: E) M)
    (hd : ∃ d, o.dst = some d ∧ Nat.blt d n = true) : J P Q n w0 ro ops (o :: l) E M := by
  intro a W f i
  have hsn : s < n := by simpa [Nat.blt_eq] using hs
  have hv : a.tmps[s]? = some (.bool b) := by
    have := f.slot s _ hb
    have hz := f.size
    rw [Array.getElem?_eq_getElem (by omega)]
    simp [Array.getD, hz, hsn] at this
    rw [this]
  have hy : yielded ops a.tmps j = some b := by simp [yielded, hj, hv]
  unfold wpList
  by_cases hbt : b = t
  · rw [if_pos (by simp [Region.wanted, hg, hy, hbt])]
    exact .inl (yes hbt a W f i)
  · rw [if_neg (by simp [Region.wanted, hg, hy, hbt])]
    obtain ⟨d, hd1, hd2⟩ := hd
    rw [hd1]
    exact no (by cases b <;> cases t <;> simp_all) d hd1 _ W (f.put undef hd2) i

theorem JO.q {K : Act → World → Prop} {o : Oper} {d : Nat} {v : Value} (hd : o.dst = some d) (hn : Nat.blt d n = true) (hy : V P n w0 ro E M o v) (h : Kp n w0 ro K ((d, v) :: E) M) :
    JO P Q n w0 ro K o E M := fun a W f i => by
  unfold Oper.wp
  rw [hy a W f i, Oper.upon_value, hd]
  exact h _ W (f.put v hn) i
theorem J.q {o : Oper} {d : Nat} {v : Value} (hg : o.guard = none) (hd : o.dst = some d) (hn : Nat.blt d n = true) (hy : V P n w0 ro E M o v)
    (h : J P Q n w0 ro ops l ((d, v) :: E) M) : J P Q n w0 ro ops (o :: l) E M := J.one hg (JO.q hd hn hy h)
theorem V.sub {E' : Env} {M' : Res} {o : Oper} {v : Value} (h : V P n w0 ro E' M' o v) (s : Sub E E') (t : MSub M M') : V P n w0 ro E M o v :=
  fun a W f i => h a W (f.sub s) (i.sub t)

/-- the entry -/
def envOf : List Value → Nat → Env
  | [], _ => []
  | v :: l, k => (k, v) :: envOf l (k + 1)
theorem find_envOf : ∀ (l : List Value) (k j : Nat) (v : Value), find (envOf l k) j = some v → k ≤ j ∧ l[j - k]? = some v
  | [], _, _, _, h => by simp [envOf, find] at h
  | u :: l, k, j, v, h => by
    rw [envOf, find_cons] at h
    by_cases e : k = j
    · subst e; simp at h; subst h; simp
    · simp [e] at h
      obtain ⟨a, b⟩ := find_envOf l (k + 1) j v h
      refine ⟨by omega, ?_⟩
      have : j - k = (j - (k + 1)) + 1 := by omega
      rw [this]; simpa using b
theorem fits_entry {fn : Func} (vs : List Value) (hn : Nat.ble vs.length fn.ntmps = true) :
    Fits fn.ntmps (envOf vs 0) { tmps := vs.toArray ++ Array.replicate (fn.ntmps - vs.toArray.size) undef, defers := [] } := by
  have hle : vs.length ≤ fn.ntmps := Nat.le_of_ble_eq_true hn
  refine ⟨rfl, by simp; omega, fun k v h => ?_⟩
  obtain ⟨_, h⟩ := find_envOf _ _ _ _ h
  have hlt : k < vs.length := by
    have := (List.getElem?_eq_some_iff.1 h).1; simpa using this
  simp at h
  simp [Array.getElem?_append, hlt]
  exact (List.getElem?_eq_some_iff.1 h).2

theorem Fn.enter {f : FuncId} {fn : Func} {c : Code} {vs : List Value} {Φ : Value → Res → Prop} (hf : P.funcs[f]? = some fn) (hb : fn.body = some c)
    (hn : Nat.ble vs.length fn.ntmps = true)
    (h : C P (bodyPost P fn fun e W' => ∃ v M', e = .returned v ∧ Φ v M' ∧ Inv w0 ro M' W') fn.ntmps w0 ro c (envOf vs 0) M) :
    Fn P f vs.toArray w0 ro M Φ := fun W hW => calls_of_wp hf hb (h _ W (fits_entry vs hn) hW)
theorem Fg.enter {f : FuncId} {fn : Func} {c : Code} {vs : List Value} {Φ : Value → Hp → Res → Prop} (hf : P.funcs[f]? = some fn) (hb : fn.body = some c)
    (hn : Nat.ble vs.length fn.ntmps = true)
    (h : C P (bodyPost P fn fun e W' => ∃ v ro' M', e = .returned v ∧ Hp.le ro ro' ∧ Φ v ro' M' ∧ Inv w0 ro' M' W') fn.ntmps w0 ro c (envOf vs 0) M) :
    Fg P f vs.toArray w0 ro M Φ := fun W hW => calls_of_wp hf hb (h _ W (fits_entry vs hn) hW)
theorem Pu.enter {f : FuncId} {fn : Func} {c : Code} {vs : List Value} {v : Value} (hf : P.funcs[f]? = some fn) (hb : fn.body = some c)
    (hn : Nat.ble vs.length fn.ntmps = true)
    (h : C P (bodyPost P fn fun e W' => e = .returned v ∧ Inv w0 ro M W') fn.ntmps w0 ro c (envOf vs 0) M) :
    Pu P f vs.toArray w0 ro M v := fun W hW => calls_of_wp hf hb (h _ W (fits_entry vs hn) hW)

def ends : Exit → Bool
  | .normal => true
  | .ret => true
  | _ => false
/-- what the result slots read as -/
def RV (P : Program) (w0 : World) (ro : Hp) (E : Env) (M : Res) (r : ResultVar) (v : Value) : Prop :=
  match r with
  | .tmp t => find E t = some v
  | .cell t ty => ∃ a, find E t = some (.pointer (some a)) ∧ ∀ W, Inv w0 ro M W → (loadVar ty a).run P W = .ok v W

theorem Po.end1 {fn : Func} {r : ResultVar} {v : Value} {R : Ending → World → Prop} {e : Exit} (he : ends e = true) (hr : fn.results = #[r]) (hv : RV P w0 ro E M r v)
    (h : ∀ W, Inv w0 ro M W → R (.returned v) W) : Po (bodyPost P fn R) n w0 ro e E M := by
  intro a W f i
  have hres : (results fn a.tmps).run P W = .ok v W := by
    cases r with
    | tmp t => have := f.slot t v hv; simp [results, hr]; simpa using this
    | cell t ty =>
      obtain ⟨ad, h1, h2⟩ := hv
      have := f.slot t _ h1
      simp at this
      simp [results, hr, this, asAddr, h2 W i]
  cases e <;> simp [ends] at he <;> exact ⟨f.defers, v, hres, h W i⟩
theorem Po.end2 {fn : Func} {r s : ResultVar} {u v : Value} {R : Ending → World → Prop} {e : Exit} (he : ends e = true) (hr : fn.results = #[r, s]) (hu : RV P w0 ro E M r u) (hv : RV P w0 ro E M s v)
    (h : ∀ W, Inv w0 ro M W → R (.returned (.tuple #[u, v])) W) : Po (bodyPost P fn R) n w0 ro e E M := by
  intro a W f i
  have hres : (results fn a.tmps).run P W = .ok (.tuple #[u, v]) W := by
    cases r with
    | tmp t =>
      have ht := f.slot t u hu
      simp at ht
      cases s with
      | tmp t' => have := f.slot t' v hv; simp at this; simp [results, hr, ht, this]
      | cell t' ty =>
        obtain ⟨ad, h1, h2⟩ := hv
        have := f.slot t' _ h1
        simp at this
        simp [results, hr, this, ht, asAddr, h2 W i]
    | cell t ty =>
      obtain ⟨ad, h1, h2⟩ := hu
      have ht := f.slot t _ h1
      simp at ht
      cases s with
      | tmp t' => have := f.slot t' v hv; simp at this; simp [results, hr, ht, this, asAddr, h2 W i]
      | cell t' ty =>
        obtain ⟨ad', h1', h2'⟩ := hv
        have := f.slot t' _ h1'
        simp at this
        simp [results, hr, this, ht, asAddr, h2 W i, h2' W i]
  cases e <;> simp [ends] at he <;> exact ⟨f.defers, _, hres, h W i⟩
theorem Po.end0 {fn : Func} {R : Ending → World → Prop} {e : Exit} (he : ends e = true) (hr : fn.results = #[])
    (h : ∀ W, Inv w0 ro M W → R (.returned (.tuple #[])) W) : Po (bodyPost P fn R) n w0 ro e E M := by
  intro a W f i
  cases e <;> simp [ends] at he <;> exact ⟨f.defers, _, results_none hr _ _ _, h W i⟩
end
end Go.Sx
namespace Go.Sx
open Go

section
variable {P : Program} {n : Nat} {w0 : World} {ro : Hp} {E : Env} {M : Res}
variable {dst : Option Tmp} {ty T T' : TypeId} {pos : String} {af : Array Edge} {g : Option (Nat × Bool)} {x y z : Operand}

theorem V.of_run {o : Oper} {v : Value} (h : ∀ a W, Fits n E a → Inv w0 ro M W → (execOp a.eval o).run P W = .ok (.value v) W) : V P n w0 ro E M o v := h

theorem V.mv {v : Value} (h : opnd E x = some v) : V P n w0 ro E M ⟨dst, .move x, ty, pos, af, g⟩ v :=
  .of_run fun a W f i => by simp [execOp, f.eval h]
theorem V.as {v : Value} (h : opnd E x = some v) : V P n w0 ro E M ⟨dst, .assign x, ty, pos, af, g⟩ v :=
  .of_run fun a W f i => by simp [execOp, f.eval h]

theorem eqGuard_int (op : BinOp) (t : TypeId) (k k' : IntKind) (a b : Int) (W : World) : (eqGuard op t x y (.int k a) (.int k' b)).run P W = .ok () W := by
  unfold eqGuard
  split <;> rfl

theorem run_bin_int {op : BinOp} {k : IntKind} {a b : Int} {a' : Act} {v : Value} {W : World} (hx : a'.eval x = .int k a) (hy : a'.eval y = .int k b)
    (h : (binOp op T (.int k a) (.int k b)).run P W = .ok v W) : (execOp a'.eval ⟨dst, .binOp op T x y T', ty, pos, af, g⟩).run P W = .ok (.value v) W := by
  simp only [execOp, hx, hy, Sem.run_bind, eqGuard_int, Result.andThen_ok, h, Sem.run_pure]

theorem V.bin {op : BinOp} {k : IntKind} {a b : Int} {v : Value} (hx : opnd E x = some (.int k a)) (hy : opnd E y = some (.int k b))
    (h : ∀ W, (binOp op T (.int k a) (.int k b)).run P W = .ok v W) : V P n w0 ro E M ⟨dst, .binOp op T x y T', ty, pos, af, g⟩ v :=
  .of_run fun a W f i => run_bin_int (f.eval hx) (f.eval hy) (h W)

section
variable {k : IntKind} {a b : Int}
theorem V.addW (hx : opnd E x = some (.int k a)) (hy : opnd E y = some (.int k b)) : V P n w0 ro E M ⟨dst, .binOp .add T x y T', ty, pos, af, g⟩ (.int k (k.wrap (a + b))) :=
  .bin hx hy fun W => by simp [binOp, Op.intArith]
theorem V.subW (hx : opnd E x = some (.int k a)) (hy : opnd E y = some (.int k b)) : V P n w0 ro E M ⟨dst, .binOp .sub T x y T', ty, pos, af, g⟩ (.int k (k.wrap (a - b))) :=
  .bin hx hy fun W => by simp [binOp, Op.intArith]
theorem V.mulW (hx : opnd E x = some (.int k a)) (hy : opnd E y = some (.int k b)) : V P n w0 ro E M ⟨dst, .binOp .mul T x y T', ty, pos, af, g⟩ (.int k (k.wrap (a * b))) :=
  .bin hx hy fun W => by simp [binOp, Op.intArith]
theorem wrap_in (c : Int) (h1 : -9223372036854775808 ≤ c) (h2 : c ≤ 9223372036854775807) : IntKind.i64.wrap c = c := by rw [IntKind.wrap_i64]; omega
theorem V.add (hx : opnd E x = some (.int .i64 a)) (hy : opnd E y = some (.int .i64 b)) (h : -9223372036854775808 ≤ a + b ∧ a + b ≤ 9223372036854775807) :
    V P n w0 ro E M ⟨dst, .binOp .add T x y T', ty, pos, af, g⟩ (.int .i64 (a + b)) := by
  have := V.addW (P := P) (n := n) (w0 := w0) (ro := ro) (M := M) (dst := dst) (T := T) (T' := T') (ty := ty) (pos := pos) (af := af) (g := g) hx hy
  rwa [wrap_in _ h.1 h.2] at this
theorem V.sub' (hx : opnd E x = some (.int .i64 a)) (hy : opnd E y = some (.int .i64 b)) (h : -9223372036854775808 ≤ a - b ∧ a - b ≤ 9223372036854775807) :
    V P n w0 ro E M ⟨dst, .binOp .sub T x y T', ty, pos, af, g⟩ (.int .i64 (a - b)) := by
  have := V.subW (P := P) (n := n) (w0 := w0) (ro := ro) (M := M) (dst := dst) (T := T) (T' := T') (ty := ty) (pos := pos) (af := af) (g := g) hx hy
  rwa [wrap_in _ h.1 h.2] at this
theorem V.mul (hx : opnd E x = some (.int .i64 a)) (hy : opnd E y = some (.int .i64 b)) (h : -9223372036854775808 ≤ a * b ∧ a * b ≤ 9223372036854775807) :
    V P n w0 ro E M ⟨dst, .binOp .mul T x y T', ty, pos, af, g⟩ (.int .i64 (a * b)) := by
  have := V.mulW (P := P) (n := n) (w0 := w0) (ro := ro) (M := M) (dst := dst) (T := T) (T' := T') (ty := ty) (pos := pos) (af := af) (g := g) hx hy
  rwa [wrap_in _ h.1 h.2] at this
theorem V.lss (hx : opnd E x = some (.int k a)) (hy : opnd E y = some (.int k b)) : V P n w0 ro E M ⟨dst, .binOp .lss T x y T', ty, pos, af, g⟩ (.bool (decide (a < b))) :=
  .bin hx hy fun W => by simp [binOp, Op.intCmp]
theorem V.leq (hx : opnd E x = some (.int k a)) (hy : opnd E y = some (.int k b)) : V P n w0 ro E M ⟨dst, .binOp .leq T x y T', ty, pos, af, g⟩ (.bool (decide (a ≤ b))) :=
  .bin hx hy fun W => by simp [binOp, Op.intCmp]
theorem V.gtr (hx : opnd E x = some (.int k a)) (hy : opnd E y = some (.int k b)) : V P n w0 ro E M ⟨dst, .binOp .gtr T x y T', ty, pos, af, g⟩ (.bool (decide (b < a))) :=
  .bin hx hy fun W => by simp [binOp, Op.intCmp]
theorem V.geq (hx : opnd E x = some (.int k a)) (hy : opnd E y = some (.int k b)) : V P n w0 ro E M ⟨dst, .binOp .geq T x y T', ty, pos, af, g⟩ (.bool (decide (b ≤ a))) :=
  .bin hx hy fun W => by simp [binOp, Op.intCmp]
theorem beq_dec (a b : Int) : (a == b) = decide (a = b) := by by_cases h : a = b <;> simp [h]
theorem bne_dec (a b : Int) : (a != b) = decide (a ≠ b) := by by_cases h : a = b <;> simp [h, bne]
theorem V.eql (hx : opnd E x = some (.int k a)) (hy : opnd E y = some (.int k b)) : V P n w0 ro E M ⟨dst, .binOp .eql T x y T', ty, pos, af, g⟩ (.bool (decide (a = b))) :=
  .bin hx hy fun W => by rw [← beq_dec]; simp [binOp, Op.intCmp]
theorem V.neq (hx : opnd E x = some (.int k a)) (hy : opnd E y = some (.int k b)) : V P n w0 ro E M ⟨dst, .binOp .neq T x y T', ty, pos, af, g⟩ (.bool (decide (a ≠ b))) :=
  .bin hx hy fun W => by rw [← bne_dec]; simp [binOp, Op.intCmp]
theorem V.quoW (hx : opnd E x = some (.int k a)) (hy : opnd E y = some (.int k b)) (h : b ≠ 0) : V P n w0 ro E M ⟨dst, .binOp .quo T x y T', ty, pos, af, g⟩ (.int k (k.wrap (a.tdiv b))) :=
  .bin hx hy fun W => by simp [binOp, Op.intDiv, h]
theorem V.remW (hx : opnd E x = some (.int k a)) (hy : opnd E y = some (.int k b)) (h : b ≠ 0) : V P n w0 ro E M ⟨dst, .binOp .rem T x y T', ty, pos, af, g⟩ (.int k (a.tmod b)) :=
  .bin hx hy fun W => by simp [binOp, Op.intDiv, h]
theorem V.quo (hx : opnd E x = some (.int .i64 a)) (hy : opnd E y = some (.int .i64 b)) (h : 0 ≤ a ∧ a ≤ 9223372036854775807 ∧ 0 < b) :
    V P n w0 ro E M ⟨dst, .binOp .quo T x y T', ty, pos, af, g⟩ (.int .i64 (a / b)) :=
  .bin hx hy fun W => by
    have h0 : b ≠ 0 := by omega
    have h1 : a.tdiv b = a / b := Int.tdiv_eq_ediv_of_nonneg h.1
    have h2 : 0 ≤ a / b := Int.ediv_nonneg h.1 (by omega)
    have h3 : a / b ≤ a := Int.ediv_le_self _ h.1
    simp [binOp, Op.intDiv, h0, h1]
    exact wrap_in _ (by omega) (by omega)
theorem V.rem (hx : opnd E x = some (.int k a)) (hy : opnd E y = some (.int k b)) (h : 0 ≤ a ∧ 0 < b) :
    V P n w0 ro E M ⟨dst, .binOp .rem T x y T', ty, pos, af, g⟩ (.int k (a % b)) :=
  .bin hx hy fun W => by
    have h0 : b ≠ 0 := by omega
    have h1 : a.tmod b = a % b := Int.tmod_eq_emod_of_nonneg h.1
    simp [binOp, Op.intDiv, h0, h1]
end

section
variable {k k' : IntKind} {a b : Int}
theorem run_shift {op : BinOp} {v : Value} (hop : op = .shl ∨ op = .shr) (hx : opnd E x = some (.int k a)) (hy : opnd E y = some (.int k' b)) (h : ∀ W, (Op.shift op k a k' b).run P W = .ok v W) :
    V P n w0 ro E M ⟨dst, .binOp op T x y T', ty, pos, af, g⟩ v :=
  .of_run fun a' W f i => by
    simp only [execOp, f.eval hx, f.eval hy, Sem.run_bind, eqGuard_int, Result.andThen_ok]
    rcases hop with rfl | rfl <;> simp [binOp, h]
theorem V.shr (hx : opnd E x = some (.int k a)) (hy : opnd E y = some (.int k' b)) (h : 0 ≤ b ∧ b ≤ k.bits) :
    V P n w0 ro E M ⟨dst, .binOp .shr T x y T', ty, pos, af, g⟩ (.int k (a / 2 ^ b.toNat)) :=
  run_shift (.inr rfl) hx hy fun W => by
    have h0 : ¬ b < 0 := by omega
    have h1 : min b.toNat k.bits = b.toNat := by omega
    simp only [Op.shift, h0, if_false, h1]
    rw [Int.fdiv_eq_ediv_of_nonneg _ (Int.pow_nonneg (by omega))]; rfl
theorem V.shl (hx : opnd E x = some (.int k a)) (hy : opnd E y = some (.int k' b)) (h : 0 ≤ b ∧ b ≤ k.bits) :
    V P n w0 ro E M ⟨dst, .binOp .shl T x y T', ty, pos, af, g⟩ (.int k (k.wrap (a * 2 ^ b.toNat))) :=
  run_shift (.inl rfl) hx hy fun W => by
    have h0 : ¬ b < 0 := by omega
    have h1 : min b.toNat k.bits = b.toNat := by omega
    simp only [Op.shift, h0, if_false, h1]; rfl
end

theorem V.no {b : Bool} (h : opnd E x = some (.bool b)) : V P n w0 ro E M ⟨dst, .unOp .not T x, ty, pos, af, g⟩ (.bool (!b)) :=
  .of_run fun a W f i => by simp [execOp, f.eval h, Op.unary]
theorem V.noD {p : Prop} [Decidable p] (h : opnd E x = some (.bool (decide p))) : V P n w0 ro E M ⟨dst, .unOp .not T x, ty, pos, af, g⟩ (.bool (decide (¬ p))) :=
  .of_run fun a W f i => by simp [execOp, f.eval h, Op.unary]
theorem V.neg {a : Int} (h : opnd E x = some (.int .i64 a)) : V P n w0 ro E M ⟨dst, .unOp .neg T x, ty, pos, af, g⟩ (.int .i64 (IntKind.i64.wrap (0 - a))) :=
  .of_run fun a W f i => by simp [execOp, f.eval h, Op.unary, Op.intArith]
theorem V.pkT {u : Value} (hc : opnd E x = some (.bool true)) (ha : opnd E y = some u) : V P n w0 ro E M ⟨dst, .pick x y z, ty, pos, af, g⟩ u :=
  .of_run fun a W f i => by simp [execOp, f.eval hc, f.eval ha, asBool]
theorem V.pkF {u : Value} (hc : opnd E x = some (.bool false)) (ha : opnd E z = some u) : V P n w0 ro E M ⟨dst, .pick x y z, ty, pos, af, g⟩ u :=
  .of_run fun a W f i => by simp [execOp, f.eval hc, f.eval ha, asBool]
theorem V.pk {b : Bool} {u v : Value} (hc : opnd E x = some (.bool b)) (ha : opnd E y = some u) (hb : opnd E z = some v) :
    V P n w0 ro E M ⟨dst, .pick x y z, ty, pos, af, g⟩ (if b then u else v) :=
  .of_run fun a W f i => by simp [execOp, f.eval hc, f.eval ha, f.eval hb, asBool]
theorem V.cv {k k' : IntKind} {a : Int} {d : TypeDesc} (h : opnd E x = some (.int k' a)) (hs : P.underlying T = some d) (hd : P.underlying T' = some (.int k)) :
    V P n w0 ro E M ⟨dst, .convert T T' x, ty, pos, af, g⟩ (.int k (k.wrap a)) :=
  .of_run fun a' W f i => by simp [execOp, f.eval h, convert, run_underlying hs, run_underlying hd, Conv.intToInt]
theorem V.cvI {k k' : IntKind} {a : Int} {d : TypeDesc} (h : opnd E x = some (.int k' a)) (hs : P.underlying T = some d) (hd : P.underlying T' = some (.int k)) (hw : k.wrap a = a) :
    V P n w0 ro E M ⟨dst, .convert T T' x, ty, pos, af, g⟩ (.int k a) := by
  have := V.cv (n := n) (w0 := w0) (ro := ro) (M := M) (dst := dst) (ty := ty) (pos := pos) (af := af) (g := g) h hs hd
  rwa [hw] at this

/-- the place of a field -/
def Fo (P : Program) (T : TypeId) (j o : Nat) : Prop := ∃ fs f s, P.underlying T = some (.struct fs) ∧ fs[j]? = some f ∧ f.offset = o ∧ (P.info? f.type).map (·.size) = some (s + 1)
theorem addr_add (b off o : Nat) : (⟨b, off, none⟩ : Addr).add o = ⟨b, off + o, none⟩ := by unfold Addr.add; split <;> simp_all
theorem run_sizeOf {t : TypeId} {s : Nat} (h : (P.info? t).map (·.size) = some s) (W : World) : (sizeOf t).run P W = .ok s W := by
  cases hq : P.info? t with
  | none => simp [hq] at h
  | some i => simp [hq] at h; simp [sizeOf, typeInfo, hq, h]
theorem V.fa {b off j o : Nat} (h : opnd E x = some (.pointer (some ⟨b, off, none⟩))) (hf : Fo P T j o) :
    V P n w0 ro E M ⟨dst, .fieldAddr T x j, ty, pos, af, g⟩ (.pointer (some ⟨b, off + o, none⟩)) := by
  obtain ⟨fs, f, s, h1, h2, h3, h4⟩ := hf
  refine .of_run fun a W fi i => ?_
  simp [execOp, fi.eval h, Instr.fieldAt, run_underlying h1, h2, Instr.sureAddr, fieldPlace, run_sizeOf h4, addr_add, h3]
theorem V.ex {vs : Array Value} {v : Value} {j : Nat} (h : opnd E x = some (.tuple vs)) (hj : vs.toList[j]? = some v) : V P n w0 ro E M ⟨dst, .extract x j, ty, pos, af, g⟩ v :=
  .of_run fun a W f i => by rw [Array.getElem?_toList] at hj; simp [execOp, f.eval h, Instr.extract, hj]
theorem V.nc {a : Addr} (h : opnd E x = some (.pointer (some a))) : V P n w0 ro E M ⟨dst, .nilCheck x, ty, pos, af, g⟩ (.pointer (some a)) :=
  .of_run fun a W f i => by simp [execOp, f.eval h]
theorem V.len {a : Option Addr} {m c e : Nat} (h : opnd E x = some (.slice a m c)) (ht : P.underlying T = some (.slice e)) :
    V P n w0 ro E M ⟨dst, .call { callee := .builtin .len, args := #[x], argTypes := #[T] }, ty, pos, af, g⟩ (.int .i64 (m : Int)) :=
  .of_run fun a W f i => by simp [execOp, resolve, invoke, builtin, f.eval h, Builtin.len_, goInt, run_underlying ht]
theorem V.lenS {s : ByteArray} (h : opnd E x = some (.string s)) (ht : P.underlying T = some .string) :
    V P n w0 ro E M ⟨dst, .call { callee := .builtin .len, args := #[x], argTypes := #[T] }, ty, pos, af, g⟩ (.int .i64 (s.size : Int)) :=
  .of_run fun a W f i => by simp [execOp, resolve, invoke, builtin, f.eval h, Builtin.len_, goInt, run_underlying ht]

/-- a slice's element's place -/
def Sl (P : Program) (T e : TypeId) (s : Nat) : Prop := P.underlying T = some (.slice e) ∧ (P.info? e).map (·.size) = some s
theorem V.ia {b off m c e s : Nat} {k : IntKind} {j : Int} (hx : opnd E x = some (.slice (some ⟨b, off, none⟩) m c)) (hy : opnd E y = some (.int k j)) (ht : Sl P T e s) (hj : 0 ≤ j ∧ j < m) :
    V P n w0 ro E M ⟨dst, .indexAddr T x y, ty, pos, af, g⟩ (.pointer (some ⟨b, off + j.toNat * s, none⟩)) :=
  .of_run fun a W f i => by
    simp [execOp, f.eval hx, f.eval hy, Instr.indexAt, asIntOf, run_underlying ht.1, hj.1, hj.2, run_sizeOf ht.2, addr_add]
def Ar (P : Program) (T len e : Nat) (s : Nat) : Prop := P.underlying T = some (.array len e) ∧ (P.info? e).map (·.size) = some s
theorem V.iaA {b off len e s : Nat} {k : IntKind} {j : Int} (hx : opnd E x = some (.pointer (some ⟨b, off, none⟩))) (hy : opnd E y = some (.int k j)) (ht : Ar P T len e s) (hj : 0 ≤ j ∧ j < len) :
    V P n w0 ro E M ⟨dst, .indexAddr T x y, ty, pos, af, g⟩ (.pointer (some ⟨b, off + j.toNat * s, none⟩)) :=
  .of_run fun a W f i => by
    simp [execOp, f.eval hx, f.eval hy, Instr.indexAt, Instr.sureAddr, asIntOf, run_underlying ht.1, hj.1, hj.2, run_sizeOf ht.2, addr_add]

theorem callFunc_enter {f : FuncId} {fn : Func} {args : Array Value} (hf : P.funcs[f]? = some fn) (hb : fn.body.isNone = false) (hn : (fn.name == "runtime.NumGoroutine") = false) (W : World) :
    (callFunc f args).run P W = .ok (.enter f args) W := by
  unfold callFunc
  simp only [Sem.run_bind, run_program, Result.andThen_ok, hf, hn, hb, Bool.false_eq_true, if_false, Sem.run_pure]
/-- this function has a Go text -/
def Tx (P : Program) (f : FuncId) : Prop := ∃ fn, P.funcs[f]? = some fn ∧ fn.body.isNone = false ∧ (fn.name == "runtime.NumGoroutine") = false
def opnds (E : Env) : List Operand → Option (List Value)
  | [] => some []
  | x :: l => match opnd E x, opnds E l with
    | some v, some vs => some (v :: vs)
    | _, _ => none
theorem opnds_eval {a : Act} (f : Fits n E a) : ∀ {l : List Operand} {vs : List Value}, opnds E l = some vs → l.map a.eval = vs
  | [], vs, h => by simp [opnds] at h; subst h; rfl
  | x :: l, vs, h => by
    unfold opnds at h
    split at h
    · rename_i v us h1 h2
      simp at h; subst h
      simp [f.eval h1, opnds_eval f h2]
    · cases h
theorem run_call {F : FuncId} {l : List Operand} {vs : List Value} {ts : Array TypeId} {a : Act} {W : World} (f : Fits n E a) (hx : opnds E l = some vs) (hT : Tx P F) :
    (execOp a.eval ⟨dst, .call { callee := .value (.func F), args := l.toArray, argTypes := ts }, ty, pos, af, g⟩).run P W = .ok (.enter F vs.toArray) W := by
  obtain ⟨fn, h1, h2, h3⟩ := hT
  have := opnds_eval f hx
  simp only [execOp, resolve, List.map_toArray, this]
  simp [Deferred.ofValue, Act.eval, invoke, callFunc_enter h1 h2 h3]
theorem JO.call {Q : Exit → Act → World → Prop} {K : Act → World → Prop} {F : FuncId} {l : List Operand} {vs : List Value} {ts : Array TypeId} {d : Nat} {Φ : Value → Res → Prop}
    (hn : Nat.blt d n = true) (hT : Tx P F) (hx : opnds E l = some vs) (h : Fn P F vs.toArray w0 ro M Φ) (k : ∀ v M', Φ v M' → Kp n w0 ro K ((d, v) :: E) M') :
    JO P Q n w0 ro K ⟨some d, .call { callee := .value (.func F), args := l.toArray, argTypes := ts }, ty, pos, af, g⟩ E M := fun a W f i => by
  unfold Oper.wp
  rw [run_call f hx hT, Oper.upon_enter]
  refine (h W i).mono fun e W' ⟨v, M', he, hΦ, hi⟩ => ?_
  subst he
  exact k v M' hΦ _ W' (f.put v hn) hi
theorem JO.callG {Q : Exit → Act → World → Prop} {K : Act → World → Prop} {F : FuncId} {l : List Operand} {vs : List Value} {ts : Array TypeId} {d : Nat} {Φ : Value → Hp → Res → Prop}
    (hn : Nat.blt d n = true) (hT : Tx P F) (hx : opnds E l = some vs) (h : Fg P F vs.toArray w0 ro M Φ) (k : ∀ v ro' M', Hp.le ro ro' → Φ v ro' M' → Kp n w0 ro' K ((d, v) :: E) M') :
    JO P Q n w0 ro K ⟨some d, .call { callee := .value (.func F), args := l.toArray, argTypes := ts }, ty, pos, af, g⟩ E M := fun a W f i => by
  unfold Oper.wp
  rw [run_call f hx hT, Oper.upon_enter]
  refine (h W i).mono fun e W' ⟨v, ro', M', he, hl, hΦ, hi⟩ => ?_
  subst he
  exact k v ro' M' hl hΦ _ W' (f.put v hn) hi
theorem JO.callP {Q : Exit → Act → World → Prop} {K : Act → World → Prop} {F : FuncId} {l : List Operand} {vs : List Value} {ts : Array TypeId} {d : Nat} {v : Value}
    (hn : Nat.blt d n = true) (hT : Tx P F) (hx : opnds E l = some vs) (h : Pu P F vs.toArray w0 ro M v) (k : Kp n w0 ro K ((d, v) :: E) M) :
    JO P Q n w0 ro K ⟨some d, .call { callee := .value (.func F), args := l.toArray, argTypes := ts }, ty, pos, af, g⟩ E M :=
  JO.call hn hT hx h.fn fun _ _ ⟨a, b⟩ => by subst a; subst b; exact k
section
variable {Q : Exit → Act → World → Prop} {ops : Array Oper} {rest : List Oper} {F : FuncId} {l : List Operand} {vs : List Value} {ts : Array TypeId} {d : Nat}
theorem J.call {Φ : Value → Res → Prop} (hn : Nat.blt d n = true) (hT : Tx P F) (hx : opnds E l = some vs) (h : Fn P F vs.toArray w0 ro M Φ)
    (k : ∀ v M', Φ v M' → J P Q n w0 ro ops rest ((d, v) :: E) M') :
    J P Q n w0 ro ops (⟨some d, .call { callee := .value (.func F), args := l.toArray, argTypes := ts }, ty, pos, af, none⟩ :: rest) E M := J.one rfl (JO.call hn hT hx h k)
theorem J.callG {Φ : Value → Hp → Res → Prop} (hn : Nat.blt d n = true) (hT : Tx P F) (hx : opnds E l = some vs) (h : Fg P F vs.toArray w0 ro M Φ)
    (k : ∀ v ro' M', Hp.le ro ro' → Φ v ro' M' → J P Q n w0 ro' ops rest ((d, v) :: E) M') :
    J P Q n w0 ro ops (⟨some d, .call { callee := .value (.func F), args := l.toArray, argTypes := ts }, ty, pos, af, none⟩ :: rest) E M := J.one rfl (JO.callG hn hT hx h k)
theorem J.callP {v : Value} (hn : Nat.blt d n = true) (hT : Tx P F) (hx : opnds E l = some vs) (h : Pu P F vs.toArray w0 ro M v)
    (k : J P Q n w0 ro ops rest ((d, v) :: E) M) :
    J P Q n w0 ro ops (⟨some d, .call { callee := .value (.func F), args := l.toArray, argTypes := ts }, ty, pos, af, none⟩ :: rest) E M := J.one rfl (JO.callP hn hT hx h k)
end
end
end Go.Sx
namespace Go.Sx
open Go

/- leaves -/
abbrev Lv := List (Nat × Value)
def flat : Lv → List Value
  | [] => []
  | p :: l => p.2.cells.toList ++ flat l
def lsz : Lv → Nat
  | [] => 0
  | p :: l => p.1 + lsz l
def ag (vs : Lv) : Value := .agg (flat vs).toArray
def Ones (l : List Value) : Prop := ∀ v ∈ l, v.oneCell' = true
def Wl (vs : Lv) : Prop := ∀ p ∈ vs, p.2.cells.size = p.1 ∧ Ones p.2.cells.toList

theorem flat_append (a b : Lv) : flat (a ++ b) = flat a ++ flat b := by
  induction a with
  | nil => rfl
  | cons p a ih => simp [flat, ih]
theorem lsz_append (a b : Lv) : lsz (a ++ b) = lsz a + lsz b := by
  induction a with
  | nil => simp [lsz]
  | cons p a ih => simp [lsz, ih]; omega
theorem Wl.flat_length {vs : Lv} (h : Wl vs) : (flat vs).length = lsz vs := by
  induction vs with
  | nil => rfl
  | cons p l ih =>
    have h1 := (h p (by simp)).1
    simp only [flat, lsz, List.length_append, Array.length_toList, h1]
    rw [ih fun q hq => h q (by simp [hq])]
theorem Wl.ones {vs : Lv} (h : Wl vs) : Ones (flat vs) := by
  induction vs with
  | nil => intro v hv; simp [flat] at hv
  | cons p l ih =>
    intro v hv
    simp only [flat, List.mem_append] at hv
    rcases hv with hv | hv
    · exact (h p (by simp)).2 v hv
    · exact ih (fun q hq => h q (by simp [hq])) v hv
theorem Wl.sub {vs us : Lv} (h : Wl vs) (hs : ∀ p ∈ us, p ∈ vs) : Wl us := fun p hp => h p (hs p hp)
theorem Wl.nil : Wl [] := fun _ h => by cases h
theorem Wl.cons {s : Nat} {v : Value} {l : Lv} (h : v.cells.size = s) (k : Ones v.cells.toList) (r : Wl l) : Wl ((s, v) :: l) := by
  intro p hp
  rcases List.mem_cons.1 hp with rfl | hp
  · exact ⟨h, k⟩
  · exact r p hp
/-- a leaf of one cell -/
theorem Wl.one {v : Value} {l : Lv} (h : v.cells = #[v]) (k : v.oneCell' = true) (r : Wl l) : Wl ((1, v) :: l) :=
  Wl.cons (by rw [h]; rfl) (by rw [h]; intro u hu; simp at hu; subst hu; exact k) r
theorem split_at {vs : Lv} {i : Nat} {p : Nat × Value} (h : vs[i]? = some p) : vs = vs.take i ++ p :: vs.drop (i + 1) := by
  have hlt := (List.getElem?_eq_some_iff.1 h).1
  have he := (List.getElem?_eq_some_iff.1 h).2
  conv => lhs; rw [← List.take_append_drop i vs, List.drop_eq_getElem_cons hlt, he]

/-- a leaf fits -/
class Cz (v : Value) (s : outParam Nat) : Prop where
  sz : v.cells.size = s
  ones : Ones v.cells.toList
class Wc (vs : Lv) : Prop where
  wl : Wl vs
instance : Wc [] := ⟨Wl.nil⟩
instance {s : Nat} {v : Value} {l : Lv} [c : Cz v s] [w : Wc l] : Wc ((s, v) :: l) := ⟨Wl.cons c.sz c.ones w.wl⟩
theorem Cz.one {v : Value} (h : v.cells = #[v]) (k : v.oneCell' = true) : Cz v 1 := ⟨by rw [h]; rfl, by rw [h]; intro u hu; simp at hu; subst hu; exact k⟩
instance {k : IntKind} {i : Int} : Cz (.int k i) 1 := .one rfl rfl
instance {b : Bool} : Cz (.bool b) 1 := .one rfl rfl
instance {k : FloatKind} {b : Nat} : Cz (.float k b) 1 := .one rfl rfl
instance {s : ByteArray} : Cz (.string s) 1 := .one rfl rfl
instance {a : Option Addr} : Cz (.pointer a) 1 := .one rfl rfl
instance {a : Option Addr} {m c : Nat} : Cz (.slice a m c) 1 := .one rfl rfl
instance {r : Option Nat} : Cz (.map r) 1 := .one rfl rfl
theorem agw {vs : Lv} [w : Wc vs] : (ag vs).cells.size = lsz vs ∧ Ones (ag vs).cells.toList := by
  have h1 : (ag vs).cells.toList = flat vs := rfl
  refine ⟨?_, by rw [h1]; exact w.wl.ones⟩
  rw [← Array.length_toList, h1, w.wl.flat_length]

/-- a box of leaves -/
def St (b : Nat) (vs : Lv) (T : TypeId) : HP := fun h => h b = some (.cells (flat vs).toArray T (0, 0)) ∧ Wl vs

/-- a type of several cells, of one cell -/
def Ag (P : Program) (T s : Nat) : Prop := (∃ d, P.underlying T = some d ∧ (match d with | .struct _ | .array _ _ => true | _ => false) = true) ∧ (P.info? T).map (·.size) = some s
def Sc (P : Program) (T : Nat) : Prop := (∃ d, P.underlying T = some d ∧ (match d with | .struct _ | .array _ _ => true | _ => false) = false) ∧ (P.info? T).map (·.size) = some 1

section
variable {P : Program}
theorem run_loadVar_agg {T s b off : Nat} {cs : Array Value} {t : TypeId} {fr : Nat × Nat} {W : World} (hT : Ag P T s) (hb : W.heap[b]? = some (.cells cs t fr)) (x : List Value)
    (hx : ∀ j v, x[j]? = some v → cs[off + j]? = some v) (hl : x.length = s) : (loadVar T ⟨b, off, none⟩).run P W = .ok (.agg x.toArray) W := by
  obtain ⟨⟨d, hd, hd2⟩, hs⟩ := hT
  have hagg : (isAgg T).run P W = .ok true W := by
    unfold isAgg
    rw [Sem.run_bind, run_underlying hd W]
    cases d <;> simp_all
  have hload : (loadCells ⟨b, off, none⟩ s).run P W = .ok x.toArray W := by
    rw [← hl]
    refine run_loadCells_list (P := P) W ⟨b, off, none⟩ x fun j v hv => ?_
    rw [addr_add, cell_of_row W b _ cs t fr hb]
    exact hx j v hv
  simp [loadVar, Sem.run_bind, hagg, run_sizeOf hs, hload]
theorem run_loadVar_sc {T b off : Nat} {cs : Array Value} {t : TypeId} {fr : Nat × Nat} {W : World} {v : Value} (hT : Sc P T) (hb : W.heap[b]? = some (.cells cs t fr))
    (hx : cs[off]? = some v) : (loadVar T ⟨b, off, none⟩).run P W = .ok v W := by
  obtain ⟨⟨d, hd, hd2⟩, hs⟩ := hT
  have hagg : (isAgg T).run P W = .ok false W := by
    unfold isAgg
    rw [Sem.run_bind, run_underlying hd W]
    cases d <;> simp_all
  have hc : W.cell? ⟨b, off, none⟩ = some v := by rw [cell_of_row W b _ cs t fr hb]; exact hx
  have hl : (load ⟨b, off, none⟩).run P W = .ok v W := by simp [load, Sem.run, hc]
  simp only [loadVar, Sem.run_bind, hagg, Result.andThen_ok, Bool.false_eq_true, if_false, hl]

theorem size_of_info {T s : Nat} (h : (P.info? T).map (·.size) = some s) (W : World) : (sizeOf T).run P W = .ok s W := run_sizeOf h W
theorem run_storeVar {T s b off : Nat} {cur : Array Value} {t : TypeId} {W : World} {v : Value} (hs : (P.info? T).map (·.size) = some s) (hb : W.heap[b]? = some (.cells cur t (0, 0)))
    (hv : v.cells.size = s) (h1 : Ones v.cells.toList) (hf : off + s ≤ cur.size) :
    (storeVar T ⟨b, off, none⟩ v).run P W = .ok () (W.setRow b (cur.toList.take off ++ v.cells.toList ++ cur.toList.drop (off + s)).toArray) := by
  have := run_storeCells_at P b off t v.cells.toList 0 cur W hb (by simp [hv]; omega) h1
  simp only [Nat.add_zero, Array.length_toList, hv] at this
  simp [storeVar, Sem.run_bind, size_of_info hs, hv, this]
end

theorem flat_get {vs : Lv} {i off s : Nat} {v : Value} (w : Wl vs) (hi : vs[i]? = some (s, v)) (ho : lsz (vs.take i) = off) (j : Nat) (u : Value) (hj : v.cells.toList[j]? = some u) :
    (flat vs)[off + j]? = some u := by
  have e := split_at hi
  have hw := (w.sub (us := vs.take i) fun p hp => List.mem_of_mem_take hp).flat_length
  rw [e, flat_append, flat, List.getElem?_append_right (by omega), hw, ho, Nat.add_sub_cancel_left]
  rw [List.getElem?_append_left (by have := (List.getElem?_eq_some_iff.1 hj).1; exact this)]
  exact hj
theorem flat_set {vs : Lv} {i off s : Nat} {v u : Value} (w : Wl vs) (hi : vs[i]? = some (s, v)) (ho : lsz (vs.take i) = off) (hu : u.cells.size = s) :
    (flat vs).take off ++ u.cells.toList ++ (flat vs).drop (off + s) = flat (vs.set i (s, u)) := by
  have e := split_at hi
  have hw := (w.sub (us := vs.take i) fun p hp => List.mem_of_mem_take hp).flat_length
  have hlt := (List.getElem?_eq_some_iff.1 hi).1
  have e2 : vs.set i (s, u) = vs.take i ++ (s, u) :: vs.drop (i + 1) := by
    rw [List.set_eq_take_append_cons_drop, if_pos hlt]
  have hv : v.cells.size = s := (w (s, v) (by rw [e]; simp)).1
  rw [e2]
  conv => lhs; rw [e]
  simp only [flat_append, flat]
  have hl : (flat (vs.take i)).length = off := by rw [hw, ho]
  rw [List.take_left' hl]
  have : ((flat (vs.take i)) ++ (v.cells.toList ++ flat (vs.drop (i + 1)))) = (flat (vs.take i) ++ v.cells.toList) ++ flat (vs.drop (i + 1)) := by simp
  rw [this, List.drop_left' (by simp [hl, hv])]
  simp
theorem Wl.set {vs : Lv} {i s : Nat} {u : Value} (w : Wl vs) (hu : u.cells.size = s) (h1 : Ones u.cells.toList) : Wl (vs.set i (s, u)) := by
  intro p hp
  rcases List.mem_or_eq_of_mem_set hp with h | rfl
  · exact w p h
  · exact ⟨hu, h1⟩

theorem setRow_hp {W : World} {b : Nat} {cur : Array Value} {t : TypeId} {cs : Array Value} (hb : W.heap[b]? = some (.cells cur t (0, 0))) :
    (W.setRow b cs).heap[b]? = some (.cells cs t (0, 0)) := setRow_heap W b cur cs t (0, 0) hb

section
variable {P : Program} {Q : Exit → Act → World → Prop} {n : Nat} {w0 : World} {ro : Hp} {E : Env} {M R : Res}
variable {dst : Option Tmp} {ty T T' T0 : TypeId} {pos : String} {af : Array Edge} {g : Option (Nat × Bool)} {x y z : Operand} {ops : Array Oper} {rest : List Oper}

theorem Inv.box {l b : Nat} {vs : Lv} {W : World} (i : Inv w0 ro M W) (hp : Sx.pull M l = some (St b vs T, R)) : W.heap[b]? = some (.cells (flat vs).toArray T (0, 0)) ∧ Wl vs :=
  let ⟨_, h2, h3⟩ := (i.pull hp).get; ⟨h2 _ _ h3.1, h3.2⟩

/-- a leaf read: of several cells, of one -/
theorem V.ldA {b off s i : Nat} {vs : Lv} {cs : Array Value} (l : Nat) (hx : opnd E x = some (.pointer (some ⟨b, off, none⟩))) (hp : pull M l = some (St b vs T0, R)) (hT : Ag P T s)
    (hi : vs[i]? = some (s, .agg cs)) (ho : lsz (vs.take i) = off) : V P n w0 ro E M ⟨dst, .load T x, ty, pos, af, g⟩ (.agg cs) :=
  .of_run fun a W f iv => by
    obtain ⟨h1, h2⟩ := iv.box hp
    have hsz : cs.size = s := (h2 _ (List.mem_of_getElem? hi)).1
    have := run_loadVar_agg (off := off) hT h1 cs.toList (fun j v hv => by simpa using flat_get h2 hi ho j v hv) (by simpa using hsz)
    simp [execOp, f.eval hx, Instr.loadAt, Instr.sureAddr]
    simp at this
    simp [this]
theorem V.ldS {b off i : Nat} {vs : Lv} {v : Value} (l : Nat) (hx : opnd E x = some (.pointer (some ⟨b, off, none⟩))) (hp : pull M l = some (St b vs T0, R)) (hT : Sc P T)
    (hi : vs[i]? = some (1, v)) (ho : lsz (vs.take i) = off) (hv : v.cells = #[v]) : V P n w0 ro E M ⟨dst, .load T x, ty, pos, af, g⟩ v :=
  .of_run fun a W f iv => by
    obtain ⟨h1, h2⟩ := iv.box hp
    have := run_loadVar_sc (off := off) hT h1 (v := v) (by simpa using flat_get h2 hi ho 0 v (by rw [hv]; rfl))
    simp [execOp, f.eval hx, Instr.loadAt, Instr.sureAddr, this]
/-- some leaves read, one behind the other -/
theorem V.ldP {b off s i k : Nat} {vs us : Lv} (l : Nat) (hx : opnd E x = some (.pointer (some ⟨b, off, none⟩))) (hp : pull M l = some (St b vs T0, R)) (hT : Ag P T s)
    (hu : (vs.drop i).take k = us) (ho : lsz (vs.take i) = off) (hs : lsz us = s) : V P n w0 ro E M ⟨dst, .load T x, ty, pos, af, g⟩ (ag us) :=
  .of_run fun a W f iv => by
    obtain ⟨h1, h2⟩ := iv.box hp
    have e : vs = vs.take i ++ (us ++ (vs.drop i).drop k) := by rw [← hu, List.take_append_drop, List.take_append_drop]
    have hw := (h2.sub (us := vs.take i) fun p hp => List.mem_of_mem_take hp).flat_length
    have hus : Wl us := h2.sub fun p hp => by rw [e]; simp [hp]
    have := run_loadVar_agg (off := off) hT h1 (flat us) (fun j v hv => by
      simp only [List.getElem?_toArray]
      have hj := (List.getElem?_eq_some_iff.1 hv).1
      rw [e, flat_append, List.getElem?_append_right (by omega), hw, ho, Nat.add_sub_cancel_left, flat_append, List.getElem?_append_left hj]
      exact hv) (by rw [hus.flat_length, hs])
    simp [execOp, f.eval hx, Instr.loadAt, Instr.sureAddr, this, ag]

/-- a whole box read -/
theorem V.ldW {b s : Nat} {vs : Lv} (l : Nat) (hx : opnd E x = some (.pointer (some ⟨b, 0, none⟩))) (hp : pull M l = some (St b vs T0, R)) (hT : Ag P T s) (hs : lsz vs = s) :
    V P n w0 ro E M ⟨dst, .load T x, ty, pos, af, g⟩ (ag vs) :=
  V.ldP (i := 0) (k := vs.length) (us := vs) l hx hp hT (by simp) rfl hs
/-- a leaf written -/
theorem JO.st {K : Act → World → Prop} {b off s i l : Nat} {vs : Lv} {u v : Value} (hx : opnd E x = some (.pointer (some ⟨b, off, none⟩))) (hy : opnd E y = some u)
    (hp : pull M l = some (St b vs T0, R)) (hT : (P.info? T).map (·.size) = some s) (hi : vs[i]? = some (s, v)) (ho : lsz (vs.take i) = off) [hc : Cz u s]
    (h : Kp n w0 ro K E ((l, St b (vs.set i (s, u)) T0) :: R)) :
    JO P Q n w0 ro K ⟨none, .store T x y, ty, pos, af, g⟩ E M := fun a W f iv => by
    have hu := hc.sz
    have h1 := hc.ones
    obtain ⟨h2, h3⟩ := iv.box hp
    have hlen : (flat vs).length = lsz vs := h3.flat_length
    have e := split_at hi
    have hfit : off + s ≤ (flat vs).toArray.size := by
      simp only [List.size_toArray, hlen]; rw [e, lsz_append, lsz, ho]; simp
    have hst := run_storeVar hT h2 hu h1 hfit
    simp only [] at hst
    rw [flat_set h3 hi ho hu] at hst
    unfold Oper.wp
    simp only [execOp, f.eval hx, f.eval hy, Instr.storeAt, Instr.sureAddr, Sem.run_bind, Sem.run_pure, Result.andThen_ok, hst, Oper.upon_skip]
    refine h _ _ (f.put_none _) ?_
    refine (iv.pull hp).turn rfl rfl rfl fun k hk hA => ⟨fun j => if j = b then some (.cells (flat (vs.set i (s, u))).toArray T0 (0, 0)) else none, ⟨by simp, h3.set hu h1⟩, ?_, ?_, ?_⟩
    · intro j o hj
      by_cases hjb : j = b
      · subst hjb; simp at hj; subst hj; exact setRow_hp h2
      · simp [hjb] at hj
    · intro j o hj
      by_cases hjb : j = b
      · subst hjb; left; rw [hA.1]; simp
      · simp [hjb] at hj
    · intro j o hj hn
      have : j ≠ b := by intro e; subst e; rw [hA.1] at hn; cases hn
      show (W.setRow b _).heap[j]? = _
      rw [setRow_other W b j _ this]; exact hj
/-- some leaves written, one behind the other -/
theorem flat_splice {vs us : Lv} {i k off s : Nat} (w : Wl vs) (ho : lsz (vs.take i) = off) (hk : lsz ((vs.drop i).take k) = s) :
    (flat vs).take off ++ flat us ++ (flat vs).drop (off + s) = flat (vs.take i ++ us ++ vs.drop (i + k)) := by
  have e : vs = vs.take i ++ ((vs.drop i).take k ++ vs.drop (i + k)) := by
    rw [← List.drop_drop, List.take_append_drop, List.take_append_drop]
  have w1 : Wl (vs.take i) := w.sub fun p hp => List.mem_of_mem_take hp
  have w2 : Wl ((vs.drop i).take k) := w.sub fun p hp => List.mem_of_mem_drop (List.mem_of_mem_take hp)
  have l1 : (flat (vs.take i)).length = off := w1.flat_length.trans ho
  have l2 : (flat ((vs.drop i).take k)).length = s := w2.flat_length.trans hk
  have e1 : flat vs = flat (vs.take i) ++ (flat ((vs.drop i).take k) ++ flat (vs.drop (i + k))) := by
    conv => lhs; rw [e]
    rw [flat_append, flat_append]
  rw [e1, flat_append, flat_append, List.take_left' l1]
  congr 1
  rw [← List.append_assoc, List.drop_left' (by rw [List.length_append, l1, l2])]
theorem JO.stP {K : Act → World → Prop} {b off s i k l : Nat} {vs us : Lv} (hx : opnd E x = some (.pointer (some ⟨b, off, none⟩))) (hy : opnd E y = some (ag us))
    (hp : pull M l = some (St b vs T0, R)) (hT : (P.info? T).map (·.size) = some s) (ho : lsz (vs.take i) = off) (hk : lsz ((vs.drop i).take k) = s) (hs : lsz us = s) [hc : Wc us]
    (h : Kp n w0 ro K E ((l, St b (vs.take i ++ us ++ vs.drop (i + k)) T0) :: R)) :
    JO P Q n w0 ro K ⟨none, .store T x y, ty, pos, af, g⟩ E M := fun a W f iv => by
    obtain ⟨h2, h3⟩ := iv.box hp
    have h1 := hc.wl
    have hlen : (flat vs).length = lsz vs := h3.flat_length
    have hcu : (ag us).cells.size = s := agw.1.trans hs
    have hfit : off + s ≤ (flat vs).toArray.size := by
      simp only [List.size_toArray, hlen]
      have e : vs = vs.take i ++ ((vs.drop i).take k ++ vs.drop (i + k)) := by
        rw [← List.drop_drop, List.take_append_drop, List.take_append_drop]
      rw [e, lsz_append, lsz_append, ho, hk]; omega
    have hst := run_storeVar hT h2 hcu agw.2 hfit
    have e2 : (ag us).cells.toList = flat us := rfl
    rw [e2] at hst
    simp only [] at hst
    rw [flat_splice h3 ho hk] at hst
    unfold Oper.wp
    simp only [execOp, f.eval hx, f.eval hy, Instr.storeAt, Instr.sureAddr, Sem.run_bind, Sem.run_pure, Result.andThen_ok, hst, Oper.upon_skip]
    refine h _ _ (f.put_none _) ?_
    have hwl : Wl (vs.take i ++ us ++ vs.drop (i + k)) := by
      intro p hp
      simp only [List.mem_append] at hp
      rcases hp with (hp | hp) | hp
      · exact h3 p (List.mem_of_mem_take hp)
      · exact h1 p hp
      · exact h3 p (List.mem_of_mem_drop hp)
    refine (iv.pull hp).turn rfl rfl rfl fun kk hk hA => ⟨fun j => if j = b then some (.cells (flat (vs.take i ++ us ++ vs.drop (i + k))).toArray T0 (0, 0)) else none, ⟨if_pos rfl, hwl⟩, ?_, ?_, ?_⟩
    · intro j o hj
      by_cases hjb : j = b
      · subst hjb; dsimp only at hj; rw [if_pos rfl] at hj; cases hj; exact setRow_hp h2
      · dsimp only at hj; rw [if_neg hjb] at hj; cases hj
    · intro j o hj
      by_cases hjb : j = b
      · subst hjb; left; rw [hA.1]; simp
      · dsimp only at hj; rw [if_neg hjb] at hj; cases hj
    · intro j o hj hn
      have : j ≠ b := by intro e; subst e; rw [hA.1] at hn; cases hn
      show (W.setRow b _).heap[j]? = _
      rw [setRow_other W b j _ this]; exact hj
/-- a whole box written -/
theorem JO.stW {K : Act → World → Prop} {b s l : Nat} {vs us : Lv} {u : Value} (hx : opnd E x = some (.pointer (some ⟨b, 0, none⟩))) (hy : opnd E y = some u) (hu : u.cells.toList = flat us)
    (hp : pull M l = some (St b vs T0, R)) (hT : (P.info? T).map (·.size) = some s) (hv : lsz vs = s) (hs : lsz us = s) [hc : Wc us]
    (h : Kp n w0 ro K E ((l, St b us T0) :: R)) :
    JO P Q n w0 ro K ⟨none, .store T x y, ty, pos, af, g⟩ E M := fun a W f iv => by
    have h1 := hc.wl
    obtain ⟨h2, h3⟩ := iv.box hp
    have hlen : (flat vs).length = s := h3.flat_length.trans hv
    have hcu : u.cells.size = s := by rw [← Array.length_toList, hu, h1.flat_length, hs]
    have hst := run_storeVar (off := 0) hT h2 hcu (by rw [hu]; exact h1.ones) (by simp [hlen])
    have e0 : (flat vs).toArray.toList.drop (0 + s) = [] := by simp [← hlen]
    rw [e0, hu] at hst
    simp only [List.take_zero, List.nil_append, List.append_nil] at hst
    unfold Oper.wp
    simp only [execOp, f.eval hx, f.eval hy, Instr.storeAt, Instr.sureAddr, Sem.run_bind, Sem.run_pure, Result.andThen_ok, hst, Oper.upon_skip]
    refine h _ _ (f.put_none _) ?_
    refine (iv.pull hp).turn rfl rfl rfl fun k hk hA => ⟨fun j => if j = b then some (.cells (flat us).toArray T0 (0, 0)) else none, ⟨by simp, h1⟩, ?_, ?_, ?_⟩
    · intro j o hj
      by_cases hjb : j = b
      · subst hjb; simp at hj; subst hj; exact setRow_hp h2
      · simp [hjb] at hj
    · intro j o hj
      by_cases hjb : j = b
      · subst hjb; left; rw [hA.1]; simp
      · simp [hjb] at hj
    · intro j o hj hn
      have : j ≠ b := by intro e; subst e; rw [hA.1] at hn; cases hn
      show (W.setRow b _).heap[j]? = _
      rw [setRow_other W b j _ this]; exact hj

/-- the zero value of a type, by leaves -/
def Zr (P : Program) (T : Nat) (vs : Lv) : Prop := ((P.info? T).bind (·.zero)).map (·.cells.toList) = some (flat vs)
theorem Zr.ex {P : Program} {T : Nat} {vs : Lv} (h : Zr P T vs) : ∃ zv, (P.info? T).bind (·.zero) = some zv ∧ zv.cells.toList = flat vs := Option.map_eq_some_iff.1 h
/-- a new box -/
theorem JO.box {K : Act → World → Prop} {d l : Nat} {vs : Lv} {v : Value} (hn : Nat.blt d n = true) (hx : opnd E x = some v) (hv : v.cells.toList = flat vs) [hc : Wc vs]
    (h : ∀ b, Kp n w0 ro K ((d, .pointer (some ⟨b, 0, none⟩)) :: E) ((l, St b vs T) :: M)) :
    JO P Q n w0 ro K ⟨some d, .box T x, ty, pos, af, g⟩ E M := fun a W f iv => by
    have hw := hc.wl
    have hr : (execOp a.eval ⟨some d, .box T x, ty, pos, af, g⟩).run P W = .ok (.value (.pointer (some ⟨W.heap.size, 0, none⟩))) (W.alloc (.cells v.cells T)) := by
      simp [execOp, f.eval hx, Instr.box, newVar, newRow]
    unfold Oper.wp
    rw [hr, Oper.upon_value]
    refine h W.heap.size _ _ (f.put _ hn) (iv.new l _ ⟨by simp [← hv], hw⟩)
theorem JO.alloc {K : Act → World → Prop} {d l : Nat} {vs : Lv} (hn : Nat.blt d n = true) (hzr : Zr P T vs) [hc : Wc vs]
    (h : ∀ b, Kp n w0 ro K ((d, .pointer (some ⟨b, 0, none⟩)) :: E) ((l, St b vs T) :: M)) :
    JO P Q n w0 ro K ⟨some d, .alloc T, ty, pos, af, g⟩ E M := fun a W f iv => by
    have hw := hc.wl
    obtain ⟨zv, hz, hv⟩ := hzr.ex
    have hzz : (zeroValue T).run P W = .ok zv W := by
      cases hq : P.info? T with
      | none => simp [hq] at hz
      | some i => simp [hq] at hz; simp [zeroValue, typeInfo, hq, hz]
    have hr : (execOp a.eval ⟨some d, .alloc T, ty, pos, af, g⟩).run P W = .ok (.value (.pointer (some ⟨W.heap.size, 0, none⟩))) (W.alloc (.cells zv.cells T)) := by
      simp [execOp, Instr.alloc, hzz, newVar, newRow]
    unfold Oper.wp
    rw [hr, Oper.upon_value]
    refine h W.heap.size _ _ (f.put _ hn) (iv.new l _ ⟨by simp [← hv], hw⟩)
theorem JO.boxS {K : Act → World → Prop} {d l : Nat} {vs : Lv} (hn : Nat.blt d n = true) (hx : opnd E x = some (ag vs)) [Wc vs]
    (h : ∀ b, Kp n w0 ro K ((d, .pointer (some ⟨b, 0, none⟩)) :: E) ((l, St b vs T) :: M)) :
    JO P Q n w0 ro K ⟨some d, .box T x, ty, pos, af, g⟩ E M := JO.box hn hx rfl h
theorem JO.box1 {K : Act → World → Prop} {d l s : Nat} {v : Value} (hn : Nat.blt d n = true) (hx : opnd E x = some v) [Cz v s]
    (h : ∀ b, Kp n w0 ro K ((d, .pointer (some ⟨b, 0, none⟩)) :: E) ((l, St b [(s, v)] T) :: M)) :
    JO P Q n w0 ro K ⟨some d, .box T x, ty, pos, af, g⟩ E M := JO.box hn hx (by simp [flat]) h
theorem JO.stS {K : Act → World → Prop} {b s l : Nat} {vs us : Lv} (hx : opnd E x = some (.pointer (some ⟨b, 0, none⟩))) (hy : opnd E y = some (ag us))
    (hp : pull M l = some (St b vs T0, R)) (hT : (P.info? T).map (·.size) = some s) (hv : lsz vs = s) (hs : lsz us = s) [Wc us]
    (h : Kp n w0 ro K E ((l, St b us T0) :: R)) :
    JO P Q n w0 ro K ⟨none, .store T x y, ty, pos, af, g⟩ E M := JO.stW hx hy rfl hp hT hv hs h
/-- a result that stands in a box -/
theorem RV.cA {t b s l : Nat} {vs : Lv} {cs : Array Value} (hx : find E t = some (.pointer (some ⟨b, 0, none⟩))) (hp : pull M l = some (St b vs T0, R)) (hT : Ag P T s)
    (hi : vs[0]? = some (s, .agg cs)) : RV P w0 ro E M (.cell t T) (.agg cs) :=
  ⟨_, hx, fun W i => by
    obtain ⟨h1, h2⟩ := i.box hp
    have hsz : cs.size = s := (h2 _ (List.mem_of_getElem? hi)).1
    have := run_loadVar_agg (off := 0) hT h1 cs.toList (fun j v hv => by simpa [lsz] using flat_get h2 hi (off := 0) rfl j v hv) (by simpa using hsz)
    simpa using this⟩
theorem RV.cS {t b s l : Nat} {vs : Lv} (hx : find E t = some (.pointer (some ⟨b, 0, none⟩))) (hp : pull M l = some (St b vs T0, R)) (hT : Ag P T s)
    (hs : lsz vs = s) : RV P w0 ro E M (.cell t T) (ag vs) :=
  ⟨_, hx, fun W i => by
    obtain ⟨h1, h2⟩ := i.box hp
    exact run_loadVar_agg (off := 0) hT h1 (flat vs) (fun j v hv => by simpa using hv) (by rw [h2.flat_length, hs])⟩
end
end Go.Sx
namespace Go.Sx
open Go

def slB : Value → Nat
  | .slice (some a) _ _ => a.block
  | _ => 0
def slO : Value → Nat
  | .slice (some a) _ _ => a.off
  | _ => 0
/-- the place of element j -/
def elA (v : Value) (j sz : Nat) : Addr := ⟨slB v, slO v + j * sz, none⟩

/-- a slice that reads, in memory that stays, as these rows of cells -/
structure RS (ro : Hp) (v : Value) (sz : Nat) (xs : List (List Value)) : Prop where
  shape : ∃ a c, v = .slice a xs.length c ∧ xs.length ≤ c
  each : ∀ x ∈ xs, x.length = sz ∧ Ones x
  mem : xs ≠ [] → ∃ c cs T fr, v = .slice (some ⟨slB v, slO v, none⟩) xs.length c ∧ ro (slB v) = some (.cells cs T fr) ∧
    ∀ i x, xs[i]? = some x → ∀ j u, x[j]? = some u → cs[slO v + i * sz + j]? = some u

theorem RS.mono {ro ro' : Hp} {v : Value} {sz : Nat} {xs : List (List Value)} (h : RS ro v sz xs) (l : Hp.le ro ro') : RS ro' v sz xs :=
  ⟨h.shape, h.each, fun hx => let ⟨c, cs, T, fr, a, b, d⟩ := h.mem hx; ⟨c, cs, T, fr, a, l _ _ b, d⟩⟩

/-- an owned slice: its own block, the spare cells too -/
def Ow (v : Value) (e sz : Nat) (xs : List (List Value)) : HP := fun h =>
  (∀ x ∈ xs, x.length = sz ∧ Ones x) ∧ ((v = .slice none 0 0 ∧ xs = []) ∨
    ∃ g cap cur, v = .slice (some ⟨g, 0, none⟩) xs.length cap ∧ h g = some (.cells cur e (0, 0)) ∧ xs.length ≤ cap ∧ cap ≤ maxLen ∧ cur.size = cap * sz ∧ cur.toList.take (xs.length * sz) = xs.flatten)

theorem length_flatten_of {sz : Nat} : ∀ {xs : List (List Value)}, (∀ x ∈ xs, x.length = sz) → xs.flatten.length = xs.length * sz
  | [], _ => by simp
  | x :: xs, h => by
    rw [List.flatten_cons, List.length_append, h x (by simp), length_flatten_of fun y hy => h y (by simp [hy]), List.length_cons, Nat.add_mul]; omega
theorem flatten_get {sz : Nat} : ∀ {xs : List (List Value)} {i j : Nat} {x : List Value} {u : Value}, (∀ x ∈ xs, x.length = sz) → xs[i]? = some x → x[j]? = some u → xs.flatten[i * sz + j]? = some u
  | [], i, j, x, u, _, h, _ => by simp at h
  | y :: xs, 0, j, x, u, hl, h, k => by
    simp at h; subst h
    rw [List.flatten_cons, List.getElem?_append_left (by have := (List.getElem?_eq_some_iff.1 k).1; omega)]; simpa using k
  | y :: xs, i + 1, j, x, u, hl, h, k => by
    have hy := hl y (by simp)
    rw [List.flatten_cons, List.getElem?_append_right (by rw [hy, Nat.add_mul]; omega), hy]
    have : (i + 1) * sz + j - sz = i * sz + j := by rw [Nat.add_mul]; omega
    rw [this]
    exact flatten_get (fun z hz => hl z (by simp [hz])) (by simpa using h) k
theorem ones_flatten {xs : List (List Value)} (h : ∀ x ∈ xs, Ones x) : Ones xs.flatten := by
  intro v hv
  obtain ⟨x, hx, hv⟩ := List.mem_flatten.1 hv
  exact h x hx v hv

theorem Ow.nil {e sz : Nat} {h : Hp} : Ow (.slice none 0 0) e sz [] h := ⟨fun _ h => (by cases h), .inl ⟨rfl, rfl⟩⟩
theorem Ow.rs {v : Value} {e sz : Nat} {xs : List (List Value)} {h ro : Hp} (o : Ow v e sz xs h) (l : Hp.le h ro) : RS ro v sz xs := by
  obtain ⟨h1, h2⟩ := o
  rcases h2 with ⟨rfl, rfl⟩ | ⟨g, cap, cur, rfl, hg, hc, hm, hs, ht⟩
  · exact ⟨⟨none, 0, rfl, Nat.le_refl _⟩, h1, fun h => absurd rfl h⟩
  · refine ⟨⟨_, _, rfl, hc⟩, h1, fun _ => ⟨cap, cur, e, (0, 0), rfl, l _ _ hg, fun i x hx j u hu => ?_⟩⟩
    have hf := flatten_get (fun x hx => (h1 x hx).1) hx hu
    rw [← ht, List.getElem?_take] at hf
    split at hf
    · simp only [slO, Nat.zero_add]; simpa using hf
    · cases hf

/-- a source of an append, in this world -/
def Src (W : World) (u : Value) (sz : Nat) (ys : List (List Value)) : Prop :=
  (∃ a c, u = .slice a ys.length c ∧ (ys ≠ [] → ∃ ad, a = some ad ∧ ∀ j x, ys.flatten[j]? = some x → W.cell? (ad.add j) = some x)) ∧ ∀ y ∈ ys, y.length = sz ∧ Ones y

theorem flatten_inv {sz : Nat} : ∀ {xs : List (List Value)} {j : Nat} {u : Value}, (∀ x ∈ xs, x.length = sz) → xs.flatten[j]? = some u →
    ∃ i x k, xs[i]? = some x ∧ x[k]? = some u ∧ j = i * sz + k
  | [], j, u, _, h => by simp at h
  | y :: xs, j, u, hl, h => by
    have hy := hl y (by simp)
    rw [List.flatten_cons] at h
    by_cases hj : j < y.length
    · rw [List.getElem?_append_left hj] at h
      exact ⟨0, y, j, rfl, h, by omega⟩
    · rw [List.getElem?_append_right (by omega), hy] at h
      obtain ⟨i, x, k, a, b, c⟩ := flatten_inv (fun z hz => hl z (by simp [hz])) h
      exact ⟨i + 1, x, k, by simpa using a, b, by rw [Nat.add_mul]; omega⟩
theorem RS.src {ro : Hp} {v : Value} {sz : Nat} {xs : List (List Value)} {W : World} (h : RS ro v sz xs) (l : Hp.le ro (hp W)) : Src W v sz xs := by
  refine ⟨?_, h.each⟩
  by_cases hx : xs = []
  · obtain ⟨a, c, hv, _⟩ := h.shape
    exact ⟨a, c, hv, fun h => absurd hx h⟩
  · obtain ⟨c, cs, T, fr, hv, hr, hm⟩ := h.mem hx
    refine ⟨_, c, hv, fun _ => ⟨_, rfl, fun j u hj => ?_⟩⟩
    obtain ⟨i, x, k, a, b, rfl⟩ := flatten_inv (fun x hx => (h.each x hx).1) hj
    have hb : W.heap[slB v]? = some (.cells cs T fr) := l _ _ hr
    rw [addr_add, cell_of_row W _ _ cs T fr hb, ← Nat.add_assoc]
    exact hm i x a k u b

section
variable {P : Program}
/-- the element's type of a slice that grows -/
structure El (P : Program) (T e sz bytes : Nat) : Prop where
  ut : P.underlying T = some (.slice e)
  inf : ∃ i z, P.info? e = some i ∧ i.zero = some z ∧ i.size = sz ∧ i.bytes = bytes ∧ z.cells.size = sz
  pos : 0 < sz
theorem El.of {T e sz bytes : Nat} (h1 : P.underlying T = some (.slice e)) (h2 : ((P.info? e).bind fun i => i.zero.map fun z => (i.size, i.bytes, z.cells.size)) = some (sz, bytes, sz)) (h3 : 0 < sz) : El P T e sz bytes := by
  obtain ⟨i, hi, h⟩ := Option.bind_eq_some_iff.1 h2
  obtain ⟨z, hz, h⟩ := Option.map_eq_some_iff.1 h
  simp only [Prod.mk.injEq] at h
  exact ⟨h1, ⟨i, z, hi, hz, h.1, h.2.1, h.2.2⟩, h3⟩

/-- the block of an owned slice: turned in place, or new -/
theorem run_append_ow {T ty e sz bytes : Nat} (hT : El P T e sz bytes) {v u : Value} {xs ys : List (List Value)} {W : World} {h : Hp} (ho : Ow v e sz xs h) (hl : Hp.le h (hp W))
    (hs : Src W u sz ys) (hb : (xs.length + ys.length) * bytes ≤ 140737488355328) (hm : xs.length + ys.length ≤ maxLen) :
    ∃ v' W', (Builtin.append_ #[T, T] ty #[v, u]).run P W = .ok v' W' ∧ W'.os = W.os ∧ W'.tape = W.tape ∧ W'.output = W.output ∧
      ∃ h', Ow v' e sz (xs ++ ys) h' ∧ Hp.le h' (hp W') ∧ (∀ i o, h' i = some o → h i ≠ none ∨ hp W i = none) ∧ ∀ i o, hp W i = some o → h i = none → hp W' i = some o := by
  obtain ⟨i, z, hi, hz, hsize, hbytes, hzs⟩ := hT.inf
  subst hsize
  subst hbytes
  have ht := hT.ut
  have hsmall : xs.length + ys.length ≤ 9223372036854775807 := by have := hm; simp only [maxLen] at this; omega
  obtain ⟨⟨a, c, rfl, hmem⟩, hy⟩ := hs
  have hxy : ∀ x ∈ xs ++ ys, x.length = i.size ∧ Ones x := by
    intro x hx
    rcases List.mem_append.1 hx with h1 | h1
    · exact ho.1 x h1
    · exact hy x h1
  have hfl : ys.flatten.length = ys.length * i.size := length_flatten_of fun y h => (hy y h).1
  have hfx : xs.flatten.length = xs.length * i.size := length_flatten_of fun y h => (ho.1 y h).1
  by_cases hne : ys = []
  · subst hne
    have hv : ∃ a0 c0, v = .slice a0 xs.length c0 ∧ xs.length ≤ c0 := by
      rcases ho.2 with ⟨rfl, rfl⟩ | ⟨g, cap, cur, rfl, _, hc, _⟩
      · exact ⟨none, 0, rfl, Nat.le_refl _⟩
      · exact ⟨_, cap, rfl, hc⟩
    obtain ⟨a0, c0, rfl, hc0⟩ := hv
    refine ⟨_, W, ?_, rfl, rfl, rfl, h, by simpa using ho, hl, fun j o hj => .inl (by rw [hj]; simp), fun j o hj _ => hj⟩
    cases a0 <;> cases a <;> simp [Builtin.append_, run_underlying ht, sizeOf, typeInfo, hi, Builtin.lenOf, Builtin.firstCells, loadCells, loadCellsFrom, storeCells, hc0]
  · obtain ⟨ad, rfl, hcell⟩ := hmem hne
    have hpos : 0 < ys.length := List.length_pos_iff.2 hne
    have grown : ∀ (old : Nat) (C : Array Value), C = xs.flatten.toArray ++ ys.flatten.toArray ++ Builtin.zeroCells z.cells (grownCap W (xs.length + ys.length) old e - (xs.length + ys.length)) → ∃ h' : Hp,
        Ow (.slice (some ⟨W.heap.size, 0, none⟩) (xs.length + ys.length) (grownCap W (xs.length + ys.length) old e)) e i.size (xs ++ ys) h' ∧
        Hp.le h' (hp (W.drew.alloc (.cells C e))) ∧
        (∀ j o, h' j = some o → h j ≠ none ∨ hp W j = none) ∧
        ∀ j o, hp W j = some o → h j = none → hp (W.drew.alloc (.cells C e)) j = some o := by
      intro old C hC
      have hge := grownCap_ge W (xs.length + ys.length) old e
      have hcm : grownCap W (xs.length + ys.length) old e ≤ maxLen := grownCap_le_maxLen W _ old e hm
      have hCs : C.size = grownCap W (xs.length + ys.length) old e * i.size := by
        rw [hC, Array.size_append, Array.size_append, List.size_toArray, List.size_toArray, size_zeroCells, hzs, hfx, hfl, ← Nat.add_mul, ← Nat.add_mul]
        congr 1
        omega
      have hCt : C.toList.take ((xs.length + ys.length) * i.size) = xs.flatten ++ ys.flatten := by
        rw [hC, Array.toList_append, Array.toList_append]
        exact List.take_left' (by rw [List.length_append, hfx, hfl, Nat.add_mul])
      clear hC
      refine ⟨fun j => if j = W.heap.size then some (.cells C e) else none,
        ⟨hxy, .inr ⟨W.heap.size, _, C, by rw [List.length_append], if_pos rfl, by rw [List.length_append]; exact hge, hcm, hCs, by rw [List.length_append, hCt, List.flatten_append]⟩⟩, ?_, ?_, ?_⟩
      · intro j o hj
        by_cases e : j = W.heap.size
        · subst e; dsimp only at hj; rw [if_pos rfl] at hj; cases hj; exact heap_alloc_new W.drew _
        · dsimp only at hj; rw [if_neg e] at hj; cases hj
      · intro j o hj
        by_cases e : j = W.heap.size
        · right; simp [hp, e]
        · dsimp only at hj; rw [if_neg e] at hj; cases hj
      · intro j o hj _
        have hlt : j < W.heap.size := by
          rcases Nat.lt_or_ge j W.heap.size with g | g
          · exact g
          · simp [hp, Array.getElem?_eq_none g] at hj
        exact (heap_alloc_old W.drew _ hlt).trans hj
    rcases ho.2 with ⟨rfl, rfl⟩ | ⟨g, cap, cur, rfl, hg, hc, hcm, hcs, htake⟩
    · have hr := run_append_nil (P := P) W T ty e i z ht hi hz ad ys.length c ys.flatten hfl hcell hpos (by have := hsmall; simp at this; omega) (by have := hb; simp at this; omega)
      have hgr := grown 0 _ rfl
      simp only [List.length_nil, Nat.zero_add, List.nil_append, List.flatten_nil, Array.empty_append] at hgr ⊢
      exact ⟨_, _, hr, rfl, rfl, rfl, hgr⟩
    · have hgW : W.heap[g]? = some (.cells cur e (0, 0)) := hl _ _ hg
      by_cases hroom : xs.length + ys.length ≤ cap
      · have hfit : xs.length * i.size + ys.flatten.length ≤ cur.size := by rw [hfl, hcs, ← Nat.add_mul]; exact Nat.mul_le_mul_right _ hroom
        have hr := run_append_room (P := P) W T ty e i ht hi g xs.length cap cur hgW ad ys.length c ys.flatten hfl hcell (ones_flatten fun y h => (hy y h).2) hroom hfit
        have hCs : (cur.toList.take (xs.length * i.size) ++ ys.flatten ++ cur.toList.drop (xs.length * i.size + ys.flatten.length)).toArray.size = cap * i.size := by
          have h3 : xs.length * i.size ≤ cur.size := by omega
          rw [hfl] at hfit
          have hct : cur.toList.length = cur.size := Array.length_toList
          rw [List.size_toArray, List.length_append, List.length_append, List.length_take, List.length_drop, hct, hfl, ← hcs, Nat.min_eq_left h3]
          omega
        have hCt : (cur.toList.take (xs.length * i.size) ++ ys.flatten ++ cur.toList.drop (xs.length * i.size + ys.flatten.length)).toArray.toList.take ((xs.length + ys.length) * i.size) = xs.flatten ++ ys.flatten := by
          rw [htake]
          exact List.take_left' (by rw [List.length_append, hfx, hfl, Nat.add_mul])
        generalize (cur.toList.take (xs.length * i.size) ++ ys.flatten ++ cur.toList.drop (xs.length * i.size + ys.flatten.length)).toArray = C at hr hCs hCt
        refine ⟨_, _, hr, rfl, rfl, rfl, fun j => if j = g then some (.cells C e (0, 0)) else none,
          ⟨hxy, .inr ⟨g, cap, C, by rw [List.length_append], if_pos rfl, by rw [List.length_append]; exact hroom, hcm, hCs, by rw [List.length_append, hCt, List.flatten_append]⟩⟩, ?_, ?_, ?_⟩
        · intro j o hj
          by_cases e : j = g
          · subst e; dsimp only at hj; rw [if_pos rfl] at hj; cases hj; exact setRow_hp hgW
          · dsimp only at hj; rw [if_neg e] at hj; cases hj
        · intro j o hj
          by_cases e : j = g
          · subst e; left; rw [hg]; simp
          · dsimp only at hj; rw [if_neg e] at hj; cases hj
        · intro j o hj hn
          have : j ≠ g := by intro e; subst e; rw [hg] at hn; cases hn
          show (W.setRow g _).heap[j]? = _
          rw [setRow_other W g j _ this]; exact hj
      · have holds : ∀ j u, xs.flatten[j]? = some u → W.cell? ((⟨g, 0, none⟩ : Addr).add j) = some u := by
          intro j u hj
          rw [addr_add, cell_of_row W _ _ cur e (0, 0) hgW, Nat.zero_add]
          rw [← htake, List.getElem?_take] at hj
          split at hj
          · simpa using hj
          · cases hj
        have hr := run_append_grow (P := P) W T ty e i z ht hi hz ⟨g, 0, none⟩ xs.length cap xs.flatten hfx holds ad ys.length c ys.flatten hfl hcell (by omega) (by omega) (growslice_fits (by omega) hb)
        exact ⟨_, _, hr, rfl, rfl, rfl, grown cap _ rfl⟩
end

section
variable {P : Program} {Q : Exit → Act → World → Prop} {n : Nat} {w0 : World} {ro : Hp} {E : Env} {M R R2 : Res}
variable {dst : Option Tmp} {ty T T' T0 : TypeId} {pos : String} {af : Array Edge} {g : Option (Nat × Bool)} {x y z : Operand} {ops : Array Oper} {rest : List Oper}
variable {sz e bytes : Nat} {v u : Value} {xs ys : List (List Value)}

theorem JO.appW {K : Act → World → Prop} {d l : Nat} (hn : Nat.blt d n = true) (hx : opnd E x = some v) (hy : opnd E y = some u) (hT : El P T e sz bytes) (hp : pull M l = some (Ow v e sz xs, R))
    (hs : ∀ W, Inv w0 ro M W → Src W u sz ys) (hb : (xs.length + ys.length) * bytes ≤ 140737488355328) (hm : xs.length + ys.length ≤ maxLen)
    (h : ∀ v', Kp n w0 ro K ((d, v') :: E) ((l, Ow v' e sz (xs ++ ys)) :: R)) :
    JO P Q n w0 ro K ⟨some d, .call { callee := .builtin .append, args := #[x, y], argTypes := #[T, T] }, ty, pos, af, g⟩ E M := fun a W f iv => by
  have ip := iv.pull hp
  obtain ⟨k, hk, hA⟩ := ip.get
  obtain ⟨v', W', hr, h1, h2, h3, _⟩ := run_append_ow (ty := ty) hT hA hk (hs W iv) hb hm
  unfold Oper.wp
  simp only [execOp, resolve, invoke, builtin, Sem.run_bind, Sem.run_pure, Result.andThen_ok, List.map_toArray, List.map_cons, List.map_nil, f.eval hx, f.eval hy, hr, Oper.upon_value]
  refine h v' _ W' (f.put v' hn) (ip.turn h1 h2 h3 fun k' hk' hA' => ?_)
  obtain ⟨v2, W2, hr2, _, _, _, h', a1, a2, a3, a4⟩ := run_append_ow (ty := ty) hT hA' hk' (hs W iv) hb hm
  rw [hr] at hr2
  cases hr2
  exact ⟨h', a1, a2, a3, a4⟩
/-- append what reads in memory that stays -/
theorem JO.appR {K : Act → World → Prop} {d l : Nat} (hn : Nat.blt d n = true) (hx : opnd E x = some v) (hy : opnd E y = some u) (hT : El P T e sz bytes) (hp : pull M l = some (Ow v e sz xs, R))
    (hs : RS ro u sz ys) (hb : (xs.length + ys.length) * bytes ≤ 140737488355328) (hm : xs.length + ys.length ≤ maxLen)
    (h : ∀ v', Kp n w0 ro K ((d, v') :: E) ((l, Ow v' e sz (xs ++ ys)) :: R)) :
    JO P Q n w0 ro K ⟨some d, .call { callee := .builtin .append, args := #[x, y], argTypes := #[T, T] }, ty, pos, af, g⟩ E M :=
  JO.appW hn hx hy hT hp (fun W i => hs.src i.roLe) hb hm h
/-- append what is owned too (another one) -/
theorem JO.appO {K : Act → World → Prop} {d l l2 e2 : Nat} (hn : Nat.blt d n = true) (hx : opnd E x = some v) (hy : opnd E y = some u) (hT : El P T e sz bytes) (hp : pull M l = some (Ow v e sz xs, R))
    (hq : pull M l2 = some (Ow u e2 sz ys, R2)) (hb : (xs.length + ys.length) * bytes ≤ 140737488355328) (hm : xs.length + ys.length ≤ maxLen)
    (h : ∀ v', Kp n w0 ro K ((d, v') :: E) ((l, Ow v' e sz (xs ++ ys)) :: R)) :
    JO P Q n w0 ro K ⟨some d, .call { callee := .builtin .append, args := #[x, y], argTypes := #[T, T] }, ty, pos, af, g⟩ E M :=
  JO.appW hn hx hy hT hp (fun W i => by
    obtain ⟨k, hk, hA⟩ := (i.pull hq).get
    exact (hA.rs (Hp.le_refl _)).src hk) hb hm h

theorem V.lenR {e : Nat} (h : opnd E x = some v) (hR : RS ro v sz xs) (ht : P.underlying T = some (.slice e)) :
    V P n w0 ro E M ⟨dst, .call { callee := .builtin .len, args := #[x], argTypes := #[T] }, ty, pos, af, g⟩ (.int .i64 (xs.length : Int)) := by
  obtain ⟨a, c, rfl, _⟩ := hR.shape
  exact V.len h ht
theorem V.lenO {e e' l : Nat} (h : opnd E x = some v) (hp : pull M l = some (Ow v e' sz xs, R)) (ht : P.underlying T = some (.slice e)) :
    V P n w0 ro E M ⟨dst, .call { callee := .builtin .len, args := #[x], argTypes := #[T] }, ty, pos, af, g⟩ (.int .i64 (xs.length : Int)) := fun a W f i => by
  obtain ⟨k, hk, hA⟩ := (i.pull hp).get
  obtain ⟨a', c, rfl, _⟩ := (hA.rs (Hp.le_refl _)).shape
  exact V.len h ht a W f i
theorem V.iaR {k : IntKind} {j : Int} (hx : opnd E x = some v) (hR : RS ro v sz xs) (hy : opnd E y = some (.int k j)) (ht : Sl P T e sz) (hj : 0 ≤ j ∧ j < xs.length) :
    V P n w0 ro E M ⟨dst, .indexAddr T x y, ty, pos, af, g⟩ (.pointer (some (elA v j.toNat sz))) := by
  obtain ⟨c, cs, T1, fr, hv, hr, hm⟩ := hR.mem (by intro h; subst h; simp at hj; omega)
  have := V.ia (P := P) (n := n) (w0 := w0) (ro := ro) (M := M) (dst := dst) (ty := ty) (pos := pos) (af := af) (g := g) (m := xs.length) (c := c) (b := slB v) (off := slO v) (hx.trans (by rw [← hv])) hy ht hj
  exact this
theorem RS.at {ro : Hp} {i : Nat} {p : List Value} (hR : RS ro v sz xs) (hi : xs[i]? = some p) : ∃ cs T fr, ro (slB v) = some (.cells cs T fr) ∧ p.length = sz ∧
    ∀ j u, p[j]? = some u → cs[slO v + i * sz + j]? = some u := by
  obtain ⟨c, cs, T1, fr, hv, hr, hm⟩ := hR.mem (by intro h; subst h; simp at hi)
  exact ⟨cs, T1, fr, hr, (hR.each _ (List.mem_of_getElem? hi)).1, hm i p hi⟩
theorem V.ldR {i : Nat} {p : List Value} (hx : opnd E x = some (.pointer (some (elA v i sz)))) (hR : RS ro v sz xs) (hi : xs[i]? = some p) (hT : Ag P T sz) :
    V P n w0 ro E M ⟨dst, .load T x, ty, pos, af, g⟩ (.agg p.toArray) :=
  .of_run fun a W f iv => by
    obtain ⟨cs, T1, fr, hr, hl, hm⟩ := hR.at hi
    have := run_loadVar_agg (off := slO v + i * sz) hT (iv.roLe _ _ hr) p hm hl
    simp [execOp, f.eval hx, Instr.loadAt, Instr.sureAddr, elA, this]
theorem V.ldRs {i : Nat} {u : Value} (hx : opnd E x = some (.pointer (some (elA v i 1)))) (hR : RS ro v 1 xs) (hi : xs[i]? = some [u]) (hT : Sc P T) :
    V P n w0 ro E M ⟨dst, .load T x, ty, pos, af, g⟩ u :=
  .of_run fun a W f iv => by
    obtain ⟨cs, T1, fr, hr, hl, hm⟩ := hR.at hi
    have := run_loadVar_sc (off := slO v + i * 1) hT (iv.roLe _ _ hr) (v := u) (by simpa using hm 0 u rfl)
    simp at this
    simp [execOp, f.eval hx, Instr.loadAt, Instr.sureAddr, elA, this]
/-- a leaf of an element -/
theorem V.ldRA {i k s off : Nat} {vs : Lv} {cs : Array Value} (hx : opnd E x = some (.pointer (some ⟨slB v, slO v + i * sz + off, none⟩))) (hR : RS ro v sz xs) (hi : xs[i]? = some (flat vs)) (hw : Wl vs) (hT : Ag P T s)
    (hk : vs[k]? = some (s, .agg cs)) (ho : lsz (vs.take k) = off) : V P n w0 ro E M ⟨dst, .load T x, ty, pos, af, g⟩ (.agg cs) :=
  .of_run fun a W f iv => by
    obtain ⟨cs1, T1, fr, hr, hl, hm⟩ := hR.at hi
    have hsz : cs.size = s := (hw _ (List.mem_of_getElem? hk)).1
    have := run_loadVar_agg (off := slO v + i * sz + off) hT (iv.roLe _ _ hr) cs.toList (fun j u hu => by
      rw [Nat.add_assoc]; exact hm (off + j) u (flat_get hw hk ho j u hu)) (by simpa using hsz)
    simp at this
    simp [execOp, f.eval hx, Instr.loadAt, Instr.sureAddr, this]
theorem V.ldRS {i k off : Nat} {vs : Lv} {u : Value} (hx : opnd E x = some (.pointer (some ⟨slB v, slO v + i * sz + off, none⟩))) (hR : RS ro v sz xs) (hi : xs[i]? = some (flat vs)) (hw : Wl vs) (hT : Sc P T)
    (hk : vs[k]? = some (1, u)) (ho : lsz (vs.take k) = off) (hu : u.cells = #[u]) : V P n w0 ro E M ⟨dst, .load T x, ty, pos, af, g⟩ u :=
  .of_run fun a W f iv => by
    obtain ⟨cs1, T1, fr, hr, hl, hm⟩ := hR.at hi
    have := run_loadVar_sc (off := slO v + i * sz + off) hT (iv.roLe _ _ hr) (v := u) (by simpa using hm off u (by simpa using flat_get hw hk ho 0 u (by rw [hu]; rfl)))
    simp [execOp, f.eval hx, Instr.loadAt, Instr.sureAddr, this]

/- lending what is owned -/
def Hp.or (a b : Hp) : Hp := fun i => (a i).or (b i)
theorem Hp.le_or_left {a b : Hp} : Hp.le a (Hp.or a b) := fun i o h => by simp [Hp.or, h]
theorem Hp.le_or_right {a b : Hp} (d : Hp.disj a b) : Hp.le b (Hp.or a b) := fun i o h => by
  rcases d i with x | x
  · simp [Hp.or, x, h]
  · rw [h] at x; cases x
theorem Inv.lend {l : Nat} {A : HP} {W : World} (h : Inv w0 ro ((l, A) :: R) W) :
    ∃ k, A k ∧ Hp.disj ro k ∧ Inv w0 (Hp.or ro k) R W := by
  obtain ⟨hh, a, b, c, h1, h2, d, e, f, g, i⟩ := h.own
  refine ⟨h1, g, Hp.disj_le a (Hp.le_refl _) d, h.os, h.tape, h.output, h2, ?_, ?_, Hp.le_trans e c, i⟩
  · intro j
    cases hx : h2 j with
    | none => exact .inr rfl
    | some o =>
      left
      have h3 := e j o hx
      have h4 : ro j = none := by
        rcases a j with z | z
        · exact z
        · rw [h3] at z; cases z
      have h5 : h1 j = none := by
        rcases f j with z | z
        · exact z
        · rw [hx] at z; cases z
      simp [Hp.or, h4, h5]
  · intro j o hj
    cases hx : ro j with
    | some y => simp [Hp.or, hx] at hj; subst hj; exact b j _ hx
    | none => simp [Hp.or, hx] at hj; exact c j o (d j o hj)
theorem Inv.unlend {l : Nat} {A : HP} {k : Hp} {W : World} (hA : A k) (hd : Hp.disj ro k) (h : Inv w0 (Hp.or ro k) R W) : Inv w0 ro ((l, A) :: R) W := by
  obtain ⟨hh, a, b, c, i⟩ := h.own
  refine ⟨h.os, h.tape, h.output, Hp.or k hh, ?_, Hp.le_trans Hp.le_or_left b, ?_, k, hh, Hp.le_or_left, ?_, ?_, hA, i⟩
  · intro j
    cases hx : ro j with
    | none => exact .inl rfl
    | some o =>
      right
      have h1 : k j = none := by
        rcases hd j with z | z
        · rw [hx] at z; cases z
        · exact z
      have h2 : hh j = none := by
        rcases a j with z | z
        · simp [Hp.or, hx] at z
        · exact z
      simp [Hp.or, h1, h2]
  · intro j o hj
    cases hx : k j with
    | some y => simp [Hp.or, hx] at hj; subst hj; exact b j _ (Hp.le_or_right hd j _ hx)
    | none => simp [Hp.or, hx] at hj; exact c j o hj
  · intro j o hj
    have : k j = none := by
      rcases a j with z | z
      · cases hx : k j with
        | none => rfl
        | some y => rw [Hp.le_or_right hd j y hx] at z; cases z
      · rw [hj] at z; cases z
    simp [Hp.or, this, hj]
  · intro j
    rcases a j with z | z
    · left
      cases hx : k j with
      | none => rfl
      | some y => rw [Hp.le_or_right hd j y hx] at z; cases z
    · exact .inr z

theorem Pu.lend {f : FuncId} {args : Array Value} {l : Nat} {A : HP} {r : Value} (hp : pull M l = some (A, R))
    (h : ∀ k, A k → Hp.le ro (Hp.or ro k) → Hp.le k (Hp.or ro k) → Pu P f args w0 (Hp.or ro k) R r) : Pu P f args w0 ro M r := fun W hW => by
  obtain ⟨k, hA, hd, hi⟩ := (hW.pull hp).lend
  refine (h k hA Hp.le_or_left (Hp.le_or_right hd) W hi).mono fun e W' ⟨h1, h2⟩ => ⟨h1, ?_⟩
  exact (Inv.unlend (l := l) hA hd h2).weak fun _ s => Sats.unpull hp s
theorem Fn.lend {f : FuncId} {args : Array Value} {l : Nat} {A : HP} {Φ : Value → Res → Prop} (hp : pull M l = some (A, R))
    (h : ∀ k, A k → Hp.le ro (Hp.or ro k) → Hp.le k (Hp.or ro k) → Fn P f args w0 (Hp.or ro k) R Φ) : Fn P f args w0 ro M fun r M' => ∃ R', Φ r R' ∧ M' = (l, A) :: R' := fun W hW => by
  obtain ⟨k, hA, hd, hi⟩ := (hW.pull hp).lend
  refine (h k hA Hp.le_or_left (Hp.le_or_right hd) W hi).mono fun e W' ⟨r, R', h1, h2, h3⟩ => ⟨r, (l, A) :: R', h1, ⟨R', h2, rfl⟩, Inv.unlend (l := l) hA hd h3⟩

/-- lent for good -/
theorem Inv.unro {w0 : World} {k : Hp} {M : Res} {W : World} (h : Inv w0 (Hp.or ro k) M W) : Inv w0 ro M W :=
  let ⟨hh, a, b, c, d⟩ := h.own
  ⟨h.os, h.tape, h.output, hh, Hp.disj_le a Hp.le_or_left (Hp.le_refl _), Hp.le_trans Hp.le_or_left b, c, d⟩
theorem C.freeze {c : Code} {l : Nat} {A : HP} (hp : pull M l = some (A, R)) (h : ∀ k, A k → Hp.le ro (Hp.or ro k) → Hp.le k (Hp.or ro k) → C P Q n w0 (Hp.or ro k) c E R) : C P Q n w0 ro c E M := fun a W f i => by
  obtain ⟨k, hA, hd, hi⟩ := (i.pull hp).lend
  exact h k hA Hp.le_or_left (Hp.le_or_right hd) a W f hi
theorem Kp.freeze {K : Act → World → Prop} {l : Nat} {A : HP} (hp : pull M l = some (A, R)) (h : ∀ k, A k → Hp.le ro (Hp.or ro k) → Hp.le k (Hp.or ro k) → Kp n w0 (Hp.or ro k) K E R) : Kp n w0 ro K E M := fun a W f i => by
  obtain ⟨k, hA, hd, hi⟩ := (i.pull hp).lend
  exact h k hA Hp.le_or_left (Hp.le_or_right hd) a W f hi
theorem Kp.freezeG {K : Act → World → Prop} {l : Nat} {A : HP} {F : Hp → Prop} (hp : pull M l = some (A, R)) (hF : ∀ k ro', A k → Hp.le k ro' → F ro') (h : ∀ ro', Hp.le ro ro' → F ro' → Kp n w0 ro' K E R) : Kp n w0 ro K E M := fun a W f i => by
  obtain ⟨k, hA, hd, hi⟩ := (i.pull hp).lend
  exact h _ Hp.le_or_left (hF k _ hA (Hp.le_or_right hd)) a W f hi
theorem C.freezeG {c : Code} {l : Nat} {A : HP} {F : Hp → Prop} (hp : pull M l = some (A, R)) (hF : ∀ k ro', A k → Hp.le k ro' → F ro') (h : ∀ ro', Hp.le ro ro' → F ro' → C P Q n w0 ro' c E R) : C P Q n w0 ro c E M := fun a W f i => by
  obtain ⟨k, hA, hd, hi⟩ := (i.pull hp).lend
  exact h _ Hp.le_or_left (hF k _ hA (Hp.le_or_right hd)) a W f hi
/-- the first of what is owned under another label, in front -/
theorem Fn.at {f : FuncId} {args : Array Value} {l l' : Nat} {A : HP} {Φ : Value → Res → Prop} (hp : pull M l = some (A, R)) (h : Fn P f args w0 ro ((l', A) :: R) Φ) : Fn P f args w0 ro M Φ :=
  h.sub (MSub.pullL hp MSub.refl)
/-- an owned slice that is nil is made of nothing -/
theorem MSub.nilO {l e sz : Nat} : MSub M ((l, Ow (.slice none 0 0) e sz []) :: M) := fun h s =>
  ⟨fun _ => none, h, (fun _ _ x => by cases x), Hp.le_refl _, (fun _ => .inl rfl), Ow.nil, s⟩
theorem Kp.nilO {K : Act → World → Prop} (l e sz : Nat) (h : Kp n w0 ro K E ((l, Ow (.slice none 0 0) e sz []) :: M)) : Kp n w0 ro K E M := fun a W f i => h a W f (i.sub MSub.nilO)
theorem C.nilO {c : Code} (l e sz : Nat) (h : C P Q n w0 ro c E ((l, Ow (.slice none 0 0) e sz []) :: M)) : C P Q n w0 ro c E M := fun a W f i => h a W f (i.sub MSub.nilO)
/-- is a slice nil? -/
def slN : Value → Bool
  | .slice none _ _ => true
  | _ => false
theorem RS.nil {v : Value} {sz : Nat} {xs : List (List Value)} (h : RS ro v sz xs) (hn : slN v = true) : xs = [] := by
  by_cases hx : xs = []
  · exact hx
  · obtain ⟨c, cs, T, fr, hv, _⟩ := h.mem hx
    rw [hv] at hn; cases hn
theorem V.nilR {e : Nat} (hx : opnd E x = some v) (hR : RS ro v sz xs) (ht : P.underlying T = some (.slice e)) :
    V P n w0 ro E M ⟨dst, .binOp .eql T x (.const (.slice none 0 0)) T', ty, pos, af, g⟩ (.bool (slN v)) := by
  obtain ⟨a, c, rfl, _⟩ := hR.shape
  refine .of_run fun a' W f i => ?_
  have hd : ∀ d : Nat, (Op.equalIn (d + 1) T (.slice a xs.length c) (.slice none 0 0)).run P W = .ok a.isNone W := fun d => by
    cases a <;> simp [Op.equalIn, run_underlying ht]
  have hg : (eqGuard .eql T x (.const (.slice none 0 0)) (.slice a xs.length c) (.slice none 0 0)).run P W = .ok () W := by unfold eqGuard; split <;> rfl
  have hb : (binOp .eql T (.slice a xs.length c) (.slice none 0 0)).run P W = .ok (.bool a.isNone) W := by
    simp only [binOp]; simp [Op.equal, Op.maxDepth, hd 9999]
  have he : a.isNone = slN (.slice a xs.length c) := by cases a <;> rfl
  have hy : a'.eval (.const (.slice none 0 0)) = .slice none 0 0 := rfl
  simp only [execOp, f.eval hx, hy, Sem.run_bind, hg, Result.andThen_ok, hb, Sem.run_pure, he]
end
end Go.Sx
namespace Go.Sx
open Go

def slotsOf (o : Oper) (ops : Array Oper) : List Tmp := o.looksAt ops
/-- all quiet ones are behind us where this one has been -/
def fullB (ops : Array Oper) (ss : List Nat) (s : Nat) : Bool := (List.range ops.size).all fun i => ss.contains i || ((Region.before ops).getD s 0).testBit i
def notSel (o : Oper) : Bool := match o.op with | .select .. => false | .defer .. => false | .go .. => false | _ => true
/-- the order's edges let these stand last, one behind the other; the slots are apart -/
def spineB (ops : Array Oper) (ss : List Nat) : Bool :=
  let b := Region.before ops
  let N := ops.size
  let r := List.range N
  r.all (fun j => match ops[j]? with
    | none => false
    | some o => notSel o && o.after.toList.all (fun e => !Region.binds .any e || Nat.blt e.on j) &&
      r.all (fun i => !(b.getD j 0).testBit i || o.after.toList.any fun e => Region.binds .any e && (Nat.beq e.on i || (b.getD e.on 0).testBit i))) &&
  ss.all (fun i => Nat.blt i N) && decide ss.Nodup &&
  r.all (fun i => match ops[i]? with
    | none => false
    | some o => ss.contains i || (match o.dst with
      | none => false
      | some d => !(o.looksAt ops).contains d && r.all fun j => Nat.beq j i || (match ops[j]? with
        | none => false
        | some o' => !(o'.dst == some d) && (!(o'.looksAt ops).contains d || (b.getD j 0).testBit i) &&
          (!ss.contains j || (match o'.dst with | none => true | some d' => !(o.looksAt ops).contains d' || (b.getD j 0).testBit i)))))

/-- those of the rest that may be next -/
def mins (ops : Array Oper) (rem : List Nat) : List Nat :=
  let b := Region.before ops
  rem.filter fun i => rem.all fun j => !(b.getD i 0).testBit j
theorem looks_congr {ops : Array Oper} {o : Oper} {a b : Act} (hs : notSel o = true) (h : ∀ t ∈ o.looksAt ops, a.tmps[t]? = b.tmps[t]?) :
    execOp a.eval o = execOp b.eval o ∧ Region.wanted o (yielded ops a.tmps) = Region.wanted o (yielded ops b.tmps) := by
  constructor
  · refine execOp_congr o (fun cs c e => by simp [notSel, e] at hs) fun x hx => ?_
    cases x with
    | tmp t =>
      have ht : t ∈ o.looksAt ops := by
        unfold Oper.looksAt
        refine List.mem_append.2 (.inl (List.mem_filterMap.2 ⟨.tmp t, by simpa using hx, rfl⟩))
      have := h t ht
      simp [Act.eval, this]
    | const v => rfl
    | global g => rfl
    | func f => rfl
  · unfold Region.wanted
    cases hg : o.guard with
    | none => rfl
    | some p =>
      obtain ⟨j, w⟩ := p
      simp only
      have : yielded ops a.tmps j = yielded ops b.tmps j := by
        unfold yielded
        cases hd : (ops[j]?).bind (·.dst) with
        | none => rfl
        | some d =>
          have hd' : d ∈ o.looksAt ops := by
            unfold Oper.looksAt
            refine List.mem_append.2 (.inr ?_)
            simp only [hg, hd]; simp
          have := h d hd'
          simp only [Option.bind_some, this]
      rw [this]

section
variable (P : Program) (Q : Exit → Act → World → Prop) (w0 : World) (ro : Hp) (ops : Array Oper) (Mc : Res)
def Fs : Exit → Act → World → Prop := fun _ _ _ => False
/-- those that stand last -/
def DS (ss : List Nat) : Nat → Bool → List Nat → Hp → Act → Res → Prop
  | 0, nd, _, ro, a, N => (nd = true → MSub N Mc) ∧ ∀ W, Inv w0 ro N W → Q .normal a W
  | k + 1, nd, rem, ro, a, N => (nd = true → MSub N Mc) ∧ ∀ i ∈ mins ops rem, ∃ o, ops[i]? = some o ∧
    if Region.wanted o (yielded ops a.tmps) then ∀ W, Inv w0 ro N W → o.wp P a W (fun a' W' => a'.defers = [] ∧ ∃ ro' N', Hp.le ro ro' ∧ Inv w0 ro' N' W' ∧ DS ss k (nd && !fullB ops ss i) (rem.erase i) ro' a' N') Fs
    else DS ss k (nd && !fullB ops ss i) (rem.erase i) ro (a.put o.dst undef) N
/-- this operation yields that value, whatever is owned besides -/
def QV (o : Oper) (a : Act) (v : Value) : Prop :=
  if Region.wanted o (yielded ops a.tmps) then ∀ ro1, Hp.le ro ro1 → ∀ N, MSub N Mc → ∀ W, Inv w0 ro1 N W → Oper.quietUpon P (Inv w0 ro1 N) W v ((execOp a.eval o).run P W) else v = undef
def DQ (K : Act → Prop) : List Nat → Act → Prop
  | [], a => K a
  | i :: is, a => ∃ o v d, ops[i]? = some o ∧ o.dst = some d ∧ d < a.tmps.size ∧ QV P w0 ro ops Mc o a v ∧ DQ K is (a.put o.dst v)
end

section
variable {P : Program} {Q : Exit → Act → World → Prop} {n : Nat} {w0 : World} {ro : Hp} {ops : Array Oper} {Mc : Res}

/-- a quiet call is quiet where more is only read -/
theorem Pu.up {F : FuncId} {vs : Array Value} {v : Value} {ro1 : Hp} (hc : ∀ N, MSub N Mc → Pu P F vs w0 ro N v) (hl : Hp.le ro ro1) {N : Res} (hN : MSub N Mc) : Pu P F vs w0 ro1 N v := fun W hW => by
  let k : Hp := fun i => if ro i = none then ro1 i else none
  have hk1 : Hp.le k ro1 := fun i o h => by
    simp only [k] at h; split at h
    · exact h
    · cases h
  have hi : Inv w0 ro ((0, Hp.le k) :: N) W := by
    obtain ⟨h, a, b, c, d⟩ := hW.own
    have dkh : Hp.disj k h := Hp.disj_le a hk1 (Hp.le_refl _)
    refine ⟨hW.os, hW.tape, hW.output, Hp.or k h, ?_, Hp.le_trans hl b, ?_, k, h, Hp.le_or_left, Hp.le_or_right dkh, dkh, Hp.le_refl _, d⟩
    · intro i
      cases hr : ro i with
      | none => exact .inl rfl
      | some o =>
        right
        have h1 : k i = none := by simp [k, hr]
        have h2 : h i = none := by
          rcases a i with z | z
          · rw [hl i o hr] at z; cases z
          · exact z
        simp [Hp.or, h1, h2]
    · intro i o hi
      cases hx : k i with
      | some y => simp [Hp.or, hx] at hi; subst hi; exact b i _ (hk1 i _ hx)
      | none => simp [Hp.or, hx] at hi; exact c i o hi
  refine (hc _ (MSub.drop hN) W hi).mono fun e W' ⟨he, hI⟩ => ⟨he, ?_⟩
  obtain ⟨h, a, b, c, h1, h2, d1, d2, d3, d4, d5⟩ := hI.own
  refine ⟨hI.os, hI.tape, hI.output, h2, ?_, ?_, Hp.le_trans d2 c, d5⟩
  · intro i
    cases hx : h2 i with
    | none => exact .inr rfl
    | some o =>
      left
      have hr : ro i = none := by
        rcases a i with z | z
        · exact z
        · rw [d2 i o hx] at z; cases z
      have h1n : h1 i = none := by
        rcases d3 i with z | z
        · exact z
        · rw [hx] at z; cases z
      cases hy : ro1 i with
      | none => rfl
      | some y =>
        have : k i = some y := by simp [k, hr, hy]
        rw [d4 i y this] at h1n; cases h1n
  · intro i o hi
    cases hr : ro i with
    | some y => rw [hl i y hr] at hi; cases hi; exact b i _ hr
    | none =>
      have : k i = some o := by simp [k, hr, hi]
      exact c i o (d1 i o (d4 i o this))

theorem QV.congr {o : Oper} {a b : Act} {v : Value} (hs : notSel o = true) (h : ∀ t ∈ o.looksAt ops, a.tmps[t]? = b.tmps[t]?) (q : QV P w0 ro ops Mc o a v) : QV P w0 ro ops Mc o b v := by
  obtain ⟨h1, h2⟩ := looks_congr hs h
  unfold QV at *
  rw [← h1, ← h2]; exact q

theorem put_get {a : Act} {d t : Tmp} {v : Value} : (a.put (some d) v).tmps[t]? = if d = t then (if d < a.tmps.size then some v else none) else a.tmps[t]? := by
  simp only [Act.put, Array.getElem?_setIfInBounds]
theorem put_none_tmps {a : Act} {v : Value} : (a.put none v) = a := rfl
theorem put_size {a : Act} {d : Option Tmp} {v : Value} : (a.put d v).tmps.size = a.tmps.size := by cases d <;> simp [Act.put]
theorem put_defers {a : Act} {d : Option Tmp} {v : Value} : (a.put d v).defers = a.defers := by cases d <;> rfl

/-- the checks, one by one -/
structure Chk (ops : Array Oper) (ss : List Nat) : Prop where
  each : ∀ j, j < ops.size → ∃ o, ops[j]? = some o ∧ notSel o = true ∧ (∀ e ∈ o.after, Region.binds .any e = true → e.on < j) ∧
    ∀ i, i < ops.size → ((Region.before ops).getD j 0).testBit i = true → ∃ e ∈ o.after, Region.binds .any e = true ∧ (e.on = i ∨ ((Region.before ops).getD e.on 0).testBit i = true)
  lt : ∀ i ∈ ss, i < ops.size
  nodup : ss.Nodup
  apart : ∀ i o, ops[i]? = some o → i ∉ ss → ∃ d, o.dst = some d ∧ d ∉ o.looksAt ops ∧ ∀ j o', ops[j]? = some o' → j ≠ i → o'.dst ≠ some d ∧ (d ∈ o'.looksAt ops → ((Region.before ops).getD j 0).testBit i = true) ∧
    (j ∈ ss → ∀ d', o'.dst = some d' → d' ∈ o.looksAt ops → ((Region.before ops).getD j 0).testBit i = true)

theorem Chk.of {ss : List Nat} (h : spineB ops ss = true) : Chk ops ss := by
  unfold spineB at h
  simp only [Bool.and_eq_true, List.all_eq_true, decide_eq_true_eq, List.mem_range] at h
  obtain ⟨⟨⟨h1, h3⟩, h4⟩, h5⟩ := h
  refine ⟨fun j hj => ?_, fun i hi => by have := h3 i hi; simpa [Nat.blt_eq] using this, h4, fun i o ho hi => ?_⟩
  · have := h1 j hj
    split at this
    · cases this
    · rename_i o ho
      simp only [Bool.and_eq_true, Bool.or_eq_true, Bool.not_eq_true', List.all_eq_true, List.mem_range, Nat.blt_eq, List.any_eq_true, Array.mem_toList_iff, Nat.beq_eq_true_eq] at this
      obtain ⟨⟨a, b⟩, c⟩ := this
      refine ⟨o, ho, a, fun e he hb => ?_, fun i hi ht => ?_⟩
      · rcases b e he with x | x
        · rw [hb] at x; cases x
        · exact x
      · rcases c i hi with x | x
        · rw [ht] at x; cases x
        · obtain ⟨e, he, hb, hx⟩ := x
          exact ⟨e, he, hb, hx.imp Nat.eq_of_beq_eq_true id⟩
  · have hlt : i < ops.size := (Array.getElem?_eq_some_iff.1 ho).1
    have := h5 i hlt
    rw [ho] at this
    simp only [Bool.or_eq_true, List.contains_iff_mem] at this
    rcases this with x | x
    · exact absurd x hi
    · split at x
      · cases x
      · rename_i d hd
        simp only [Bool.and_eq_true, Bool.not_eq_true'] at x
        refine ⟨d, hd, fun hm => by (have := x.1; rw [List.contains_iff_mem.2 hm] at this; cases this), fun j o' ho' hj => ?_⟩
        replace x := x.2
        have hjlt : j < ops.size := (Array.getElem?_eq_some_iff.1 ho').1
        have := List.all_eq_true.1 x j (List.mem_range.2 hjlt)
        rw [ho'] at this
        simp only [Bool.or_eq_true, Nat.beq_eq_true_eq, Bool.and_eq_true, Bool.not_eq_true', beq_eq_false_iff_ne] at this
        rcases this with y | y
        · exact absurd (Nat.eq_of_beq_eq_true y) hj
        · obtain ⟨⟨y1, y2⟩, y3⟩ := y
          refine ⟨y1, fun hd' => ?_, fun hjs d' hd' hm => ?_⟩
          · rcases y2 with z | z
            · rw [List.contains_iff_mem.2 hd'] at z; cases z
            · exact z
          · rcases y3 with z | z
            · rw [List.contains_iff_mem.2 hjs] at z; cases z
            · rw [hd'] at z
              simp only [Bool.or_eq_true, Bool.not_eq_true'] at z
              rcases z with z | z
              · rw [List.contains_iff_mem.2 hm] at z; cases z
              · exact z

theorem Chk.bit_lt {ss : List Nat} (c : Chk ops ss) : ∀ (j i : Nat), j < ops.size → i < ops.size → ((Region.before ops).getD j 0).testBit i = true → i < j := by
  intro j
  induction j using Nat.strongRecOn with
  | _ j ih =>
    intro i hj hi h
    obtain ⟨o, ho, _, hb, hc⟩ := c.each j hj
    obtain ⟨e, he, heb, hx⟩ := hc i hi h
    have hlt := hb e he heb
    rcases hx with rfl | hx
    · exact hlt
    · have := ih e.on hlt i (by omega) hi hx; omega

theorem DQ.fin {ss : List Nat} (c : Chk ops ss) {K : Act → Prop} : ∀ (is : List Nat) (a0 : Act), (∀ i ∈ is, i ∉ ss ∧ i < ops.size) → is.Pairwise (· < ·) → DQ P w0 ro ops Mc K is a0 →
    ∃ b, K b ∧ b.tmps.size = a0.tmps.size ∧ b.defers = a0.defers ∧ (∀ t, (∀ i ∈ is, ∀ o, ops[i]? = some o → o.dst ≠ some t) → b.tmps[t]? = a0.tmps[t]?) ∧
      ∀ i ∈ is, ∃ o v d, ops[i]? = some o ∧ o.dst = some d ∧ QV P w0 ro ops Mc o b v ∧ b.tmps[d]? = some v
  | [], a0, _, _, h => ⟨a0, h, rfl, rfl, fun _ _ => rfl, fun i hi => by cases hi⟩
  | i :: is, a0, hs, hp, h => by
    obtain ⟨o, v, d, ho, hd, hdl, hq, hrest⟩ := h
    obtain ⟨hlt, hp'⟩ := List.pairwise_cons.1 hp
    obtain ⟨b, hK, hz, hf, ht, hi⟩ := DQ.fin c is _ (fun j hj => hs j (by simp [hj])) hp' hrest
    obtain ⟨d', hd', hself, hap⟩ := c.apart i o ho (hs i (by simp)).1
    rw [hd] at hd'; cases hd'
    have hne : ∀ j ∈ is, ∀ o', ops[j]? = some o' → o'.dst ≠ some d := fun j hj o' ho' =>
      (hap j o' ho' (by have := hlt j hj; omega)).1
    have hbd : b.tmps[d]? = some v := by
      rw [ht d hne, hd, put_get, if_pos rfl, if_pos hdl]
    refine ⟨b, hK, by rw [hz, put_size], by rw [hf, put_defers], fun t hall => ?_, ?_⟩
    · rw [ht t fun j hj => hall j (by simp [hj]), hd, put_get, if_neg]
      intro e; subst e; exact hall i (by simp) o ho hd
    · intro j hj
      rcases List.mem_cons.1 hj with rfl | hj
      · refine ⟨o, v, d, ho, hd, ?_, hbd⟩
        obtain ⟨o2, ho2, hsel, hback, _⟩ := c.each j (hs j (by simp)).2
        rw [ho] at ho2; cases ho2
        refine hq.congr hsel fun t htl => ?_
        rw [ht t, hd, put_get, if_neg]
        · intro e; subst e
          -- an operation does not look at its own slot
          exact hself htl
        · intro k hk o' ho' hdk
          -- a later one's slot is not looked at
          obtain ⟨dk, hdk', _, hapk⟩ := c.apart k o' ho' (hs k (by simp [hk])).1
          rw [hdk] at hdk'; cases hdk'
          have hjk := hlt k hk
          have hbit := (hapk j o ho (by omega)).2.1 htl
          exact absurd (c.bit_lt j k (hs j (by simp)).2 (hs k (by simp [hk])).2 hbit) (by omega)
      · exact hi j hj

theorem wp_transfer {o : Oper} {a b : Act} {W : World} {K K' : Act → World → Prop} {Q' : Exit → Act → World → Prop} (he : execOp a.eval o = execOp b.eval o)
    (hK : ∀ a W, K a W → a.defers = []) (h : o.wp P b W K Fs) (hk : ∀ v W', K (b.put o.dst v) W' → K' (a.put o.dst v) W') : o.wp P a W K' Q' := by
  unfold Oper.wp at *
  rw [he]
  generalize (execOp b.eval o).run P W = r at *
  cases r with
  | ok x W' =>
    cases x with
    | value v => exact hk _ _ h
    | skip => exact hk _ _ h
    | enter f args =>
      refine Calls.mono (h : Calls P f args W' _) fun e W'' q => ?_
      cases e with
      | returned v => exact hk _ _ q
      | panicked c => exact q.elim
      | outgrown => obtain ⟨_, _, hq⟩ := q; exact hq.elim
    | row r args => exact Rows.mono (h : Rows P r args W' _) fun v W'' q => hk _ _ q
    | defer d => have := hK _ _ h; rw [put_defers] at this; cases this
    | _ => exact h.elim
  | halt x W' => cases x <;> exact h.elim

/-- where the draw stands: which are done -/
structure At (P : Program) (Q : Exit → Act → World → Prop) (w0 : World) (ro : Hp) (ops : Array Oper) (Mc : Res) (ss : List Nat) (listed : Array Bool) (a : Act) (W : World) : Prop where
  size : listed.size = ops.size
  closed : ∀ j, j < ops.size → listed.getD j true = true → ∀ o, ops[j]? = some o → ∀ e ∈ o.after, Region.binds .any e = true → listed.getD e.on true = true
  rest : ∃ (b : Act) (N : Res) (rem : List Nat) (ro1 : Hp), Hp.le ro ro1 ∧ rem.Nodup ∧ (∀ i ∈ rem, i ∈ ss) ∧ (∀ i ∈ ss, i ∉ rem → listed.getD i true = true) ∧ (∀ i ∈ rem, listed.getD i true = false) ∧
    a.tmps.size = b.tmps.size ∧ a.defers = b.defers ∧
    (∀ t, (∀ i, i < ops.size → i ∉ ss → listed.getD i true = false → ∀ o, ops[i]? = some o → o.dst ≠ some t) → a.tmps[t]? = b.tmps[t]?) ∧
    (∀ i, i < ops.size → i ∉ ss → listed.getD i true = false → ∃ o v d, ops[i]? = some o ∧ o.dst = some d ∧ QV P w0 ro ops Mc o b v ∧ b.tmps[d]? = some v) ∧
    Inv w0 ro1 N W ∧ ∃ nd : Bool, (nd = false → ∀ i, i < ops.size → i ∉ ss → listed.getD i true = true) ∧ DS P Q w0 ops Mc ss rem.length nd rem ro1 b N

theorem getD_tt {l : Array Bool} {i : Nat} (h : l.getD i false = true) : l.getD i true = true := by
  rcases Nat.lt_or_ge i l.size with g | g
  · simp [g] at h ⊢; exact h
  · simp [Array.getElem?_eq_none g] at h

theorem anc_listed {ss : List Nat} (c : Chk ops ss) {l : Array Bool}
    (closed : ∀ j, j < ops.size → l.getD j true = true → ∀ o, ops[j]? = some o → ∀ e ∈ o.after, Region.binds .any e = true → l.getD e.on true = true) :
    ∀ (j k : Nat), j < ops.size → k < ops.size → l.getD j true = true → ((Region.before ops).getD j 0).testBit k = true → l.getD k true = true := by
  intro j
  induction j using Nat.strongRecOn with
  | _ j ih =>
    intro k hj hk hl hb
    obtain ⟨o, ho, _, hback, hc⟩ := c.each j hj
    obtain ⟨e, he, heb, hx⟩ := hc k hk hb
    have hon := closed j hj hl o ho e he heb
    rcases hx with rfl | hx
    · exact hon
    · exact ih e.on (hback e he heb) k (by have := hback e he heb; omega) hk hon hx

theorem quiet_wp {ro1 : Hp} {o : Oper} {a : Act} {v : Value} {N : Res} {W : World} {K : Act → World → Prop} (q : QV P w0 ro ops Mc o a v) (hro : Hp.le ro ro1) (hN : MSub N Mc) (hW : Inv w0 ro1 N W)
    (hk : ∀ W', Inv w0 ro1 N W' → K (a.put o.dst v) W') {i : Nat} (hi : ops[i]? = some o) : wpOp P ops Q i K a W := by
  unfold wpOp
  simp only [hi]
  unfold QV at q
  split
  · rename_i hw
    rw [if_pos hw] at q
    exact .inl (Oper.wp_of_quiet (C := Inv w0 ro1 N) (K := fun a' => ∀ W', Inv w0 ro1 N W' → K a' W') hW (fun _ W' h' k => k W' h') ⟨v, fun W' h' => q ro1 hro N hN W' h', hk⟩)
  · rename_i hw
    rw [if_neg hw] at q
    subst q
    exact hk W hW

theorem DS.msub {ss : List Nat} {nd : Bool} : ∀ {k : Nat} {is : List Nat} {ro : Hp} {a : Act} {N : Res}, DS P Q w0 ops Mc ss k nd is ro a N → nd = true → MSub N Mc
  | 0, _, _, _, _, h => h.1
  | _ + 1, _, _, _, _, h => h.1

theorem listed_self {l : Array Bool} {i : Nat} : (l.setIfInBounds i true).getD i true = true := by
  simp only [Array.getD_eq_getD_getElem?, Array.getElem?_setIfInBounds]
  by_cases g : i < l.size <;> simp [g]

theorem listed_set {l : Array Bool} {i j : Nat} (h : (l.setIfInBounds i true).getD j true = false) : l.getD j true = false ∧ j ≠ i := by
  by_cases e : i = j
  · subst e; rw [listed_self] at h; cases h
  · rw [getD_set_ne true e] at h
    exact ⟨h, fun e' => e e'.symm⟩
theorem listed_set_of {l : Array Bool} {i j : Nat} (h : l.getD j true = true) : (l.setIfInBounds i true).getD j true = true := by
  by_cases e : i = j
  · subst e; exact listed_self
  · rw [getD_set_ne true e]; exact h

theorem At.step {ss : List Nat} (c : Chk ops ss) {l : Array Bool} {a : Act} {W : World} (h : At P Q w0 ro ops Mc ss l a W) {i : Nat} (hr : i ∈ Region.ready .any ops l) :
    wpOp P ops Q i (fun a' W' => At P Q w0 ro ops Mc ss (l.setIfInBounds i true) a' W') a W := by
  obtain ⟨hsz, closed, b, N, rem, ro1, hro, hnodup, hss, hdone, hrem, hz, hdf, hag, hq, hW, nd, hnd0, hS⟩ := h
  rw [mem_ready] at hr
  obtain ⟨hl0, o, ho, hpre⟩ := hr
  have hlt : i < ops.size := (Array.getElem?_eq_some_iff.1 ho).1
  obtain ⟨o2, ho2, hsel, hback, hbits⟩ := c.each i hlt
  rw [ho] at ho2; cases ho2
  have hanc : ∀ k, k < ops.size → ((Region.before ops).getD i 0).testBit k = true → l.getD k true = true := by
    intro k hk hb
    obtain ⟨e, he, heb, hx⟩ := hbits k hk hb
    have hon := getD_tt (hpre e he heb)
    rcases hx with rfl | hx
    · exact hon
    · exact anc_listed c closed e.on k (by have := hback e he heb; omega) hk hon hx
  have closed' : ∀ j, j < ops.size → (l.setIfInBounds i true).getD j true = true → ∀ o, ops[j]? = some o → ∀ e ∈ o.after, Region.binds .any e = true → (l.setIfInBounds i true).getD e.on true = true := by
    intro j hj hlj o' ho' e he heb
    by_cases e1 : j = i
    · subst e1; rw [ho] at ho'; cases ho'
      exact listed_set_of (getD_tt (hpre e he heb))
    · rw [getD_set_ne true (Ne.symm e1)] at hlj
      exact listed_set_of (closed j hj hlj o' ho' e he heb)
  -- the slots that it looks at stand as in the full frame
  have hlook : ∀ t ∈ o.looksAt ops, a.tmps[t]? = b.tmps[t]? := by
    intro t ht
    refine hag t fun k hk hks hkl ok hok hdk => ?_
    obtain ⟨d, hd, hself, hap⟩ := c.apart k ok hok hks
    rw [hdk] at hd; cases hd
    by_cases e : i = k
    · subst e; rw [ho] at hok; cases hok; exact hself ht
    · have := hanc k hk ((hap i o ho e).2.1 ht)
      rw [hkl] at this; cases this
  have hlook' := fun t ht => (hlook t ht).symm
  by_cases hs : i ∈ ss
  · -- one of those that stand last: the next one
    have hir : i ∈ rem := by
      rcases Decidable.em (i ∈ rem) with x | x
      · exact x
      · have := hdone i hs x; rw [hl0] at this; cases this
    have hmin : i ∈ mins ops rem := by
      refine List.mem_filter.2 ⟨hir, List.all_eq_true.2 fun j hj => ?_⟩
      cases hb : ((Region.before ops).getD i 0).testBit j with
      | false => rfl
      | true => have := hanc j (c.lt j (hss j hj)) hb; rw [hrem j hj] at this; cases this
    obtain ⟨len, hlen⟩ : ∃ len, rem.length = len + 1 := by cases rem with | nil => cases hir | cons s is => exact ⟨is.length, rfl⟩
    rw [hlen] at hS
    obtain ⟨hN, hS⟩ := hS
    obtain ⟨o4, ho4, hop⟩ := hS i hmin
    rw [ho] at ho4; cases ho4
    have hel : (rem.erase i).length = len := by rw [List.length_erase_of_mem hir]; omega
    have hne : i ∉ rem.erase i := fun h => (hnodup.mem_erase_iff.1 h).1 rfl
    rw [← hel] at hop
    obtain ⟨hex, hwa⟩ := looks_congr (a := a) (b := b) hsel hlook
    -- what holds behind it
    have hnd1 : (nd && !fullB ops ss i) = false → ∀ k, k < ops.size → k ∉ ss → (l.setIfInBounds i true).getD k true = true := by
      intro hx k hk hks
      refine listed_set_of ?_
      cases hnd2 : nd with
      | false => exact hnd0 hnd2 k hk hks
      | true =>
        rw [hnd2] at hx
        simp only [Bool.true_and, Bool.not_eq_false'] at hx
        have := List.all_eq_true.1 hx k (List.mem_range.2 hk)
        simp only [Bool.or_eq_true, List.contains_iff_mem] at this
        exact hanc k hk (this.resolve_left hks)
    have after : ∀ v W' ro2 N', Hp.le ro1 ro2 → Inv w0 ro2 N' W' → DS P Q w0 ops Mc ss (rem.erase i).length (nd && !fullB ops ss i) (rem.erase i) ro2 (b.put o.dst v) N' → At P Q w0 ro ops Mc ss (l.setIfInBounds i true) (a.put o.dst v) W' := by
      intro v W' ro2 N' hro2 hW' hS'
      refine ⟨by simpa using hsz, closed', b.put o.dst v, N', rem.erase i, ro2, Hp.le_trans hro hro2, hnodup.erase i, fun j hj => hss j (List.mem_of_mem_erase hj), ?_, ?_, by rw [put_size, put_size]; exact hz, by rw [put_defers, put_defers]; exact hdf, ?_, ?_, hW', _, hnd1, hS'⟩
      · intro j hj hn
        by_cases e : j = i
        · subst e; exact listed_self
        · exact listed_set_of (hdone j hj fun h => hn (hnodup.mem_erase_iff.2 ⟨e, h⟩))
      · intro j hj
        have hj2 : j ≠ i := by intro e; subst e; exact hne hj
        rw [getD_set_ne true (Ne.symm hj2)]
        exact hrem j (List.mem_of_mem_erase hj)
      · intro t ht
        cases hd : o.dst with
        | none =>
          rw [put_none_tmps, put_none_tmps]
          exact hag t fun k hk hks hkl ok hok => ht k hk hks (by rw [getD_set_ne true (by intro e; subst e; exact hks hs)]; exact hkl) ok hok
        | some d =>
          rw [put_get, put_get, hz]
          by_cases e : d = t
          · rw [if_pos e, if_pos e]
          · rw [if_neg e, if_neg e]
            exact hag t fun k hk hks hkl ok hok => ht k hk hks (by rw [getD_set_ne true (by intro e; subst e; exact hks hs)]; exact hkl) ok hok
      · intro k hk hks hkl
        obtain ⟨hkl0, hki⟩ := listed_set hkl
        obtain ⟨ok, v', d', hok, hdk, hqv, hbd⟩ := hq k hk hks hkl0
        obtain ⟨d2, hd2, hself, hap⟩ := c.apart k ok hok hks
        rw [hdk] at hd2; cases hd2
        obtain ⟨h1, h2, h3⟩ := hap i o ho (Ne.symm hki)
        obtain ⟨ok2, hok2, hselk, _, _⟩ := c.each k hk
        rw [hok] at hok2; cases hok2
        refine ⟨ok, v', d', hok, hdk, hqv.congr hselk fun t htl => ?_, ?_⟩
        · cases hd : o.dst with
          | none => rw [put_none_tmps]
          | some d =>
            rw [put_get, if_neg]
            intro e; subst e
            have := hanc k hk (h3 hs d hd htl)
            rw [hkl0] at this; cases this
        · cases hd : o.dst with
          | none => rw [put_none_tmps]; exact hbd
          | some d =>
            rw [put_get, if_neg]
            · exact hbd
            · intro e; subst e; exact h1 hd
    unfold wpOp
    simp only [ho]
    by_cases hw : Region.wanted o (yielded ops b.tmps) = true
    · rw [if_pos (by rw [hwa]; exact hw)]
      rw [if_pos hw] at hop
      refine .inl (wp_transfer hex (fun _ _ h => h.1) (hop W hW) ?_)
      rintro v W' ⟨_, ro2, N', hro2, hW', hS'⟩
      exact after v W' ro2 N' hro2 hW' hS'
    · rw [if_neg (by rw [hwa]; exact hw)]
      rw [if_neg hw] at hop
      exact after undef W ro1 N (Hp.le_refl _) hW hop
  · -- a quiet one
    obtain ⟨o5, v, d, ho5, hd, hqv, hbd⟩ := hq i hlt hs hl0
    rw [ho] at ho5; cases ho5
    have hqa : QV P w0 ro ops Mc o a v := hqv.congr hsel hlook'
    have hndt : nd = true := by
      cases hx : nd with
      | true => rfl
      | false => have := hnd0 hx i hlt hs; rw [hl0] at this; cases this
    refine quiet_wp hqa hro (hS.msub hndt) hW (fun W' hW' => ?_) ho
    refine ⟨by simpa using hsz, closed', b, N, rem, ro1, hro, hnodup, hss, fun j hj hn => listed_set_of (hdone j hj hn), ?_, by rw [put_size]; exact hz, by rw [put_defers]; exact hdf, ?_, ?_, hW', nd, (fun hx => by rw [hndt] at hx; cases hx), hS⟩
    · intro j hj
      have : j ≠ i := by intro e; subst e; exact hs (hss _ hj)
      rw [getD_set_ne true (Ne.symm this)]; exact hrem j hj
    · intro t ht
      rw [hd, put_get]
      by_cases e : d = t
      · subst e
        have hdl : d < b.tmps.size := (Array.getElem?_eq_some_iff.1 hbd).1
        rw [if_pos rfl, if_pos (by rw [hz]; exact hdl), hbd]
      · rw [if_neg e]
        refine hag t fun k hk hks hkl ok hok hdk => ?_
        by_cases e2 : k = i
        · subst e2; rw [ho] at hok; cases hok; rw [hd] at hdk; cases hdk; exact e rfl
        · exact ht k hk hks (by rw [getD_set_ne true (Ne.symm e2)]; exact hkl) ok hok hdk
    · intro k hk hks hkl
      exact hq k hk hks (listed_set hkl).1

theorem At.go {ss : List Nat} (c : Chk ops ss) : ∀ (fuel : Nat) (l : Array Bool) (a : Act) (W : World), At P Q w0 ro ops Mc ss l a W →
    ((List.range ops.size).filter fun i => !l.getD i true).length = fuel → wpAny P .any ops Q fuel l a W := by
  intro fuel
  induction fuel with
  | zero =>
    intro l a W h hf
    have hall : ∀ i, i < ops.size → l.getD i true = true := by
      intro i hi
      cases hx : l.getD i true with
      | true => rfl
      | false =>
        have : i ∈ (List.range ops.size).filter fun i => !l.getD i true := List.mem_filter.2 ⟨List.mem_range.2 hi, by simp [hx]⟩
        rw [List.length_eq_zero_iff.1 hf] at this; cases this
    refine ⟨?_, ?_⟩
    · cases hr : Region.ready .any ops l with
      | nil => rfl
      | cons j js =>
        have : j ∈ Region.ready .any ops l := by rw [hr]; simp
        rw [mem_ready] at this
        obtain ⟨h0, o, ho, _⟩ := this
        rw [hall j (Array.getElem?_eq_some_iff.1 ho).1] at h0; cases h0
    · obtain ⟨hsz, closed, b, N, rem, ro1, hro, hnodup, hss, hdone, hrem, hz, hdf, hag, hq, hW, nd, _, hS⟩ := h
      cases rem with
      | cons s is =>
        have := hrem s (by simp)
        rw [hall s (c.lt s (hss s (by simp)))] at this; cases this
      | nil =>
        have hab : a = b := by
          have ht : a.tmps = b.tmps := by
            apply Array.ext_getElem?
            intro t
            exact hag t fun i hi _ hl => by rw [hall i hi] at hl; cases hl
          cases a; cases b; simp at ht hdf; subst ht; subst hdf; rfl
        subst hab
        exact hS.2 W hW
  | succ fuel ih =>
    intro l a W h hf
    refine ⟨fun hr => ?_, fun i hi => ?_⟩
    · exfalso
      have hne : (List.range ops.size).filter (fun i => !l.getD i true) ≠ [] := by intro e; rw [e] at hf; simp at hf
      obtain ⟨x, hx⟩ := List.exists_mem_of_ne_nil _ hne
      obtain ⟨m, hm, hmin⟩ := least_ex (p := fun i => i < ops.size ∧ l.getD i true = false) x (by
        have := List.mem_filter.1 hx
        exact ⟨List.mem_range.1 this.1, by simpa using this.2⟩)
      obtain ⟨o, ho, _, hback, _⟩ := c.each m hm.1
      have : m ∈ Region.ready .any ops l := by
        rw [mem_ready]
        refine ⟨hm.2, o, ho, fun e he heb => ?_⟩
        have hlt := hback e he heb
        have hsz := h.size
        have hlm : e.on < l.size := by have := hm.1; omega
        cases hx : l.getD e.on true with
        | true => simp [hlm] at hx ⊢; exact hx
        | false => exact absurd (hmin e.on ⟨by have := hm.1; omega, hx⟩) (by omega)
      rw [hr] at this; cases this
    · refine wpOp_mono (fun a' W' hA => ih _ a' W' hA ?_) (h.step c hi)
      rw [mem_ready] at hi
      obtain ⟨h0, o, ho, _⟩ := hi
      have hlt : i < ops.size := (Array.getElem?_eq_some_iff.1 ho).1
      have hil : i < l.size := by rw [h.size]; exact hlt
      have key : ∀ (L : List Nat), L.Nodup → i ∈ L → (L.filter fun j => !l.getD j true).length = (L.filter fun j => !(l.setIfInBounds i true).getD j true).length + 1 := by
        intro L
        induction L with
        | nil => intro _ h; cases h
        | cons x L ihL =>
          intro hnd hm
          obtain ⟨hx, hnd'⟩ := List.nodup_cons.1 hnd
          by_cases e : x = i
          · subst e
            have hsame : ∀ j ∈ L, (l.setIfInBounds x true).getD j true = l.getD j true := fun j hj => getD_set_ne true (by intro e; subst e; exact hx hj)
            rw [List.filter_cons_of_pos (by simp [h0]), List.filter_cons_of_neg (by rw [listed_self]; simp), List.length_cons]
            rw [List.filter_congr (q := fun j => !(l.setIfInBounds x true).getD j true) fun j hj => by rw [hsame j hj]]
          · have hm' : i ∈ L := by rcases List.mem_cons.1 hm with y | y; exact absurd y.symm e; exact y
            have := ihL hnd' hm'
            have hxx : (l.setIfInBounds i true).getD x true = l.getD x true := getD_set_ne true (Ne.symm e)
            by_cases hy : l.getD x true = true
            · rw [List.filter_cons_of_neg (by simp only [hy]; simp), List.filter_cons_of_neg (by rw [hxx, hy]; simp)]; exact this
            · rw [List.filter_cons_of_pos (by simpa using hy), List.filter_cons_of_pos (by rw [hxx]; simpa using hy), List.length_cons, List.length_cons, this]
      have := key (List.range ops.size) List.nodup_range (List.mem_range.2 hlt)
      omega

/- the same over slots as a list -/
/-- quiet operations one behind the other -/
def DE (P : Program) (n : Nat) (w0 : World) (ro : Hp) (ops : Array Oper) (Mc : Res) (K : Env → Prop) : List Nat → Env → Prop
  | [], E => K E
  | i :: is, E => ∃ d v, Nat.blt d n = true ∧ (∀ a, Fits n E a → ∃ o, ops[i]? = some o ∧ o.dst = some d ∧ QV P w0 ro ops Mc o a v) ∧ DE P n w0 ro ops Mc K is ((d, v) :: E)
theorem DE.dq {K : Env → Prop} {K' : Act → Prop} (hK : ∀ E a, Fits n E a → K E → K' a) : ∀ (is : List Nat) (E : Env) (a : Act), Fits n E a → DE P n w0 ro ops Mc K is E → DQ P w0 ro ops Mc K' is a
  | [], E, a, f, h => hK E a f h
  | i :: is, E, a, f, ⟨d, v, hd, h1, h2⟩ => by
    obtain ⟨o, ho, hdst, hq⟩ := h1 a f
    refine ⟨o, v, d, ho, hdst, ?_, hq, ?_⟩
    · rw [f.size]; simpa [Nat.blt_eq] using hd
    · rw [hdst]; exact DE.dq hK is _ _ (f.put v hd) h2
/-- the others one behind the other -/
def DT (P : Program) (Q : Exit → Act → World → Prop) (n : Nat) (w0 : World) (ro : Hp) (ops : Array Oper) (Mc : Res) (ss : List Nat) (nd : Bool) (is : List Nat) (E : Env) (M : Res) : Prop :=
  ∀ a, Fits n E a → DS P Q w0 ops Mc ss is.length nd is ro a M

theorem C.draw {id : Nat} {E : Env} {M : Res} (ss qs : List Nat) (Mc : Res) {l : List Oper} (hm : P.follows .mixedOrders = true) (hB : spineB l.toArray ss = true)
    (hqs : (List.range l.toArray.size).filter (fun i => !ss.contains i) = qs)
    (h : DE P n w0 ro l.toArray Mc (fun E' => DT P Q n w0 ro l.toArray Mc ss true ss E' M) qs E) : C P Q n w0 ro (.region id l.toArray true) E M := by
  intro a W f iv
  have c := Chk.of hB
  refine wp_region_any hm (At.go (w0 := w0) (ro := ro) (Mc := Mc) c _ _ _ _ ?_ (by
    rw [List.filter_eq_self.2]
    · simp
    · intro i hi
      have : i < l.length := by simpa using hi
      simp [this]))
  have hdq := DE.dq (K' := fun a' => DS P Q w0 l.toArray Mc ss ss.length true ss ro a' M) (fun E' a' f' k => k a' f') qs E a f h
  obtain ⟨b, hK, hz, hdf, ht, hi⟩ := DQ.fin c qs a (by
    rw [← hqs]
    intro i hi
    have := List.mem_filter.1 hi
    exact ⟨by simpa using this.2, by simpa using this.1⟩) (by rw [← hqs]; exact List.Pairwise.filter _ List.pairwise_lt_range) hdq
  refine ⟨by simp, ?_, b, M, ss, ro, Hp.le_refl _, c.nodup, fun _ h => h, fun i hi hn => absurd hi hn, ?_, hz.symm, hdf.symm, ?_, ?_, iv.drew, true, fun h => (by cases h), hK⟩
  · intro j hj hl
    have : j < l.length := by simpa using hj
    simp [this] at hl
  · intro i hi
    have : i < l.length := by simpa using c.lt i hi
    simp [this]
  · intro t hall
    refine (ht t fun i hi o ho => ?_).symm
    rw [← hqs] at hi
    have hmem := List.mem_filter.1 hi
    have hlt : i < l.toArray.size := List.mem_range.1 hmem.1
    exact hall i hlt (by simpa using hmem.2) (by have : i < l.length := by simpa using hlt
                                                 simp [this]) o ho
  · intro i hlt hns _
    exact hi i (by rw [← hqs]; exact List.mem_filter.2 ⟨List.mem_range.2 hlt, by simpa using hns⟩)

theorem C.drawM {id : Nat} {E : Env} {M : Res} (ss qs : List Nat) {l : List Oper} (hm : P.follows .mixedOrders = true) (hB : spineB l.toArray ss = true)
    (hqs : (List.range l.toArray.size).filter (fun i => !ss.contains i) = qs)
    (h : DE P n w0 ro l.toArray M (fun E' => DT P Q n w0 ro l.toArray M ss true ss E' M) qs E) : C P Q n w0 ro (.region id l.toArray true) E M := C.draw ss qs M hm hB hqs h
section
variable {E : Env} {M : Res} {is : List Nat} {K : Env → Prop}
theorem DE.nil (h : K E) : DE P n w0 ro ops Mc K [] E := h
/-- a quiet operation, carried out -/
theorem DE.q {i : Nat} {o : Oper} {d : Nat} {v : Value} (hi : ops[i]? = some o) (hg : o.guard = none) (hd : o.dst = some d) (hn : Nat.blt d n = true) (hy : V P n w0 ro E Mc o v)
    (h : DE P n w0 ro ops Mc K is ((d, v) :: E)) : DE P n w0 ro ops Mc K (i :: is) E :=
  ⟨d, v, hn, fun a f => ⟨o, hi, hd, by
    unfold QV
    rw [if_pos (by simp [Region.wanted, hg])]
    intro ro1 hro N hN W hW
    rw [hy a W f ((hW.up hro).sub hN)]
    exact ⟨rfl, rfl⟩⟩, h⟩
theorem DE.call {i : Nat} {dst : Option Tmp} {ty : TypeId} {pos : String} {af : Array Edge} {g : Option (Nat × Bool)} {d : Nat} {v : Value} {F : FuncId} {l : List Operand} {vs : List Value} {ts : Array TypeId}
    (hi : ops[i]? = some ⟨dst, .call { callee := .value (.func F), args := l.toArray, argTypes := ts }, ty, pos, af, g⟩) (hg : g = none) (hd : dst = some d) (hn : Nat.blt d n = true)
    (hT : Tx P F) (hx : opnds E l = some vs) (hc : ∀ N, MSub N Mc → Pu P F vs.toArray w0 ro N v)
    (h : DE P n w0 ro ops Mc K is ((d, v) :: E)) : DE P n w0 ro ops Mc K (i :: is) E :=
  ⟨d, v, hn, fun a f => ⟨_, hi, hd, by
    unfold QV
    rw [if_pos (by simp [Region.wanted, hg])]
    intro ro1 hro N hN W hW
    rw [run_call f hx hT]
    exact ⟨rfl, Pu.up hc hro hN W hW⟩⟩, h⟩
/-- a guarded one: carried out, or not -/
theorem yielded_of {a : Act} {j s : Nat} {b : Bool} (f : Fits n E a) (hj : (ops[j]?).bind (·.dst) = some s) (hb : find E s = some (.bool b)) (hs : Nat.blt s n = true) : yielded ops a.tmps j = some b := by
  have hsn : s < n := by simpa [Nat.blt_eq] using hs
  have hv : a.tmps[s]? = some (.bool b) := by
    have := f.slot s _ hb
    have hz := f.size
    rw [Array.getElem?_eq_getElem (by omega)]
    simp [Array.getD, hz, hsn] at this
    rw [this]
  simp [yielded, hj, hv]
theorem DE.gq {i j s : Nat} {t : Bool} {o : Oper} {d : Nat} {v : Value} (hi : ops[i]? = some o) (hg : o.guard = some (j, t)) (hj : (ops[j]?).bind (·.dst) = some s) (hb : find E s = some (.bool t))
    (hs : Nat.blt s n = true) (hd : o.dst = some d) (hn : Nat.blt d n = true) (hy : V P n w0 ro E Mc o v)
    (h : DE P n w0 ro ops Mc K is ((d, v) :: E)) : DE P n w0 ro ops Mc K (i :: is) E :=
  ⟨d, v, hn, fun a f => ⟨o, hi, hd, by
    unfold QV
    rw [if_pos (by simp [Region.wanted, hg, yielded_of f hj hb hs])]
    intro ro1 hro N hN W hW
    rw [hy a W f ((hW.up hro).sub hN)]
    exact ⟨rfl, rfl⟩⟩, h⟩
theorem DE.gcall {i j s : Nat} {t : Bool} {dst : Option Tmp} {ty : TypeId} {pos : String} {af : Array Edge} {d : Nat} {v : Value} {F : FuncId} {l : List Operand} {vs : List Value} {ts : Array TypeId}
    (hi : ops[i]? = some ⟨dst, .call { callee := .value (.func F), args := l.toArray, argTypes := ts }, ty, pos, af, some (j, t)⟩)
    (hj : (ops[j]?).bind (·.dst) = some s) (hb : find E s = some (.bool t)) (hs : Nat.blt s n = true) (hd : dst = some d) (hn : Nat.blt d n = true)
    (hT : Tx P F) (hx : opnds E l = some vs) (hc : ∀ N, MSub N Mc → Pu P F vs.toArray w0 ro N v)
    (h : DE P n w0 ro ops Mc K is ((d, v) :: E)) : DE P n w0 ro ops Mc K (i :: is) E :=
  ⟨d, v, hn, fun a f => ⟨_, hi, hd, by
    unfold QV
    rw [if_pos (by simp [Region.wanted, yielded_of f hj hb hs])]
    intro ro1 hro N hN W hW
    rw [run_call f hx hT]
    exact ⟨rfl, Pu.up hc hro hN W hW⟩⟩, h⟩
theorem DE.skip {i j s : Nat} {t b : Bool} {o : Oper} {d : Nat} (hi : ops[i]? = some o) (hg : o.guard = some (j, t)) (hj : (ops[j]?).bind (·.dst) = some s) (hb : find E s = some (.bool b)) (hbt : b = !t)
    (hs : Nat.blt s n = true) (hd : o.dst = some d) (hn : Nat.blt d n = true)
    (h : DE P n w0 ro ops Mc K is ((d, undef) :: E)) : DE P n w0 ro ops Mc K (i :: is) E :=
  ⟨d, undef, hn, fun a f => ⟨o, hi, hd, by
    unfold QV
    rw [if_neg (by simp [Region.wanted, hg, yielded_of f hj hb hs, hbt])]⟩, h⟩
theorem DE.sub {E' : Env} (h : DE P n w0 ro ops Mc K is E') (s : Sub E E') (hK : ∀ E E', Sub E E' → K E' → K E) : DE P n w0 ro ops Mc K is E := by
  induction is generalizing E E' with
  | nil => exact hK _ _ s h
  | cons i is ih =>
    obtain ⟨d, v, hd, h1, h2⟩ := h
    refine ⟨d, v, hd, fun a f => h1 a (f.sub s), ih h2 fun k u hk => ?_⟩
    rw [find_cons] at hk ⊢
    by_cases e : d = k
    · simp [e] at hk ⊢; exact hk
    · simp [e] at hk ⊢; exact s k u hk

variable {ss : List Nat} {nd : Bool}
theorem DT.nil (hN : MSub M Mc) (h : Po Q n w0 ro .normal E M) : DT P Q n w0 ro ops Mc ss nd [] E M := fun a f => ⟨fun _ => hN, fun W i => h a W f i⟩
theorem DT.nil' (hN : nd = false) (h : Po Q n w0 ro .normal E M) : DT P Q n w0 ro ops Mc ss nd [] E M := fun a f => ⟨(fun x => by rw [hN] at x; cases x), fun W i => h a W f i⟩
/-- one of those that may be next -/
def DO (P : Program) (Q : Exit → Act → World → Prop) (n : Nat) (w0 : World) (ro : Hp) (ops : Array Oper) (Mc : Res) (ss : List Nat) (nd : Bool) (rem : List Nat) (i : Nat) (E : Env) (M : Res) : Prop :=
  ∀ a, Fits n E a → ∃ o, ops[i]? = some o ∧
    if Region.wanted o (yielded ops a.tmps) then ∀ W, Inv w0 ro M W → o.wp P a W (fun a' W' => a'.defers = [] ∧ ∃ ro' N', Hp.le ro ro' ∧ Inv w0 ro' N' W' ∧ DS P Q w0 ops Mc ss (rem.length - 1) (nd && !fullB ops ss i) (rem.erase i) ro' a' N') Fs
    else DS P Q w0 ops Mc ss (rem.length - 1) (nd && !fullB ops ss i) (rem.erase i) ro (a.put o.dst undef) M
theorem DT.br {rem l : List Nat} (hl : mins ops rem = l) (hk : rem ≠ []) (hN : nd = true → MSub M Mc) (h : ∀ i ∈ l, DO P Q n w0 ro ops Mc ss nd rem i E M) : DT P Q n w0 ro ops Mc ss nd rem E M := fun a f => by
  cases rem with
  | nil => exact absurd rfl hk
  | cons x rem =>
    refine ⟨hN, fun i hi => ?_⟩
    rw [hl] at hi
    exact h i hi a f
theorem DO.o {i : Nat} {o : Oper} {rem rest : List Nat} (he : rem.erase i = rest) (hr : i ∈ rem) (hi : ops[i]? = some o) (hg : o.guard = none)
    (h : ∀ K : Act → World → Prop, (∀ ro' E' M', Hp.le ro ro' → DT P Q n w0 ro' ops Mc ss (nd && !fullB ops ss i) rest E' M' → Kp n w0 ro' K E' M') → JO P Fs n w0 ro K o E M) : DO P Q n w0 ro ops Mc ss nd rem i E M :=
  fun a f => ⟨o, hi, by
    rw [if_pos (by simp [Region.wanted, hg])]
    intro W iv
    have hlen : rem.length - 1 = rest.length := by rw [← he, List.length_erase_of_mem hr]
    rw [he, hlen]
    exact h _ (fun ro' E' M' hl k a' W' f' i' => ⟨f'.defers, ro', M', hl, i', k a' f'⟩) a W f iv⟩
/-- one alone may be next -/
theorem DT.o1 {i : Nat} {o : Oper} (hm : mins ops (i :: is) = [i]) (hN : nd = true → MSub M Mc) (hi : ops[i]? = some o) (hg : o.guard = none)
    (h : ∀ K : Act → World → Prop, (∀ ro' E' M', Hp.le ro ro' → DT P Q n w0 ro' ops Mc ss (nd && !fullB ops ss i) is E' M' → Kp n w0 ro' K E' M') → JO P Fs n w0 ro K o E M) : DT P Q n w0 ro ops Mc ss nd (i :: is) E M :=
  DT.br hm (by simp) hN fun j hj => by
    obtain rfl : j = i := by simpa using hj
    exact DO.o (by simp) (by simp) hi hg h
theorem DT.o {i : Nat} {o : Oper} (hm : mins ops (i :: is) = [i]) (hN : MSub M Mc) (hi : ops[i]? = some o) (hg : o.guard = none)
    (h : ∀ K : Act → World → Prop, (∀ ro' E' M', Hp.le ro ro' → DT P Q n w0 ro' ops Mc ss (nd && !fullB ops ss i) is E' M' → Kp n w0 ro' K E' M') → JO P Fs n w0 ro K o E M) : DT P Q n w0 ro ops Mc ss nd (i :: is) E M :=
  DT.o1 hm (fun _ => hN) hi hg h
theorem DT.o' {i : Nat} {o : Oper} (hm : mins ops (i :: is) = [i]) (hN : nd = false) (hi : ops[i]? = some o) (hg : o.guard = none)
    (h : ∀ K : Act → World → Prop, (∀ ro' E' M', Hp.le ro ro' → DT P Q n w0 ro' ops Mc ss (nd && !fullB ops ss i) is E' M' → Kp n w0 ro' K E' M') → JO P Fs n w0 ro K o E M) : DT P Q n w0 ro ops Mc ss nd (i :: is) E M :=
  DT.o1 hm (fun x => by rw [hN] at x; cases x) hi hg h
theorem DT.o2 {i j : Nat} {rem : List Nat} (hm : mins ops rem = [i, j]) (hk : rem ≠ []) (hN : MSub M Mc) (h1 : DO P Q n w0 ro ops Mc ss nd rem i E M) (h2 : DO P Q n w0 ro ops Mc ss nd rem j E M) : DT P Q n w0 ro ops Mc ss nd rem E M :=
  DT.br hm hk (fun _ => hN) fun k hk => by
    rcases List.mem_cons.1 hk with rfl | hk
    · exact h1
    · obtain rfl : k = j := by simpa using hk
      exact h2
theorem DT.o2' {i j : Nat} {rem : List Nat} (hm : mins ops rem = [i, j]) (hk : rem ≠ []) (hN : nd = false) (h1 : DO P Q n w0 ro ops Mc ss nd rem i E M) (h2 : DO P Q n w0 ro ops Mc ss nd rem j E M) : DT P Q n w0 ro ops Mc ss nd rem E M :=
  DT.br hm hk (fun x => by rw [hN] at x; cases x) fun k hk => by
    rcases List.mem_cons.1 hk with rfl | hk
    · exact h1
    · obtain rfl : k = j := by simpa using hk
      exact h2
end
end
end Go.Sx
