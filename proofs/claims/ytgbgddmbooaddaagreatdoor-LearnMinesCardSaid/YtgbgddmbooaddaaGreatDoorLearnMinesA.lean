/-
  Ground of the proof of LearnMines, part 1: A small calculus of weakest preconditions of my own, over the model's wp rules: frames as ; The operations of the model, one law each, for the calculus of the file before; The calculus, continued: ways on, new blocks, classes of worlds, slices in memory.
-/
import Derived.WalkKit
import Derived.Deep.QuietTactic
import Derived.OrdersHeld
import Derived.KernelRfl
import Derived.Shelf.Abstract
import Derived.Lib.Strings
import Derived.Laws.AppendOwn
import Derived.Test.YtgbgddmbooaddaaGreatDoorProg
namespace Go.Proofs.YtgbgddmbooaddaaGreatDoor
open Go.RowKit

/-! ### Frames -/

/-- What is known of a frame: slots with their values, the newest first. -/
abbrev Env := List (Nat × Value)

def eget : Env → Nat → Option Value
  | [], _ => none
  | (k, v) :: r, t => bif Nat.beq k t then some v else eget r t

def eev (e : Env) : Operand → Option Value
  | .tmp t => eget e t
  | .const v => some v
  | .global g => some (.pointer (some ⟨g, 0, none⟩))
  | .func f => some (.func (.func f) #[] #[])

def eevs (e : Env) : List Operand → Option (List Value)
  | [] => some []
  | x :: r => match eev e x, eevs e r with
    | some v, some vs => some (v :: vs)
    | _, _ => none

structure Fr (n : Nat) (e : Env) (a : Act) : Prop where
  size : a.tmps.size = n
  nod : a.defers = []
  get : ∀ t v, eget e t = some v → a.tmps.getD t undef = v

theorem Fr.ev {n : Nat} {e : Env} {a : Act} (h : Fr n e a) {x : Operand} {v : Value} (hx : eev e x = some v) : a.eval x = v := by
  cases x with
  | tmp t => exact h.get t v hx
  | const u => simpa [eev, Act.eval] using hx
  | global g => simpa [eev, Act.eval] using hx
  | func f => simpa [eev, Act.eval] using hx

theorem Fr.evs {n : Nat} {e : Env} {a : Act} (h : Fr n e a) : ∀ {xs : List Operand} {vs : List Value}, eevs e xs = some vs → xs.map a.eval = vs
  | [], _, hx => by simp only [eevs, Option.some.injEq] at hx; subst hx; rfl
  | x :: r, vs, hx => by
    simp only [eevs] at hx
    cases h1 : eev e x with
    | none => simp [h1] at hx
    | some v =>
      cases h2 : eevs e r with
      | none => simp [h1, h2] at hx
      | some us =>
        simp only [h1, h2, Option.some.injEq] at hx
        subst hx
        simp [h.ev h1, h.evs h2]

theorem Fr.put {n : Nat} {e : Env} {a : Act} (h : Fr n e a) {d : Nat} (hd : d < n) (v : Value) : Fr n ((d, v) :: e) (a.put (some d) v) := by
  refine ⟨by simp [Act.put, h.size], by simpa [Act.put] using h.nod, fun t u ht => ?_⟩
  simp only [eget, Bool.cond_eq_ite, Nat.beq_eq] at ht
  have hs : d < a.tmps.size := by rw [h.size]; exact hd
  by_cases hdt : d = t
  · subst hdt
    simp only [if_true, Option.some.injEq] at ht
    subst ht
    simp [Act.put, hs]
  · rw [if_neg hdt] at ht
    have := h.get t u ht
    simp only [Act.put, Array.getD_eq_getD_getElem?] at this ⊢
    rw [Array.getElem?_setIfInBounds_ne hdt]
    exact this

/-- The list 'e1' says nothing that 'e' does not say. -/
def Sub (e : Env) : Env → Prop
  | [] => True
  | (k, v) :: r => eget e k = some v ∧ Sub e r

theorem Sub.get {e : Env} : ∀ {e1 : Env}, Sub e e1 → ∀ t v, eget e1 t = some v → eget e t = some v
  | [], _, t, v, h => by simp [eget] at h
  | (k, u) :: r, hs, t, v, h => by
    simp only [eget, Bool.cond_eq_ite, Nat.beq_eq] at h
    by_cases hp : k = t
    · rw [if_pos hp] at h; rw [← hp, hs.1]; exact h
    · rw [if_neg hp] at h; exact hs.2.get t v h

theorem Fr.sub {n : Nat} {e e1 : Env} {a : Act} (h : Fr n e a) (hs : Sub e e1) : Fr n e1 a := ⟨h.size, h.nod, fun t v ht => h.get t v (hs.get t v ht)⟩

/-! ### Judgements -/

/-- From every frame that fits 'e', in every world of the class 'C'. -/
def H (n : Nat) (e : Env) (C : World → Prop) (K : Act → World → Prop) : Prop := ∀ a w, Fr n e a → C w → K a w
/-- The same where no world is in sight. -/
def G (n : Nat) (e : Env) (K : Act → Prop) : Prop := ∀ a, Fr n e a → K a

theorem H.keep {n : Nat} {e : Env} (e1 : Env) {C : World → Prop} {K : Act → World → Prop} (hs : Sub e e1) (h : H n e1 C K) : H n e C K := fun a w hf hc => h a w (hf.sub hs) hc
theorem G.keep {n : Nat} {e : Env} (e1 : Env) {K : Act → Prop} (hs : Sub e e1) (h : G n e1 K) : G n e K := fun a hf => h a (hf.sub hs)
theorem H.cls {n : Nat} {e : Env} {C : World → Prop} (C1 : World → Prop) {K : Act → World → Prop} (hs : ∀ w, C w → C1 w) (h : H n e C1 K) : H n e C K := fun a w hf hc => h a w hf (hs w hc)

/-- Of what was there nothing has turned. -/
abbrev Ext (w w' : World) : Prop := Below w.heap.size w w'
/-- A class that new blocks and draws do not leave. -/
def Stab (C : World → Prop) : Prop := ∀ w w', C w → Ext w w' → C w'

section
variable {P : Program} {n : Nat} {e : Env} {C : World → Prop} {Q : Exit → Act → World → Prop} {ops : Array Oper} {rest : List Oper} {o : Oper}

/-- In every frame that fits 'e' and every world of the class the operation yields 'v', and stays in the class. -/
def Yl (P : Program) (C : World → Prop) (n : Nat) (e : Env) (o : Oper) (v : Value) : Prop :=
  ∀ a w, Fr n e a → C w → Oper.quietUpon P C w v ((execOp a.eval o).run P w)

theorem Yl.val {v : Value} (h : ∀ a w, Fr n e a → C w → (execOp a.eval o).run P w = .ok (.value v) w) : Yl P C n e o v := fun a w hf hc => by
  rw [h a w hf hc]; exact ⟨rfl, rfl⟩

/-! ### Code -/

theorem H.seq {x y : Code} (h : H n e C (x.wp P (Exit.then (y.wp P Q) Q))) : H n e C ((Code.seq x y).wp P Q) := fun a w hf hc => wp_seq (h a w hf hc)
/-- Both ways meet again behind x. -/
theorem H.seqCut {α : Type} {x y : Code} (e1 : α → Env) (C1 : α → World → Prop) (h : H n e C (x.wp P (Exit.then (fun a w => ∃ z, Fr n (e1 z) a ∧ C1 z w) Q))) (h2 : ∀ z, H n (e1 z) (C1 z) (y.wp P Q)) :
    H n e C ((Code.seq x y).wp P Q) := fun a w hf hc => wp_seq (wp_mono (h a w hf hc) fun ex a' w' hq => by
      cases ex with
      | normal => obtain ⟨z, h3, h4⟩ := hq; exact h2 z a' w' h3 h4
      | exit id => exact hq
      | goto l => exact hq
      | ret => exact hq
      | panic c => exact hq
      | outgrown => exact hq)
theorem H.block {id : Nat} {c : Code} (h : H n e C (c.wp P (Exit.inBlock id Q))) : H n e C ((Code.block id c).wp P Q) := fun a w hf hc => wp_block (h a w hf hc)
theorem H.skip (h : H n e C (fun a w => Q .normal a w)) : H n e C (Code.skip.wp P Q) := fun a w hf hc => wp_skip (h a w hf hc)
theorem H.exit {id : Nat} (h : H n e C (fun a w => Q (.exit id) a w)) : H n e C ((Code.exit id).wp P Q) := fun a w hf hc => wp_exit (h a w hf hc)
theorem H.ret (h : H n e C (fun a w => Q .ret a w)) : H n e C (Code.ret.wp P Q) := fun a w hf hc => wp_ret (h a w hf hc)
theorem H.cond {c : Operand} {x y : Code} (b : Bool) (hb : eev e c = some (.bool b)) (ht : b = true → H n e C (x.wp P Q)) (hf : b = false → H n e C (y.wp P Q)) :
    H n e C ((Code.cond c x y).wp P Q) := fun a w hfr hc =>
  wp_cond_split (hfr.ev hb) (fun h => ht h a w hfr hc) (fun h => hf h a w hfr hc)
/-- A loop: 'z' says where it stands; every round ends nearer or leaves. -/
theorem H.loop {α : Type} (e1 : α → Env) (I : α → Prop) (C1 : α → World → Prop) (μ : α → Nat) (z0 : α) {c : Code} (hI : I z0) (h0 : Sub e (e1 z0)) (hC : ∀ w, C w → C1 z0 w)
    (round : ∀ z, I z → H n (e1 z) (C1 z) (c.wp P (Exit.then (fun a w => ∃ z', (I z' ∧ μ z' < μ z) ∧ Fr n (e1 z') a ∧ C1 z' w) Q))) : H n e C ((Code.loop c).wp P Q) := by
  intro a w hf hc b k cs
  have key : ∀ m z a w, μ z = m → I z → Fr n (e1 z) a → C1 z w →
      ∃ ex a' w', Q ex a' w' ∧ Arrives P (lone (b.at a (.code c :: .inLoop c :: k)) cs w) b k cs ex a' w' := by
    intro m
    induction m using Nat.strongRecOn with
    | _ m ih =>
      intro z a w hz hIz hfr hcl
      obtain ⟨ex, a₁, w₁, hq, harr⟩ := round z hIz a w hfr hcl b (.inLoop c :: k) cs
      cases ex with
      | normal =>
        obtain ⟨z', ⟨hI', hlt⟩, hfr', hcl'⟩ := hq
        obtain ⟨e₂, a₂, w₂, hq₂, harr₂⟩ := ih (μ z') (hz ▸ hlt) z' a₁ w₁ rfl hI' hfr' hcl'
        exact ⟨e₂, a₂, w₂, hq₂, .of_steps (Steps.trans harr (.one step_inLoop)) harr₂⟩
      | exit id => exact ⟨_, a₁, w₁, hq, .pass (x := .inLoop c) rfl (fun _ _ => .inl (by simp)) harr⟩
      | goto l => exact ⟨_, a₁, w₁, hq, .pass (x := .inLoop c) rfl (fun _ _ => .inl (by simp)) harr⟩
      | ret => exact ⟨_, a₁, w₁, hq, .pass (x := .inLoop c) rfl (fun _ _ => .inl (by simp)) harr⟩
      | panic ch => exact ⟨_, a₁, w₁, hq, .pass (x := .inLoop c) rfl (fun _ _ => .inl (by simp)) harr⟩
      | outgrown => exact ⟨_, a₁, w₁, hq, .pass (x := .inLoop c) rfl (fun _ _ => .inl (by simp)) harr⟩
  obtain ⟨ex, a', w', hq, harr⟩ := key _ z0 a w rfl hI (hf.sub h0) (hC w hc)
  exact ⟨ex, a', w', hq, .of_steps (.one step_loop) harr⟩

/-! ### Regions in the order of the text -/

theorem H.region {id : Nat} {l : List Oper} (h : H n e C (wpList P l.toArray Q l)) : H n e C ((Code.region id l.toArray false).wp P Q) := fun a w hf hc => wp_region_lit (h a w hf hc)
theorem H.done (h : H n e C (fun a w => Q .normal a w)) : H n e C (wpList P ops Q []) := fun a w hf hc => wpList_nil (h a w hf hc)
/-- One quiet operation. -/
theorem H.q {d : Nat} {v : Value} (hy : Yl P C n e o v) (hg : o.guard = none) (hd : o.dst = some d) (hn : d < n) (h : H n ((d, v) :: e) C (wpList P ops Q rest)) : H n e C (wpList P ops Q (o :: rest)) := by
  intro a w hf hc
  refine wpList_plain hg fun K hK => ?_
  have hq : o.quiet P a (fun u => u = w ∨ C u) (Fr n ((d, v) :: e)) := ⟨v, fun u hu => ?_, hd ▸ hf.put hn v⟩
  · exact Oper.wp_of_quiet (C := fun u => u = w ∨ C u) (.inl rfl) (fun a' w' hw' hK' => hK _ _ (h a' w' hK' (hw'.elim (fun e => e ▸ hc) (fun e => e)))) hq
  · have := hy a u hf (hu.elim (fun e => e ▸ hc) (fun e => e))
    unfold Oper.quietAt
    revert this
    generalize (execOp a.eval o).run P u = r
    intro h1
    cases r with
    | halt x w' => exact h1
    | ok nx w' =>
      cases nx <;> first | exact h1 | exact ⟨h1.1, h1.2.mono fun _ _ hh => ⟨hh.1, .inr hh.2⟩⟩

/-- What stands in the slot of a guarded operation. -/
def gv (g : Bool) (v : Value) : Value := if g then v else undef
/-- 'u' is 'v' where the guard 'g' lets by. -/
def Got (g : Bool) (u v : Value) : Prop := g = true → u = v
theorem Got.refl {g : Bool} {v : Value} : Got g v v := fun _ => rfl
theorem Got.gv {g : Bool} {v : Value} : Got g (gv g v) v := fun h => by simp [YtgbgddmbooaddaaGreatDoor.gv, h]
theorem Got.of {g g' : Bool} {v : Value} (h : g = true → g' = true) : Got g (YtgbgddmbooaddaaGreatDoor.gv g' v) v := fun hg => by simp [YtgbgddmbooaddaaGreatDoor.gv, h hg]

end
end Go.Proofs.YtgbgddmbooaddaaGreatDoor

namespace Go.Proofs.YtgbgddmbooaddaaGreatDoor
open Go.RowKit

section
variable {P : Program} {n : Nat} {e : Env} {C : World → Prop} {d : Option Tmp} {t : TypeId} {p : String} {af : Array Edge} {g : Option (Nat × Bool)}

theorem yl_sub {o : Oper} {v : Value} (e1 : Env) (hs : Sub e e1) (h : Yl P C n e1 o v) : Yl P C n e o v := fun a w hf hc => h a w (hf.sub hs) hc

theorem yl_move {x : Operand} {v : Value} (hx : eev e x = some v) : Yl P C n e ⟨d, .move x, t, p, af, g⟩ v :=
  Yl.val fun a w hf _ => by simp [execOp, hf.ev hx]
theorem yl_assign {x : Operand} {v : Value} (hx : eev e x = some v) : Yl P C n e ⟨d, .assign x, t, p, af, g⟩ v :=
  Yl.val fun a w hf _ => by simp [execOp, hf.ev hx]

section
variable {k : IntKind} {a b : Int} {x y : Operand} {tx ty : TypeId}
theorem yl_lss (hx : eev e x = some (.int k a)) (hy : eev e y = some (.int k b)) : Yl P C n e ⟨d, .binOp .lss tx x y ty, t, p, af, g⟩ (.bool (decide (a < b))) :=
  Yl.val fun ac w hf _ => by simp [execOp, hf.ev hx, hf.ev hy, eqGuard, binOp, Op.intCmp]
theorem yl_leq (hx : eev e x = some (.int k a)) (hy : eev e y = some (.int k b)) : Yl P C n e ⟨d, .binOp .leq tx x y ty, t, p, af, g⟩ (.bool (decide (a ≤ b))) :=
  Yl.val fun ac w hf _ => by simp [execOp, hf.ev hx, hf.ev hy, eqGuard, binOp, Op.intCmp]
theorem yl_gtr (hx : eev e x = some (.int k a)) (hy : eev e y = some (.int k b)) : Yl P C n e ⟨d, .binOp .gtr tx x y ty, t, p, af, g⟩ (.bool (decide (b < a))) :=
  Yl.val fun ac w hf _ => by simp [execOp, hf.ev hx, hf.ev hy, eqGuard, binOp, Op.intCmp]
theorem yl_geq (hx : eev e x = some (.int k a)) (hy : eev e y = some (.int k b)) : Yl P C n e ⟨d, .binOp .geq tx x y ty, t, p, af, g⟩ (.bool (decide (b ≤ a))) :=
  Yl.val fun ac w hf _ => by simp [execOp, hf.ev hx, hf.ev hy, eqGuard, binOp, Op.intCmp]
theorem yl_eql (hx : eev e x = some (.int k a)) (hy : eev e y = some (.int k b)) : Yl P C n e ⟨d, .binOp .eql tx x y ty, t, p, af, g⟩ (.bool (decide (a = b))) :=
  Yl.val fun ac w hf _ => by simp [execOp, hf.ev hx, hf.ev hy, eqGuard, binOp, Op.intCmp]; rfl
theorem yl_neq (hx : eev e x = some (.int k a)) (hy : eev e y = some (.int k b)) : Yl P C n e ⟨d, .binOp .neq tx x y ty, t, p, af, g⟩ (.bool (decide (a ≠ b))) :=
  Yl.val fun ac w hf _ => by simp [execOp, hf.ev hx, hf.ev hy, eqGuard, binOp, Op.intCmp, bne]; rfl
end

section
variable {a b : Int} {x y : Operand} {tx ty : TypeId}
theorem yl_add (hx : eev e x = some (.int .i64 a)) (hy : eev e y = some (.int .i64 b)) (c : Int) (hc : a + b = c) (h : -9223372036854775808 ≤ c ∧ c ≤ 9223372036854775807) : Yl P C n e ⟨d, .binOp .add tx x y ty, t, p, af, g⟩ (.int .i64 c) :=
  Yl.val fun ac w hf _ => by simp [execOp, hf.ev hx, hf.ev hy, eqGuard, binOp, Op.intArith, hc, IntWalk.i64_in c h]
theorem yl_sub' (hx : eev e x = some (.int .i64 a)) (hy : eev e y = some (.int .i64 b)) (c : Int) (hc : a - b = c) (h : -9223372036854775808 ≤ c ∧ c ≤ 9223372036854775807) : Yl P C n e ⟨d, .binOp .sub tx x y ty, t, p, af, g⟩ (.int .i64 c) :=
  Yl.val fun ac w hf _ => by simp [execOp, hf.ev hx, hf.ev hy, eqGuard, binOp, Op.intArith, hc, IntWalk.i64_in c h]
theorem yl_mul (hx : eev e x = some (.int .i64 a)) (hy : eev e y = some (.int .i64 b)) (c : Int) (hc : a * b = c) (h : -9223372036854775808 ≤ c ∧ c ≤ 9223372036854775807) : Yl P C n e ⟨d, .binOp .mul tx x y ty, t, p, af, g⟩ (.int .i64 c) :=
  Yl.val fun ac w hf _ => by simp [execOp, hf.ev hx, hf.ev hy, eqGuard, binOp, Op.intArith, hc, IntWalk.i64_in c h]
theorem yl_rem (hx : eev e x = some (.int .i64 a)) (hy : eev e y = some (.int .i64 b)) (hb : b ≠ 0) : Yl P C n e ⟨d, .binOp .rem tx x y ty, t, p, af, g⟩ (.int .i64 (a.tmod b)) :=
  Yl.val fun ac w hf _ => by simp [execOp, hf.ev hx, hf.ev hy, eqGuard, binOp, Op.intDiv, hb]
theorem yl_quo (hx : eev e x = some (.int .i64 a)) (hy : eev e y = some (.int .i64 b)) (hb : b ≠ 0) (h : -9223372036854775808 ≤ a.tdiv b ∧ a.tdiv b ≤ 9223372036854775807) : Yl P C n e ⟨d, .binOp .quo tx x y ty, t, p, af, g⟩ (.int .i64 (a.tdiv b)) :=
  Yl.val fun ac w hf _ => by simp [execOp, hf.ev hx, hf.ev hy, eqGuard, binOp, Op.intDiv, hb, IntWalk.i64_in _ h]
end

section
variable {s1 s2 : ByteArray} {x y : Operand} {tx ty : TypeId}
theorem yl_cat (hx : eev e x = some (.string s1)) (hy : eev e y = some (.string s2)) (h : s1.size + s2.size ≤ 9223372036854775807) : Yl P C n e ⟨d, .binOp .add tx x y ty, t, p, af, g⟩ (.string (s1 ++ s2)) :=
  Yl.val fun ac w hf _ => by
    have h3 : ¬ (((s1.size + s2.size : Nat) : Int) > IntKind.i64.max) := by
      rw [show IntKind.i64.max = 9223372036854775807 from rfl]; omega
    simp only [execOp, hf.ev hx, hf.ev hy, eqGuard, binOp, Op.stringOp, if_neg h3]
    simp
theorem yl_seql (hx : eev e x = some (.string s1)) (hy : eev e y = some (.string s2)) : Yl P C n e ⟨d, .binOp .eql tx x y ty, t, p, af, g⟩ (.bool (s1.toList == s2.toList)) :=
  Yl.val fun ac w hf _ => by simp [execOp, hf.ev hx, hf.ev hy, eqGuard, binOp, Op.stringOp]
theorem yl_sneq (hx : eev e x = some (.string s1)) (hy : eev e y = some (.string s2)) : Yl P C n e ⟨d, .binOp .neq tx x y ty, t, p, af, g⟩ (.bool (!(s1.toList == s2.toList))) :=
  Yl.val fun ac w hf _ => by simp [execOp, hf.ev hx, hf.ev hy, eqGuard, binOp, Op.stringOp]
end

theorem yl_not {x : Operand} {b : Bool} {tx : TypeId} (hx : eev e x = some (.bool b)) : Yl P C n e ⟨d, .unOp .not tx x, t, p, af, g⟩ (.bool (!b)) :=
  Yl.val fun ac w hf _ => by simp [execOp, hf.ev hx, Op.unary]
/-- 'b || x', x under its guard. -/
theorem yl_or {c y : Operand} {b x : Bool} (hc : eev e c = some (.bool b)) (hy : eev e y = some (gv (!b) (.bool x))) : Yl P C n e ⟨d, .pick c (.const (.bool true)) y, t, p, af, g⟩ (.bool (b || x)) :=
  Yl.val fun ac w hf _ => by
    have h1 := hf.ev hc
    have h2 := hf.ev hy
    have h3 : ac.eval (.const (.bool true)) = .bool true := rfl
    simp only [execOp, h1, h2, h3]
    cases b <;> simp [asBool, gv]
/-- 'b && x', x under its guard. -/
theorem yl_and {c y : Operand} {b x : Bool} (hc : eev e c = some (.bool b)) (hy : eev e y = some (gv b (.bool x))) : Yl P C n e ⟨d, .pick c y (.const (.bool false)), t, p, af, g⟩ (.bool (b && x)) :=
  Yl.val fun ac w hf _ => by
    have h1 := hf.ev hc
    have h2 := hf.ev hy
    have h3 : ac.eval (.const (.bool false)) = .bool false := rfl
    simp only [execOp, h1, h2, h3]
    cases b <;> simp [asBool, gv]

theorem yl_or' {c y : Operand} {b x : Bool} (hc : eev e c = some (.bool b)) (hy : eev e y = some (.bool x)) : Yl P C n e ⟨d, .pick c (.const (.bool true)) y, t, p, af, g⟩ (.bool (b || x)) :=
  Yl.val fun ac w hf _ => by
    have h1 := hf.ev hc
    have h2 := hf.ev hy
    have h3 : ac.eval (.const (.bool true)) = .bool true := rfl
    simp only [execOp, h1, h2, h3]
    cases b <;> simp [asBool]
theorem yl_and' {c y : Operand} {b x : Bool} (hc : eev e c = some (.bool b)) (hy : eev e y = some (.bool x)) : Yl P C n e ⟨d, .pick c y (.const (.bool false)), t, p, af, g⟩ (.bool (b && x)) :=
  Yl.val fun ac w hf _ => by
    have h1 := hf.ev hc
    have h2 := hf.ev hy
    have h3 : ac.eval (.const (.bool false)) = .bool false := rfl
    simp only [execOp, h1, h2, h3]
    cases b <;> simp [asBool]

/-- The operands of the parts of a literal. -/
def eevps (e : Env) : List (Nat × Operand) → Option (List (Nat × Value))
  | [] => some []
  | x :: r => match eev e x.2, eevps e r with
    | some v, some vs => some ((x.1, v) :: vs)
    | _, _ => none
theorem Fr.evps {ac : Act} (h : Fr n e ac) : ∀ {xs : List (Nat × Operand)} {vs : List (Nat × Value)}, eevps e xs = some vs → xs.map (fun x => (x.1, ac.eval x.2)) = vs
  | [], _, hx => by simp only [eevps, Option.some.injEq] at hx; subst hx; rfl
  | x :: r, vs, hx => by
    simp only [eevps] at hx
    cases h1 : eev e x.2 with
    | none => simp [h1] at hx
    | some v =>
      cases h2 : eevps e r with
      | none => simp [h1, h2] at hx
      | some us =>
        simp only [h1, h2, Option.some.injEq] at hx
        subst hx
        simp [h.ev h1, h.evps h2]
theorem yl_build {ty : TypeId} {parts : List (Nat × Operand)} {ps : List (Nat × Value)} {v : Value} (hr : ∀ w, (Instr.build ty ps.toArray).run P w = .ok v w) (hx : eevps e parts = some ps) : Yl P C n e ⟨d, .build ty parts.toArray, t, p, af, g⟩ v :=
  Yl.val fun ac w hf _ => by
    have h1 := hf.evps hx
    have h2 : List.map (fun x : Nat × Operand => match x with | (i, x) => (i, ac.eval x)) parts = ps := h1
    simp [execOp, h2, hr w]
theorem yl_mkIface {ty : TypeId} {x : Operand} {v : Value} {ds : TypeDesc} (hu : P.underlying ty = some ds) (hd : (match ds with | .interface _ => true | _ => false) = false) (hx : eev e x = some v) : Yl P C n e ⟨d, .makeInterface ty x, t, p, af, g⟩ (.iface ty v) :=
  Yl.val fun ac w hf _ => by
    cases ds <;> simp_all [execOp, hf.ev hx, Instr.makeInterface, run_underlying hu]
theorem yl_typeAssert {xt ty T : TypeId} {x : Operand} {v z : Value} {ds : TypeDesc} (hu : P.underlying ty = some ds) (hd : (match ds with | .interface _ => true | _ => false) = false) (hz : ∀ w, (zeroValue ty).run P w = .ok z w) (hx : eev e x = some (.iface T v)) :
    Yl P C n e ⟨d, .typeAssert x xt ty true, t, p, af, g⟩ (.tuple #[if T = ty then v else z, .bool (decide (T = ty))]) :=
  Yl.val fun ac w hf _ => by
    by_cases h : T = ty
    · cases ds <;> simp_all [execOp, hf.ev hx, Instr.typeAssert, run_underlying hu]
    · cases ds <;> simp_all [execOp, hf.ev hx, Instr.typeAssert, run_underlying hu, hz w]
/-- 'c == nil' of an interface value that is nil or not. -/
theorem yl_ifaceNil {ty ty' T : TypeId} {x : Operand} {v : Value} {c : Prop} [Decidable c] {ms : Array (String × TypeId)} (hu : P.underlying ty = some (.interface ms)) (hx : eev e x = some (if c then .nilIface else .iface T v)) :
    Yl P C n e ⟨d, .binOp .eql ty x (.const .nilIface) ty', t, p, af, g⟩ (.bool (decide c)) :=
  Yl.val fun ac w hf _ => by
    have h3 : ac.eval (.const .nilIface) = .nilIface := rfl
    have e1 : ∀ k : Nat, (Op.equalIn (k + 1) ty (.iface T v) .nilIface).run P w = .ok false w := fun k => by simp [Op.equalIn, run_underlying hu]
    have e2 : ∀ k : Nat, (Op.equalIn (k + 1) ty .nilIface .nilIface).run P w = .ok true w := fun k => by simp [Op.equalIn, run_underlying hu]
    have f1 : (binOp .eql ty (.iface T v) .nilIface).run P w = .ok (.bool false) w := by
      simp only [binOp]
      simp [Op.equal, Op.maxDepth, e1 9999]
    have f2 : (binOp .eql ty .nilIface .nilIface).run P w = .ok (.bool true) w := by
      simp only [binOp]
      simp [Op.equal, Op.maxDepth, e2 9999]
    simp only [execOp, hf.ev hx, h3]
    by_cases h : c
    · simp only [h, decide_true]
      simp [eqGuard, f2]
    · simp only [h, decide_false]
      simp [eqGuard, f1]

theorem yl_extract {x : Operand} {vs : Array Value} {i : Nat} (v : Value) (hx : eev e x = some (.tuple vs)) (hv : vs[i]? = some v) : Yl P C n e ⟨d, .extract x i, t, p, af, g⟩ v :=
  Yl.val fun ac w hf _ => by simp [execOp, hf.ev hx, Instr.extract, hv]

theorem yl_nilCheck {x : Operand} {a : Addr} (hx : eev e x = some (.pointer (some a))) : Yl P C n e ⟨d, .nilCheck x, t, p, af, g⟩ (.pointer (some a)) :=
  Yl.val fun ac w hf _ => by simp [execOp, hf.ev hx]

theorem add_at (b o k : Nat) : (⟨b, o, none⟩ : Addr).add k = ⟨b, o + k, none⟩ := by
  unfold Addr.add; split <;> simp_all

/-- Field number f of the struct s lies k cells on. -/
def FieldAt (P : Program) (s f k : Nat) : Prop := ∀ (a : Addr) (w : World), (Instr.fieldAt s (.pointer (some a)) f).run P w = .ok (.pointer (some (a.add k))) w
theorem FieldAt.of {s f k : Nat} {fs : Array Field} {fd : Field} {m : Nat} (hs : P.underlying s = some (.struct fs)) (hf : fs[f]? = some fd) (hk : fd.offset = k) (hz : ∀ w, (sizeOf fd.type).run P w = .ok (m + 1) w) : FieldAt P s f k := by
  intro a w
  simp [Instr.fieldAt, run_underlying hs, hf, Instr.sureAddr, fieldPlace, hz, hk]
theorem yl_fieldAddr {x : Operand} {b o s f : Nat} (k : Nat) (hk : FieldAt P s f k) (hx : eev e x = some (.pointer (some ⟨b, o, none⟩))) : Yl P C n e ⟨d, .fieldAddr s x f, t, p, af, g⟩ (.pointer (some ⟨b, o + k, none⟩)) :=
  Yl.val fun ac w hf _ => by simp [execOp, hf.ev hx, hk _ w, add_at]

/-- A variable of one cell. -/
theorem yl_load {x : Operand} {ad : Addr} {ty : TypeId} {v : Value} (hag : ∀ w, (isAgg ty).run P w = .ok false w) (hx : eev e x = some (.pointer (some ad))) (hc : ∀ w, C w → w.cell? ad = some v) : Yl P C n e ⟨d, .load ty x, t, p, af, g⟩ v :=
  Yl.val fun ac w hf hw => by
    simp [execOp, hf.ev hx, Instr.loadAt, Instr.sureAddr, loadVar, hag w, hc w hw]
/-- A variable of several cells. -/
theorem yl_loadAgg {x : Operand} {ad : Addr} {ty : TypeId} {m : Nat} (cs : List Value) (hag : ∀ w, (isAgg ty).run P w = .ok true w) (hsz' : ∀ w, (sizeOf ty).run P w = .ok m w) (hx : eev e x = some (.pointer (some ad)))
    (hc : ∀ w, C w → ∀ j v, cs[j]? = some v → w.cell? (ad.add j) = some v) (hm : cs.length = m) : Yl P C n e ⟨d, .load ty x, t, p, af, g⟩ (.agg cs.toArray) :=
  Yl.val fun ac w hf hw => by
    have hsz : ∀ w, (sizeOf ty).run P w = .ok cs.length w := by rw [hm]; exact hsz'
    simp [execOp, hf.ev hx, Instr.loadAt, Instr.sureAddr, loadVar, hag w, hsz w, run_loadCells_list w ad cs (hc w hw)]

/-- 'x[i]' of a slice. -/
theorem yl_index {x ix : Operand} {b o len cap ty el : Nat} {k : IntKind} {i : Int} (j sz : Nat) (hu : P.underlying ty = some (.slice el)) (hsz : ∀ w, (sizeOf el).run P w = .ok sz w)
    (hx : eev e x = some (.slice (some ⟨b, o, none⟩) len cap)) (hi : eev e ix = some (.int k i)) (hj : i = (j : Int)) (hl : j < len) : Yl P C n e ⟨d, .indexAddr ty x ix, t, p, af, g⟩ (.pointer (some ⟨b, o + j * sz, none⟩)) :=
  Yl.val fun ac w hf hw => by
    subst hj
    simp [execOp, hf.ev hx, hf.ev hi, Instr.indexAt, run_underlying hu, asIntOf, hl, hsz w, add_at]
/-- 's[i]' of a string. -/
theorem yl_sindex {x ix : Operand} {ty : Nat} {s : ByteArray} {k : IntKind} {i : Int} (j : Nat) (c : UInt8) (hu : P.underlying ty = some .string)
    (hx : eev e x = some (.string s)) (hi : eev e ix = some (.int k i)) (hj : i = (j : Int)) (hl : s.data[j]? = some c) : Yl P C n e ⟨d, .index ty x ix, t, p, af, g⟩ (.int .u8 (c.toNat : Int)) :=
  Yl.val fun ac w hf hw => by
    subst hj
    have h2 : s[j]? = some c := by
      rw [← hl]; rfl
    simp [execOp, hf.ev hx, hf.ev hi, Instr.index, run_underlying hu, asIntOf, h2]

theorem yl_len {x : Operand} {ad : Option Addr} {len cap el : Nat} {ty : TypeId} {ats : Array TypeId} (hat : ats[0]? = some ty) (hu : P.underlying ty = some (.slice el)) (hx : eev e x = some (.slice ad len cap)) :
    Yl P C n e ⟨d, .call { callee := .builtin .len, args := #[x], argTypes := ats }, t, p, af, g⟩ (.int .i64 (len : Int)) :=
  Yl.val fun ac w hf hw => by
    simp [execOp, resolve, hf.ev hx, invoke, builtin, Builtin.len_, hat, run_underlying hu, goInt]
theorem yl_slen {x : Operand} {s : ByteArray} {ty : TypeId} {ats : Array TypeId} (hat : ats[0]? = some ty) (hu : P.underlying ty = some .string) (hx : eev e x = some (.string s)) :
    Yl P C n e ⟨d, .call { callee := .builtin .len, args := #[x], argTypes := ats }, t, p, af, g⟩ (.int .i64 (s.size : Int)) :=
  Yl.val fun ac w hf hw => by
    simp [execOp, resolve, hf.ev hx, invoke, builtin, Builtin.len_, hat, run_underlying hu, goInt]

/-- A call whose answer is known and which leaves the class alone. -/
theorem yl_call {f : FuncId} {xs : List Operand} {vs : List Value} {v : Value} {ats : Array TypeId} (hen : ∀ args w, (callFunc f args).run P w = .ok (.enter f args) w) (hst : Stab C) (hx : eevs e xs = some vs)
    (hc : ∀ w, C w → Calls P f vs.toArray w fun en w' => en = .returned v ∧ Ext w w') : Yl P C n e ⟨d, .call { callee := .value (.func f), args := xs.toArray, argTypes := ats }, t, p, af, g⟩ v := by
  intro ac w hf hw
  have h1 : (List.map ac.eval xs) = vs := hf.evs hx
  have : (execOp ac.eval ⟨d, .call { callee := .value (.func f), args := xs.toArray, argTypes := ats }, t, p, af, g⟩).run P w = .ok (.enter f vs.toArray) w := by
    simp [execOp, resolve, h1, Act.eval, Deferred.ofValue, invoke, hen]
  rw [this]
  exact ⟨rfl, (hc w hw).mono fun en w' hh => ⟨hh.1, hst w w' hw hh.2⟩⟩
end

section
variable {P : Program} {n : Nat} {e : Env} {C : World → Prop} {d : Option Tmp} {t : TypeId} {p : String} {af : Array Edge} {g : Option (Nat × Bool)}
theorem str_toList (l : List UInt8) : (⟨l.toArray⟩ : ByteArray).toList = l := by rw [Lib.toList_data]
theorem beqL (l1 l2 : List UInt8) : (l1 == l2) = decide (l1 = l2) := by
  by_cases h : l1 = l2 <;> simp [h]
theorem yl_seqlL {x y : Operand} {tx ty : TypeId} {l1 l2 : List UInt8} (hx : eev e x = some (.string ⟨l1.toArray⟩)) (hy : eev e y = some (.string ⟨l2.toArray⟩)) : Yl P C n e ⟨d, .binOp .eql tx x y ty, t, p, af, g⟩ (.bool (decide (l1 = l2))) := by
  have h := yl_seql (P := P) (n := n) (C := C) (d := d) (t := t) (p := p) (af := af) (g := g) (tx := tx) (ty := ty) hx hy
  rw [str_toList, str_toList, beqL] at h
  exact h
theorem yl_sneqL {x y : Operand} {tx ty : TypeId} {l1 l2 : List UInt8} (hx : eev e x = some (.string ⟨l1.toArray⟩)) (hy : eev e y = some (.string ⟨l2.toArray⟩)) : Yl P C n e ⟨d, .binOp .neq tx x y ty, t, p, af, g⟩ (.bool (!decide (l1 = l2))) := by
  have h := yl_sneq (P := P) (n := n) (C := C) (d := d) (t := t) (p := p) (af := af) (g := g) (tx := tx) (ty := ty) hx hy
  rw [str_toList, str_toList, beqL] at h
  exact h
theorem yl_catL {x y : Operand} {tx ty : TypeId} {l1 l2 : List UInt8} (hx : eev e x = some (.string ⟨l1.toArray⟩)) (hy : eev e y = some (.string ⟨l2.toArray⟩)) (h : l1.length + l2.length ≤ 9223372036854775807) : Yl P C n e ⟨d, .binOp .add tx x y ty, t, p, af, g⟩ (.string ⟨(l1 ++ l2).toArray⟩) := by
  have h := yl_cat (P := P) (n := n) (C := C) (d := d) (t := t) (p := p) (af := af) (g := g) (tx := tx) (ty := ty) hx hy (by simpa [ByteArray.size] using h)
  have e1 : (⟨l1.toArray⟩ : ByteArray) ++ ⟨l2.toArray⟩ = ⟨(l1 ++ l2).toArray⟩ := by
    apply ByteArray.ext
    simp [ByteArray.data_append]
  rw [e1] at h
  exact h
/-- A method's value on an interface value. -/
theorem yl_makeMethod {nm : String} {x : Operand} {v : Value} (hx : eev e x = some v) : Yl P C n e ⟨d, .makeFunc (.method nm) #[x] #[], t, p, af, g⟩ (.func (.method nm) #[v] #[]) :=
  Yl.val fun ac w hf _ => by simp [execOp, Instr.makeFunc, hf.ev hx]
theorem yl_nilCheckM {nm : String} {x : Operand} {T : TypeId} {v : Value} (hx : eev e x = some (.func (.method nm) #[.iface T v] #[])) (hna : ∀ w, (nilAhead (P.types.size + Made.depth) T v nm).run P w = .ok (some false) w) :
    Yl P C n e ⟨d, .nilCheck x, t, p, af, g⟩ (.func (.method nm) #[.iface T v] #[]) :=
  Yl.val fun ac w hf _ => by simp [execOp, hf.ev hx, hna w]
theorem yl_invoke {nm : String} {x : Operand} {T : TypeId} {u rv v : Value} {f : FuncId} {xs : List Operand} {vs : List Value} {ats : Array TypeId} (hx : eev e x = some (.iface T u)) (hm : ∀ w, (method (P.types.size + Made.depth) T u nm).run P w = .ok (f, rv) w)
    (hen : ∀ args w, (callFunc f args).run P w = .ok (.enter f args) w) (hst : Stab C) (hxs : eevs e xs = some vs) (hc : ∀ w, C w → Calls P f (rv :: vs).toArray w fun en w' => en = .returned v ∧ Ext w w') :
    Yl P C n e ⟨d, .call { callee := .invoke x nm, args := xs.toArray, argTypes := ats }, t, p, af, g⟩ v := by
  intro ac w hfr hw
  have h1 : (List.map ac.eval xs) = vs := hfr.evs hxs
  have h2 := hfr.ev hx
  have : (execOp ac.eval ⟨d, .call { callee := .invoke x nm, args := xs.toArray, argTypes := ats }, t, p, af, g⟩).run P w = .ok (.enter f (rv :: vs).toArray) w := by
    simp [execOp, resolve, h1, h2, invoke, callMethod, hm w, hen]
  rw [this]
  exact ⟨rfl, (hc w hw).mono fun en w' hh => ⟨hh.1, hst w w' hw hh.2⟩⟩
/-- A call of a function value. -/
theorem yl_callv {f : FuncId} {x : Operand} {xs : List Operand} {vs caps : List Value} {v : Value} {ats : Array TypeId} (hen : ∀ args w, (callFunc f args).run P w = .ok (.enter f args) w) (hst : Stab C) (hf : eev e x = some (.func (.func f) #[] caps.toArray)) (hx : eevs e xs = some vs)
    (hc : ∀ w, C w → Calls P f (vs ++ caps).toArray w fun en w' => en = .returned v ∧ Ext w w') : Yl P C n e ⟨d, .call { callee := .value x, args := xs.toArray, argTypes := ats }, t, p, af, g⟩ v := by
  intro ac w hfr hw
  have h1 : (List.map ac.eval xs) = vs := hfr.evs hx
  have h2 := hfr.ev hf
  have : (execOp ac.eval ⟨d, .call { callee := .value x, args := xs.toArray, argTypes := ats }, t, p, af, g⟩).run P w = .ok (.enter f (vs ++ caps).toArray) w := by
    simp [execOp, resolve, h1, h2, Deferred.ofValue, invoke, hen]
  rw [this]
  exact ⟨rfl, (hc w hw).mono fun en w' hh => ⟨hh.1, hst w w' hw hh.2⟩⟩
theorem yl_makeFunc {f : FuncId} {xs : List Operand} {vs : List Value} (hx : eevs e xs = some vs) : Yl P C n e ⟨d, .makeFunc (.func f) #[] xs.toArray, t, p, af, g⟩ (.func (.func f) #[] vs.toArray) :=
  Yl.val fun ac w hf _ => by
    have h1 : (List.map ac.eval xs) = vs := hf.evs hx
    simp [execOp, Instr.makeFunc, h1]
end

/-! ### Guards -/
section
variable {P : Program} {n : Nat} {e : Env} {C : World → Prop} {Q : Exit → Act → World → Prop} {ops : Array Oper} {rest : List Oper} {o : Oper}

/-- In every frame that fits: whether the operation is carried out. -/
def Wn (ops : Array Oper) (n : Nat) (e : Env) (o : Oper) (g : Bool) : Prop := ∀ a, Fr n e a → Region.wanted o (yielded ops a.tmps) = g

theorem Fr.yielded {a : Act} (hf : Fr n e a) {j dj : Nat} {v : Value} (hd : (ops[j]?).bind (·.dst) = some dj) (hn : dj < n) (hv : eget e dj = some v) :
    Go.yielded ops a.tmps j = (match v with | .bool b => some b | _ => none) := by
  have h1 := hf.get dj v hv
  have hs : dj < a.tmps.size := by rw [hf.size]; exact hn
  have h2 : a.tmps[dj]? = some v := by
    rw [Array.getElem?_eq_getElem hs]
    rw [← h1]; simp [hs]
  simp only [Go.yielded, hd, Option.bind_some, h2]
  cases v <;> rfl

theorem wn_t {j dj : Nat} {b : Bool} (hg : o.guard = some (j, true)) (hd : (ops[j]?).bind (·.dst) = some dj) (hn : dj < n) (hv : eget e dj = some (.bool b)) : Wn ops n e o b := fun a hf => by
  simp only [Region.wanted, hg, hf.yielded hd hn hv]; cases b <;> rfl
theorem wn_f {j dj : Nat} {b : Bool} (hg : o.guard = some (j, false)) (hd : (ops[j]?).bind (·.dst) = some dj) (hn : dj < n) (hv : eget e dj = some (.bool b)) : Wn ops n e o (!b) := fun a hf => by
  simp only [Region.wanted, hg, hf.yielded hd hn hv]; cases b <;> rfl
theorem wn_gt {j dj : Nat} {g b : Bool} (hg : o.guard = some (j, true)) (hd : (ops[j]?).bind (·.dst) = some dj) (hn : dj < n) (hv : eget e dj = some (gv g (.bool b))) : Wn ops n e o (g && b) := fun a hf => by
  simp only [Region.wanted, hg, hf.yielded hd hn hv]; cases b <;> cases g <;> rfl
theorem wn_gf {j dj : Nat} {g b : Bool} (hg : o.guard = some (j, false)) (hd : (ops[j]?).bind (·.dst) = some dj) (hn : dj < n) (hv : eget e dj = some (gv g (.bool b))) : Wn ops n e o (g && !b) := fun a hf => by
  simp only [Region.wanted, hg, hf.yielded hd hn hv]; cases b <;> cases g <;> rfl

theorem Yl.quiet {v : Value} (hy : Yl P C n e o v) {a : Act} {w : World} (hf : Fr n e a) (hc : C w) {K : Act → Prop} (hK : K (a.put o.dst v)) : o.quiet P a (fun u => u = w ∨ C u) K := by
  refine ⟨v, fun u hu => ?_, hK⟩
  have := hy a u hf (hu.elim (fun e => e ▸ hc) (fun e => e))
  unfold Oper.quietAt
  revert this
  generalize (execOp a.eval o).run P u = r
  intro h1
  cases r with
  | halt x w' => exact h1
  | ok nx w' =>
    cases nx <;> first | exact h1 | exact ⟨h1.1, h1.2.mono fun _ _ hh => ⟨hh.1, .inr hh.2⟩⟩

/-- One quiet operation under a guard. -/
theorem H.qg {d : Nat} {v : Value} {g : Bool} (hw : Wn ops n e o g) (hy : g = true → Yl P C n e o v) (hd : o.dst = some d) (hn : d < n) (h : H n ((d, gv g v) :: e) C (wpList P ops Q rest)) : H n e C (wpList P ops Q (o :: rest)) := by
  intro a w hf hc
  refine wpList_step fun K hK => ?_
  rw [hw a hf]
  cases g with
  | true =>
    simp only [if_true]
    exact Oper.wp_of_quiet (C := fun u => u = w ∨ C u) (.inl rfl) (fun a' w' hw' hK' => hK _ _ (h a' w' hK' (hw'.elim (fun e => e ▸ hc) (fun e => e)))) ((hy rfl).quiet hf hc (K := Fr n ((d, gv true v) :: e)) (hd ▸ hf.put hn v))
  | false =>
    simp only [Bool.false_eq_true, if_false]
    exact hK _ _ (h _ w (hd ▸ hf.put hn undef) hc)

/-! ### Regions that draw their order, all of whose operations are quiet -/

theorem H.regionQ {id : Nat} {l : List Oper} (hm : P.follows .mixedOrders = true) (hB : Region.lexB .any l.toArray = true) (hst : Stab C)
    (h : G n e (wpQuiet P l.toArray C (fun a' => ∀ w', C w' → Q .normal a' w') l)) : H n e C ((Code.region id l.toArray true).wp P Q) := fun a w hf hc =>
  wp_region_quiet (C := C) hm hB (hst w _ hc ⟨rfl, rfl, rfl, Nat.le_refl _, fun _ _ => rfl⟩) (by simpa using h a hf)
theorem G.done (h : H n e C (fun a w => Q .normal a w)) : G n e (wpQuiet P ops C (fun a' => ∀ w', C w' → Q .normal a' w') []) := fun a hf => wpQuiet_nil (fun w hc => h a w hf hc)
theorem G.q {K : Act → Prop} {d : Nat} {v : Value} (hy : Yl P C n e o v) (hg : o.guard = none) (hd : o.dst = some d) (hn : d < n) (h : G n ((d, v) :: e) (wpQuiet P ops C K rest)) : G n e (wpQuiet P ops C K (o :: rest)) := by
  intro a hf
  refine wpQuiet_step fun K hK => ?_
  simp only [Region.wanted, hg, if_true]
  exact ⟨v, fun w hc => hy a w hf hc, hK _ (h _ (hd ▸ hf.put hn v))⟩
theorem G.qg {K : Act → Prop} {d : Nat} {v : Value} {g : Bool} (hw : Wn ops n e o g) (hy : g = true → Yl P C n e o v) (hd : o.dst = some d) (hn : d < n) (h : G n ((d, gv g v) :: e) (wpQuiet P ops C K rest)) : G n e (wpQuiet P ops C K (o :: rest)) := by
  intro a hf
  refine wpQuiet_step fun K hK => ?_
  rw [hw a hf]
  cases g with
  | true =>
    simp only [if_true]
    exact ⟨v, fun w hc => hy rfl a w hf hc, hK _ (h _ (hd ▸ hf.put hn v))⟩
  | false =>
    simp only [Bool.false_eq_true, if_false]
    exact hK _ (h _ (hd ▸ hf.put hn undef))

theorem slT {e : Env} {t : Nat} {g : Bool} {v : Value} (h : eget e t = some (gv g v)) (hg : g = true) : eget e t = some v := by rw [h, hg]; rfl
theorem slA {e : Env} {t : Nat} {g c : Bool} {v : Value} (h : eget e t = some (gv (g && c) v)) (hg : g = true) : eget e t = some (gv c v) := by rw [h, hg]; simp
/-! ### Returning -/
theorem H.ret1 {fn : Func} {R : Ending → World → Prop} {r : Nat} (v : Value) (hr : fn.results = #[.tmp r]) (hv : eget e r = some v) (h : ∀ w, C w → R (.returned v) w) : H n e C (fun a w => bodyPost P fn R .ret a w) := fun a w hf hc =>
  bodyPost_ret (v := v) (by rw [results_tmp hr, hf.get r v hv]) hf.nod (h w hc)
theorem H.ret2 {fn : Func} {R : Ending → World → Prop} {r1 r2 : Nat} (v1 v2 : Value) (hr : fn.results = #[.tmp r1, .tmp r2]) (hv1 : eget e r1 = some v1) (hv2 : eget e r2 = some v2) (h : ∀ w, C w → R (.returned (.tuple #[v1, v2])) w) :
    H n e C (fun a w => bodyPost P fn R .ret a w) := fun a w hf hc =>
  bodyPost_ret (v := .tuple #[v1, v2]) (by rw [results_tmp2 hr, hf.get r1 v1 hv1, hf.get r2 v2 hv2]) hf.nod (h w hc)

theorem results_tmp4' {fn : Func} {t u v x : Tmp} (h : fn.results = #[.tmp t, .tmp u, .tmp v, .tmp x]) (tmps : Array Value) (P : Program) (w : World) :
    (results fn tmps).run P w = .ok (.tuple #[tmps.getD t undef, tmps.getD u undef, tmps.getD v undef, tmps.getD x undef]) w := by simp [results, h]
theorem H.ret4 {fn : Func} {R : Ending → World → Prop} {r1 r2 r3 r4 : Nat} (v1 v2 v3 v4 : Value) (hr : fn.results = #[.tmp r1, .tmp r2, .tmp r3, .tmp r4]) (hv1 : eget e r1 = some v1) (hv2 : eget e r2 = some v2) (hv3 : eget e r3 = some v3) (hv4 : eget e r4 = some v4) (h : ∀ w, C w → R (.returned (.tuple #[v1, v2, v3, v4])) w) :
    H n e C (fun a w => bodyPost P fn R .ret a w) := fun a w hf hc =>
  bodyPost_ret (v := .tuple #[v1, v2, v3, v4]) (by rw [results_tmp4' hr, hf.get r1 v1 hv1, hf.get r2 v2 hv2, hf.get r3 v3 hv3, hf.get r4 v4 hv4]) hf.nod (h w hc)

theorem enterH {f : FuncId} {fn : Func} {c : Code} {args : List Value} {w0 : World} {R : Ending → World → Prop} (e0 : Env) (n : Nat) (hf : P.funcs[f]? = some fn) (hb : fn.body = some c) (hn : fn.ntmps = n)
    (he : ∀ t v, eget e0 t = some v → (args.toArray ++ Array.replicate (n - args.length) undef).getD t undef = v) (hl : args.length ≤ n) (C : World → Prop) (hC : C w0) (h : H n e0 C (c.wp P (bodyPost P fn R))) : Calls P f args.toArray w0 R := by
  refine calls_of_wp hf hb (h _ w0 ⟨?_, rfl, ?_⟩ hC)
  · simp [hn]; omega
  · intro t v ht
    have := he t v ht
    simpa [hn] using this
/-- The slots of the parameters. -/
def argEnv : Nat → List Value → Env
  | _, [] => []
  | k, v :: r => (k, v) :: argEnv (k + 1) r
theorem argEnv_get : ∀ (l : List Value) (k t : Nat) (v : Value), eget (argEnv k l) t = some v → k ≤ t ∧ l[t - k]? = some v
  | [], _, _, _, h => by simp [argEnv, eget] at h
  | u :: r, k, t, v, h => by
    simp only [argEnv, eget, Bool.cond_eq_ite, Nat.beq_eq] at h
    by_cases hk : k = t
    · rw [if_pos hk] at h
      subst hk
      exact ⟨Nat.le_refl _, by simpa using h⟩
    · rw [if_neg hk] at h
      obtain ⟨h1, h2⟩ := argEnv_get r (k + 1) t v h
      refine ⟨by omega, ?_⟩
      rw [show t - k = (t - (k + 1)) + 1 from by omega]
      simpa using h2
theorem getArgs {e0 : Env} {args : List Value} {m t : Nat} {v : Value} (he : e0 = argEnv 0 args) (h : eget e0 t = some v) : (args.toArray ++ Array.replicate m undef).getD t undef = v := by
  subst he
  obtain ⟨_, h2⟩ := argEnv_get args 0 t v h
  simp only [Nat.sub_zero] at h2
  simp only [Array.getD_eq_getD_getElem?]
  rw [Array.getElem?_append_left (by simpa using (List.getElem?_eq_some_iff.1 h2).1)]
  simp [h2]
theorem enterA {f : FuncId} {fn : Func} {c : Code} {args : List Value} {w0 : World} {R : Ending → World → Prop} (n : Nat) (hf : P.funcs[f]? = some fn) (hb : fn.body = some c) (hn : fn.ntmps = n)
    (hl : Nat.ble args.length n = true) (C : World → Prop) (hC : C w0) (h : H n (argEnv 0 args) C (c.wp P (bodyPost P fn R))) : Calls P f args.toArray w0 R :=
  enterH (argEnv 0 args) n hf hb hn (fun _ _ ht => getArgs rfl ht) (Nat.le_of_ble_eq_true hl) C hC h
end
end Go.Proofs.YtgbgddmbooaddaaGreatDoor

namespace Go.Proofs.YtgbgddmbooaddaaGreatDoor
open Go.RowKit

section
variable {P : Program} {n : Nat} {e : Env} {C : World → Prop} {Q : Exit → Act → World → Prop} {K : Act → World → Prop} {ops : Array Oper} {rest : List Oper} {o : Oper}

/-! ### Ways on -/
/-- The code has come to its end. -/
def HN (n : Nat) (e : Env) (C : World → Prop) (Q : Exit → Act → World → Prop) : Prop := H n e C (fun a w => Q .normal a w)
def HR (n : Nat) (e : Env) (C : World → Prop) (Q : Exit → Act → World → Prop) : Prop := H n e C (fun a w => Q .ret a w)
def HX (id : Nat) (n : Nat) (e : Env) (C : World → Prop) (Q : Exit → Act → World → Prop) : Prop := H n e C (fun a w => Q (.exit id) a w)
theorem HN.then (h : H n e C K) : HN n e C (Exit.then K Q) := h
theorem HN.block {id : Nat} (h : HN n e C Q) : HN n e C (Exit.inBlock id Q) := h
theorem HR.then (h : HR n e C Q) : HR n e C (Exit.then K Q) := h
theorem HR.block {id : Nat} (h : HR n e C Q) : HR n e C (Exit.inBlock id Q) := h
theorem HX.then {id : Nat} (h : HX id n e C Q) : HX id n e C (Exit.then K Q) := h
theorem HX.hit {id : Nat} (h : HN n e C Q) : HX id n e C (Exit.inBlock id Q) := fun a w hf hc => by
  show Exit.inBlock id Q (.exit id) a w
  simp only [Exit.inBlock, if_true]
  exact h a w hf hc
theorem HX.miss {id id' : Nat} (hne : id ≠ id') (h : HX id n e C Q) : HX id n e C (Exit.inBlock id' Q) := fun a w hf hc => by
  show Exit.inBlock id' Q (.exit id) a w
  simp only [Exit.inBlock, if_neg hne]
  exact h a w hf hc
theorem HN.done (h : HN n e C Q) : H n e C (wpList P ops Q []) := H.done h
theorem HN.doneG (h : HN n e C Q) : G n e (wpQuiet P ops C (fun a' => ∀ w', C w' → Q .normal a' w') []) := G.done h
theorem HN.skip (h : HN n e C Q) : H n e C (Code.skip.wp P Q) := H.skip h
theorem HR.ret (h : HR n e C Q) : H n e C (Code.ret.wp P Q) := H.ret h
theorem HX.exit {id : Nat} (h : HX id n e C Q) : H n e C ((Code.exit id).wp P Q) := H.exit h
theorem HN.keep (e1 : Env) (hs : Sub e e1) (h : HN n e1 C Q) : HN n e C Q := H.keep e1 hs h
/-- The way on of a round, of a cut. -/
theorem H.at {α : Type} {e1 : α → Env} {C1 : α → World → Prop} {M : α → Prop} (z : α) (hm : M z) (hs : Sub e (e1 z)) (hC : ∀ w, C w → C1 z w) : H n e C (fun a w => ∃ z', M z' ∧ Fr n (e1 z') a ∧ C1 z' w) :=
  fun _ w hf hc => ⟨z, hm, hf.sub hs, hC w hc⟩
theorem H.at' {α : Type} {e1 : α → Env} {C1 : α → World → Prop} (z : α) (hs : Sub e (e1 z)) (hC : ∀ w, C w → C1 z w) : H n e C (fun a w => ∃ z', Fr n (e1 z') a ∧ C1 z' w) :=
  fun _ w hf hc => ⟨z, hf.sub hs, hC w hc⟩
theorem HR.ret1 {fn : Func} {R : Ending → World → Prop} {r : Nat} (v : Value) (hr : fn.results = #[.tmp r]) (hv : eget e r = some v) (h : ∀ w, C w → R (.returned v) w) : HR n e C (bodyPost P fn R) := H.ret1 v hr hv h
theorem HR.ret2 {fn : Func} {R : Ending → World → Prop} {r1 r2 : Nat} (v1 v2 : Value) (hr : fn.results = #[.tmp r1, .tmp r2]) (hv1 : eget e r1 = some v1) (hv2 : eget e r2 = some v2) (h : ∀ w, C w → R (.returned (.tuple #[v1, v2])) w) :
    HR n e C (bodyPost P fn R) := H.ret2 v1 v2 hr hv1 hv2 h
theorem HR.ret4 {fn : Func} {R : Ending → World → Prop} {r1 r2 r3 r4 : Nat} (v1 v2 v3 v4 : Value) (hr : fn.results = #[.tmp r1, .tmp r2, .tmp r3, .tmp r4]) (hv1 : eget e r1 = some v1) (hv2 : eget e r2 = some v2) (hv3 : eget e r3 = some v3) (hv4 : eget e r4 = some v4) (h : ∀ w, C w → R (.returned (.tuple #[v1, v2, v3, v4])) w) :
    HR n e C (bodyPost P fn R) := H.ret4 v1 v2 v3 v4 hr hv1 hv2 hv3 hv4 h

/-! ### Classes -/
theorem Ext.refl (w : World) : Ext w w := Below.refl _ _
theorem Ext.trans {a b c : World} (h : Ext a b) (k : Ext b c) : Ext a c := Below.trans h (k.mono h.size)
theorem blk_ext {w w' : World} (h : Ext w w') {b : Nat} {o : Obj} (hb : w.heap[b]? = some o) : w'.heap[b]? = some o := by
  rw [h.block b (Array.getElem?_eq_some_iff.1 hb).1]; exact hb
theorem blk_lt {w : World} {b : Nat} {o : Obj} (hb : w.heap[b]? = some o) : b < w.heap.size := (Array.getElem?_eq_some_iff.1 hb).1
theorem cell_of_blk {w : World} {b o : Nat} {cs : Array Value} {t : TypeId} {fr : Nat × Nat} {v : Value} (hb : w.heap[b]? = some (.cells cs t fr)) (hv : cs[o]? = some v) : w.cell? ⟨b, o, none⟩ = some v := by
  simp [World.cell?, hb, hv]
theorem lt_of_cell {w : World} {a : Addr} {v : Value} (h : w.cell? a = some v) : a.block < w.heap.size := World.block_lt_of_cell? w a h
theorem cell_ext {w w' : World} (h : Ext w w') {a : Addr} {v : Value} (hc : w.cell? a = some v) : w'.cell? a = some v := by
  rw [h.cell (lt_of_cell hc)]; exact hc
theorem ext_alloc (w : World) (o : Obj) : Ext w (w.alloc o) := (Below.refl _ _).alloc (Nat.le_refl _) o
theorem blk_alloc (w : World) (o : Obj) : (w.alloc o).heap[w.heap.size]? = some o := by
  show (w.heap.push o)[w.heap.size]? = _
  simp
end

/-! ### The memory that a call has made: blocks of its own, rows of its own, blocks that stay as they are -/
/-- A slice that the call owns: it begins at the head of its block. 'sz': cells of an element. -/
structure Rw where
  v : Value
  len : Nat
  el : TypeId
  sz : Nat
  xs : List Value
def Rw.blk (r : Rw) : Option Nat := r.v.ownBlock
def Rw.ok (w : World) (r : Rw) : Prop := w.ownsRow 0 r.el r.sz r.v r.len r.xs
theorem Rw.ok_blk {w w' : World} {r : Rw} (h : r.ok w) (hb : ∀ b, r.blk = some b → w'.heap[b]? = w.heap[b]?) : r.ok w' := by
  obtain ⟨h1, h2 | ⟨g, cap, cur, h3, h4, h5, h6⟩⟩ := h
  · exact ⟨h1, .inl h2⟩
  · exact ⟨h1, .inr ⟨g, cap, cur, h3, h4, by rw [hb g (by simp [Rw.blk, h3, Value.ownBlock])]; exact h5, h6⟩⟩
theorem Rw.lt {w : World} {r : Rw} (h : r.ok w) {b : Nat} (hb : r.blk = some b) : b < w.heap.size := by
  obtain ⟨h1, ⟨h2, _⟩ | ⟨g, cap, cur, h3, h4, h5, h6⟩⟩ := h
  · simp [Rw.blk, h2, Value.ownBlock] at hb
  · simp [Rw.blk, h3, Value.ownBlock] at hb
    subst hb
    exact blk_lt h5

abbrev BP := Nat × (Obj → Prop)
def BP.at (w : World) (p : BP) : Prop := ∃ o, w.heap[p.1]? = some o ∧ p.2 o
def owned (L : List BP) (R : List Rw) : List Nat := L.map (·.1) ++ R.filterMap Rw.blk

structure Hp (w0 : World) (L : List BP) (R : List Rw) (F : List BP) (w : World) : Prop where
  ext : Ext w0 w
  own : ∀ p ∈ L, BP.at w p
  rows : ∀ r ∈ R, r.ok w
  fgn : ∀ p ∈ F, BP.at w p
  nodup : (owned L R).Nodup
  low : ∀ b ∈ owned L R, w0.heap.size ≤ b
  apart : ∀ b ∈ owned L R, ∀ p ∈ F, p.1 ≠ b

theorem BP.at_ext {w w' : World} (h : Ext w w') {p : BP} (hp : p.at w) : p.at w' := let ⟨o, h1, h2⟩ := hp; ⟨o, blk_ext h h1, h2⟩
theorem Rw.ok_ext {w w' : World} (h : Ext w w') {r : Rw} (hr : r.ok w) : r.ok w' := Rw.ok_blk hr fun b hb => h.block b (Rw.lt hr hb)
theorem Hp.step {w0 : World} {L : List BP} {R : List Rw} {F : List BP} {w w' : World} (h : Hp w0 L R F w) (k : Ext w w') : Hp w0 L R F w' :=
  ⟨h.ext.trans k, fun p hp => BP.at_ext k (h.own p hp), fun r hr => Rw.ok_ext k (h.rows r hr), fun p hp => BP.at_ext k (h.fgn p hp), h.nodup, h.low, h.apart⟩
theorem stab_hp (w0 : World) (L : List BP) (R : List Rw) (F : List BP) : Stab (Hp w0 L R F) := fun _ _ h k => h.step k
theorem Hp.init (w0 : World) : Hp w0 [] [] [] w0 where
  ext := Ext.refl _
  own := fun _ h => by cases h
  rows := fun _ h => by cases h
  fgn := fun _ h => by cases h
  nodup := List.nodup_nil
  low := fun _ h => by cases h
  apart := fun _ h => by cases h
theorem Hp.lt {w0 : World} {L : List BP} {R : List Rw} {F : List BP} {w : World} (h : Hp w0 L R F w) {b : Nat} (hb : b ∈ owned L R) : b < w.heap.size := by
  rcases List.mem_append.1 hb with hb | hb
  · obtain ⟨p, hp, rfl⟩ := List.mem_map.1 hb
    obtain ⟨o, ho, _⟩ := h.own p hp
    exact blk_lt ho
  · obtain ⟨r, hr, hb⟩ := List.mem_filterMap.1 hb
    exact Rw.lt (h.rows r hr) hb
theorem Hp.fgn_lt {w0 : World} {L : List BP} {R : List Rw} {F : List BP} {w : World} (h : Hp w0 L R F w) {p : BP} (hp : p ∈ F) : p.1 < w.heap.size := let ⟨_, ho, _⟩ := h.fgn p hp; blk_lt ho

/-- Exactly this object. -/
def ex (o : Obj) : Obj → Prop := fun u => u = o
/-- A new block of one's own. -/
theorem Hp.alloc {w0 : World} {L : List BP} {R : List Rw} {F : List BP} {w : World} (h : Hp w0 L R F w) (o : Obj) : Hp w0 ((w.heap.size, ex o) :: L) R F (w.alloc o) := by
  have k := h.step (ext_alloc w o)
  refine ⟨k.ext, fun p hp => ?_, k.rows, k.fgn, ?_, fun b hb => ?_, fun b hb p hp => ?_⟩
  · rcases List.mem_cons.1 hp with rfl | hp
    · exact ⟨o, blk_alloc w o, rfl⟩
    · exact k.own p hp
  · show (w.heap.size :: owned L R).Nodup
    exact List.nodup_cons.2 ⟨fun hb => Nat.lt_irrefl _ (h.lt hb), h.nodup⟩
  · rcases List.mem_cons.1 (show b ∈ w.heap.size :: owned L R from hb) with rfl | hb
    · exact h.ext.size
    · exact h.low b hb
  · rcases List.mem_cons.1 (show b ∈ w.heap.size :: owned L R from hb) with rfl | hb
    · exact Nat.ne_of_lt (h.fgn_lt hp)
    · exact h.apart b hb p hp
theorem Hp.blk {w0 : World} {L : List BP} {R : List Rw} {F : List BP} {w : World} (h : Hp w0 L R F w) (i : Nat) {b : Nat} {o : Obj} (hi : L[i]? = some (b, ex o)) : w.heap[b]? = some o := by
  obtain ⟨u, hu, hv⟩ := h.own _ (List.mem_of_getElem? hi)
  rw [hu, show u = o from hv]
theorem Hp.cell {w0 : World} {L : List BP} {R : List Rw} {F : List BP} {w : World} (h : Hp w0 L R F w) (i : Nat) {b o : Nat} {cs : Array Value} {t : TypeId} {v : Value} (hi : L[i]? = some (b, ex (.cells cs t))) (hv : cs[o]? = some v) : w.cell? ⟨b, o, none⟩ = some v :=
  cell_of_blk (h.blk i hi) hv
/-- A store into the block number i of one's own. -/
theorem Hp.store {w0 : World} {L : List BP} {R : List Rw} {F : List BP} {w w' : World} (h : Hp w0 L R F w) (i : Nat) {b : Nat} {p : Obj → Prop} {o : Obj} (q : Obj → Prop) (hi : L[i]? = some (b, p)) (hos : w'.os = w.os) (htp : w'.tape = w.tape) (hou : w'.output = w.output) (hsz : w'.heap.size = w.heap.size)
    (hb : w'.heap[b]? = some o) (hq : q o) (hne : ∀ k, k ≠ b → w'.heap[k]? = w.heap[k]?) : Hp w0 (L.set i (b, q)) R F w' := by
  have hmem : b ∈ owned L R := List.mem_append.2 (.inl (List.mem_map.2 ⟨_, List.mem_of_getElem? hi, rfl⟩))
  have hfst : (L.set i (b, q)).map (·.1) = L.map (·.1) := by
    rw [List.map_set]
    apply List.ext_getElem?
    intro j
    rw [List.getElem?_set]
    split
    · rename_i hij
      subst hij
      split
      · rw [List.getElem?_map, hi]; rfl
      · rename_i hlt
        rw [List.getElem?_eq_none (by omega)]
    · rfl
  have how : owned (L.set i (b, q)) R = owned L R := by unfold owned; rw [hfst]
  refine ⟨⟨hos.trans h.ext.os, htp.trans h.ext.tape, hou.trans h.ext.output, by rw [hsz]; exact h.ext.size, fun k hk => ?_⟩, fun x hx => ?_, fun r hr => ?_, fun x hx => ?_, how ▸ h.nodup, how ▸ h.low, how ▸ h.apart⟩
  · rw [hne k (fun e => by subst e; have := h.low k hmem; omega)]; exact h.ext.block k hk
  · obtain ⟨j, hj⟩ := List.getElem?_of_mem hx
    rw [List.getElem?_set] at hj
    by_cases hij : i = j
    · subst hij
      rw [if_pos rfl] at hj
      split at hj
      · simp only [Option.some.injEq] at hj; subst hj; exact ⟨o, hb, hq⟩
      · cases hj
    · rw [if_neg hij] at hj
      obtain ⟨u, hu, hv⟩ := h.own x (List.mem_of_getElem? hj)
      refine ⟨u, ?_, hv⟩
      rw [hne x.1 (fun e => ?_)]; exact hu
      have nd : (L.map (·.1)).Nodup := (List.nodup_append.1 h.nodup).1
      have h1 : (L.map (·.1))[i]? = some b := by simp [hi]
      have h2 : (L.map (·.1))[j]? = some b := by simp [hj, e]
      have hil : i < (L.map (·.1)).length := (List.getElem?_eq_some_iff.1 h1).1
      exact hij ((List.getElem?_inj hil nd).1 (by rw [h1, h2]))
  · refine Rw.ok_blk (h.rows r hr) fun g hg => hne g fun e => ?_
    exact (List.nodup_append.1 h.nodup).2.2 b (List.mem_map.2 ⟨_, List.mem_of_getElem? hi, rfl⟩) g (List.mem_filterMap.2 ⟨r, hr, hg⟩) e.symm
  · obtain ⟨u, hu, hv⟩ := h.fgn x hx
    exact ⟨u, by rw [hne x.1 (h.apart b hmem x hx)]; exact hu, hv⟩

section
variable {P : Program} {n : Nat} {e : Env} {w0 : World} {L : List BP} {R : List Rw} {F : List BP} {Q : Exit → Act → World → Prop} {ops : Array Oper} {rest : List Oper}

theorem H.box {x : Operand} {v : Value} {el d : Nat} {t : TypeId} {p : String} {af : Array Edge} (hx : eev e x = some v) (hn : d < n)
    (h : ∀ b, w0.heap.size ≤ b → H n ((d, .pointer (some ⟨b, 0, none⟩)) :: e) (Hp w0 ((b, ex (.cells v.cells el)) :: L) R F) (wpList P ops Q rest)) :
    H n e (Hp w0 L R F) (wpList P ops Q (⟨some d, .box el x, t, p, af, none⟩ :: rest)) := by
  intro a w hf hc
  refine wpList_plain rfl fun K hK => ?_
  have hr : (execOp a.eval ⟨some d, .box el x, t, p, af, none⟩).run P w = .ok (.value (.pointer (some ⟨w.heap.size, 0, none⟩))) (w.alloc (.cells v.cells el)) := by
    simp [execOp, hf.ev hx, Instr.box, newVar, newRow]
  unfold Oper.wp
  rw [hr]
  exact hK _ _ (h w.heap.size hc.ext.size _ _ (hf.put hn _) (hc.alloc _))

theorem H.alloc {v : Value} {el d : Nat} {t : TypeId} {p : String} {af : Array Edge} (hz : ∀ w, (zeroValue el).run P w = .ok v w) (hn : d < n)
    (h : ∀ b, w0.heap.size ≤ b → H n ((d, .pointer (some ⟨b, 0, none⟩)) :: e) (Hp w0 ((b, ex (.cells v.cells el)) :: L) R F) (wpList P ops Q rest)) :
    H n e (Hp w0 L R F) (wpList P ops Q (⟨some d, .alloc el, t, p, af, none⟩ :: rest)) := by
  intro a w hf hc
  refine wpList_plain rfl fun K hK => ?_
  have hr : (execOp a.eval ⟨some d, .alloc el, t, p, af, none⟩).run P w = .ok (.value (.pointer (some ⟨w.heap.size, 0, none⟩))) (w.alloc (.cells v.cells el)) := by
    simp [execOp, Instr.alloc, hz w, newVar, newRow]
  unfold Oper.wp
  rw [hr]
  exact hK _ _ (h w.heap.size hc.ext.size _ _ (hf.put hn _) (hc.alloc _))

/-- A literal of a slice. -/
theorem H.buildSlice {ty len el d : Nat} {parts : List (Nat × Operand)} {ps : List (Nat × Value)} {cs : Array Value} {t : TypeId} {p : String} {af : Array Edge}
    (hr : ∀ w, (Instr.buildSlice ty len ps.toArray).run P w = .ok (.slice (some ⟨w.heap.size, 0, none⟩) len len) (w.alloc (.cells cs el))) (hx : eevps e parts = some ps) (hn : d < n)
    (h : ∀ b, w0.heap.size ≤ b → H n ((d, .slice (some ⟨b, 0, none⟩) len len) :: e) (Hp w0 ((b, ex (.cells cs el)) :: L) R F) (wpList P ops Q rest)) :
    H n e (Hp w0 L R F) (wpList P ops Q (⟨some d, .buildSlice ty len parts.toArray, t, p, af, none⟩ :: rest)) := by
  intro a w hf hc
  refine wpList_plain rfl fun K hK => ?_
  have h1 := hf.evps hx
  have h2 : List.map (fun x : Nat × Operand => match x with | (i, x) => (i, a.eval x)) parts = ps := h1
  have hr' : (execOp a.eval ⟨some d, .buildSlice ty len parts.toArray, t, p, af, none⟩).run P w = .ok (.value (.slice (some ⟨w.heap.size, 0, none⟩) len len)) (w.alloc (.cells cs el)) := by
    simp [execOp, h2, hr w]
  unfold Oper.wp
  rw [hr']
  exact hK _ _ (h w.heap.size hc.ext.size _ _ (hf.put hn _) (hc.alloc _))

/-- A store into one's own block number i. -/
theorem H.store {ty b o el : Nat} {x y : Operand} {v : Value} {cs : Array Value} {t : TypeId} {p : String} {af : Array Edge} (i : Nat) (cs' : Array Value) (hx : eev e x = some (.pointer (some ⟨b, o, none⟩))) (hy : eev e y = some v)
    (hsz : ∀ w, (sizeOf ty).run P w = .ok v.cells.size w) (hL : L[i]? = some (b, ex (.cells cs el))) (hone : ∀ u ∈ v.cells.toList, u.oneCell' = true) (hfit : o + v.cells.toList.length ≤ cs.size) (hcs : (cs.toList.take o ++ v.cells.toList ++ cs.toList.drop (o + v.cells.toList.length)).toArray = cs')
    (h : H n e (Hp w0 (L.set i (b, ex (.cells cs' el))) R F) (wpList P ops Q rest)) :
    H n e (Hp w0 L R F) (wpList P ops Q (⟨none, .store ty x y, t, p, af, none⟩ :: rest)) := by
  intro a w hf hc
  refine wpList_plain rfl fun K hK => ?_
  have hb := hc.blk i hL
  have hs := run_storeCells_at (P := P) b o el v.cells.toList 0 cs w hb (by simpa using hfit) hone
  simp only [Nat.add_zero] at hs
  rw [hcs] at hs
  have hr : (execOp a.eval ⟨none, .store ty x y, t, p, af, none⟩).run P w = .ok .skip (w.setRow b cs') := by
    simp [execOp, hf.ev hx, hf.ev hy, Instr.storeAt, Instr.sureAddr, storeVar, hsz w, hs]
  unfold Oper.wp
  rw [hr]
  refine hK _ _ (h _ _ hf ?_)
  exact hc.store i _ hL rfl rfl rfl (setRow_size w b cs') (setRow_heap w b cs cs' el (0, 0) hb) rfl (fun k hk => setRow_other w b k cs' hk)

/-- A struct is boxed. -/
theorem H.boxA {x : Operand} {cs : List Value} {el d : Nat} {t : TypeId} {p : String} {af : Array Edge} (hx : eev e x = some (.agg cs.toArray)) (hn : d < n)
    (h : ∀ b, w0.heap.size ≤ b → H n ((d, .pointer (some ⟨b, 0, none⟩)) :: e) (Hp w0 ((b, ex (.cells cs.toArray el)) :: L) R F) (wpList P ops Q rest)) :
    H n e (Hp w0 L R F) (wpList P ops Q (⟨some d, .box el x, t, p, af, none⟩ :: rest)) := H.box hx hn h
theorem H.box1 {x : Operand} {v : Value} {el d : Nat} {t : TypeId} {p : String} {af : Array Edge} (hx : eev e x = some v) (hv : v.cells = #[v]) (hn : d < n)
    (h : ∀ b, w0.heap.size ≤ b → H n ((d, .pointer (some ⟨b, 0, none⟩)) :: e) (Hp w0 ((b, ex (.cells [v].toArray el)) :: L) R F) (wpList P ops Q rest)) :
    H n e (Hp w0 L R F) (wpList P ops Q (⟨some d, .box el x, t, p, af, none⟩ :: rest)) := H.box hx hn (by rw [hv]; exact h)
theorem H.allocA {cs : List Value} {el d : Nat} {t : TypeId} {p : String} {af : Array Edge} (hz : ∀ w, (zeroValue el).run P w = .ok (.agg cs.toArray) w) (hn : d < n)
    (h : ∀ b, w0.heap.size ≤ b → H n ((d, .pointer (some ⟨b, 0, none⟩)) :: e) (Hp w0 ((b, ex (.cells cs.toArray el)) :: L) R F) (wpList P ops Q rest)) :
    H n e (Hp w0 L R F) (wpList P ops Q (⟨some d, .alloc el, t, p, af, none⟩ :: rest)) := H.alloc hz hn h
theorem H.alloc1 {v : Value} {el d : Nat} {t : TypeId} {p : String} {af : Array Edge} (hz : ∀ w, (zeroValue el).run P w = .ok v w) (hv : v.cells = #[v]) (hn : d < n)
    (h : ∀ b, w0.heap.size ≤ b → H n ((d, .pointer (some ⟨b, 0, none⟩)) :: e) (Hp w0 ((b, ex (.cells [v].toArray el)) :: L) R F) (wpList P ops Q rest)) :
    H n e (Hp w0 L R F) (wpList P ops Q (⟨some d, .alloc el, t, p, af, none⟩ :: rest)) := H.alloc hz hn (by rw [hv]; exact h)
/-- A store of one cell. -/
theorem H.store1 {ty b o el : Nat} {x y : Operand} {v : Value} {cs : List Value} {t : TypeId} {p : String} {af : Array Edge} (i : Nat) (hx : eev e x = some (.pointer (some ⟨b, o, none⟩))) (hy : eev e y = some v) (hv : v.cells = #[v]) (ho : v.oneCell' = true)
    (hsz : ∀ w, (sizeOf ty).run P w = .ok 1 w) (hL : L[i]? = some (b, ex (.cells cs.toArray el))) (hfit' : Nat.ble (o + 1) cs.length = true)
    (h : H n e (Hp w0 (L.set i (b, ex (.cells (cs.set o v).toArray el))) R F) (wpList P ops Q rest)) :
    H n e (Hp w0 L R F) (wpList P ops Q (⟨none, .store ty x y, t, p, af, none⟩ :: rest)) :=
  have hfit : o < cs.length := Nat.le_of_ble_eq_true hfit'
  H.store i (cs.set o v).toArray hx hy (by rw [hv]; exact hsz) hL (by rw [hv]; simpa using ho) (by rw [hv]; simp; omega) (by
    rw [hv]
    congr 1
    simp only [List.length_cons, List.length_nil, Nat.zero_add]
    rw [List.set_eq_take_append_cons_drop, if_pos hfit]
    simp) h
/-- A store of a whole struct. -/
theorem H.storeA {ty b el : Nat} {x y : Operand} {vs cs : List Value} {t : TypeId} {p : String} {af : Array Edge} (i : Nat) (hx : eev e x = some (.pointer (some ⟨b, 0, none⟩))) (hy : eev e y = some (.agg vs.toArray)) (ho : vs.all Value.oneCell' = true)
    (hsz : ∀ w, (sizeOf ty).run P w = .ok vs.length w) (hL : L[i]? = some (b, ex (.cells cs.toArray el))) (hlen : vs.length = cs.length)
    (h : H n e (Hp w0 (L.set i (b, ex (.cells vs.toArray el))) R F) (wpList P ops Q rest)) :
    H n e (Hp w0 L R F) (wpList P ops Q (⟨none, .store ty x y, t, p, af, none⟩ :: rest)) :=
  H.store i vs.toArray hx hy (by simpa [Value.cells] using hsz) hL (by simpa [Value.cells] using ho) (by simp [Value.cells, hlen]) (by
    simp [Value.cells, hlen]) h

theorem results_cell {fn : Func} {r ty : Nat} {ad : Addr} {cs : List Value} {tmps : Array Value} {w : World} (h : fn.results = #[.cell r ty]) (hag : ∀ w, (isAgg ty).run P w = .ok true w) (hsz : ∀ w, (sizeOf ty).run P w = .ok cs.length w) (hr : tmps.getD r undef = .pointer (some ad))
    (hc : ∀ j v, cs[j]? = some v → w.cell? (ad.add j) = some v) : (results fn tmps).run P w = .ok (.agg cs.toArray) w := by
  rw [Array.getD_eq_getD_getElem?] at hr
  simp [results, h, hr, asAddr, loadVar, hag w, hsz w, run_loadCells_list w ad cs hc]
theorem results_cell2 {fn : Func} {r r2 ty : Nat} {ad : Addr} {cs : List Value} {v2 : Value} {tmps : Array Value} {w : World} (h : fn.results = #[.cell r ty, .tmp r2]) (hag : ∀ w, (isAgg ty).run P w = .ok true w) (hsz : ∀ w, (sizeOf ty).run P w = .ok cs.length w) (hr : tmps.getD r undef = .pointer (some ad)) (hr2 : tmps.getD r2 undef = v2)
    (hc : ∀ j v, cs[j]? = some v → w.cell? (ad.add j) = some v) : (results fn tmps).run P w = .ok (.tuple #[.agg cs.toArray, v2]) w := by
  rw [Array.getD_eq_getD_getElem?] at hr hr2
  simp [results, h, hr, hr2, asAddr, loadVar, hag w, hsz w, run_loadCells_list w ad cs hc]
theorem cells_of_blk {w : World} {b : Nat} {cs : List Value} {t : TypeId} {fr : Nat × Nat} (hb : w.heap[b]? = some (.cells cs.toArray t fr)) : ∀ j v, cs[j]? = some v → w.cell? ((⟨b, 0, none⟩ : Addr).add j) = some v := fun j v hj => by
  rw [add_at, Nat.zero_add]
  exact cell_of_blk hb (by simpa using hj)
/-- 'return' of a struct that lies in the block number i of one's own. -/
theorem HR.retC {fn : Func} {Rt : Ending → World → Prop} {r ty b el m : Nat} {cs : List Value} (i : Nat) (hr : fn.results = #[.cell r ty]) (hag : ∀ w, (isAgg ty).run P w = .ok true w) (hsz : ∀ w, (sizeOf ty).run P w = .ok m w) (hv : eget e r = some (.pointer (some ⟨b, 0, none⟩))) (hL : L[i]? = some (b, ex (.cells cs.toArray el))) (hm : cs.length = m)
    (h : ∀ w, Hp w0 L R F w → Rt (.returned (.agg cs.toArray)) w) : HR n e (Hp w0 L R F) (bodyPost P fn Rt) := fun _ w hf hc =>
  bodyPost_ret (v := .agg cs.toArray) (results_cell hr hag (by rw [hm]; exact hsz) (hf.get r _ hv) (cells_of_blk (hc.blk i hL))) hf.nod (h w hc)
theorem HR.retC2 {fn : Func} {Rt : Ending → World → Prop} {r r2 ty b el m : Nat} {cs : List Value} (i : Nat) (v2 : Value) (hr : fn.results = #[.cell r ty, .tmp r2]) (hag : ∀ w, (isAgg ty).run P w = .ok true w) (hsz : ∀ w, (sizeOf ty).run P w = .ok m w) (hv : eget e r = some (.pointer (some ⟨b, 0, none⟩))) (hv2 : eget e r2 = some v2) (hL : L[i]? = some (b, ex (.cells cs.toArray el))) (hm : cs.length = m)
    (h : ∀ w, Hp w0 L R F w → Rt (.returned (.tuple #[.agg cs.toArray, v2])) w) : HR n e (Hp w0 L R F) (bodyPost P fn Rt) := fun _ w hf hc =>
  bodyPost_ret (v := .tuple #[.agg cs.toArray, v2]) (results_cell2 hr hag (by rw [hm]; exact hsz) (hf.get r _ hv) (hf.get r2 _ hv2) (cells_of_blk (hc.blk i hL))) hf.nod (h w hc)

/-- A call that answers one of several and may lay blocks. 'Fz': the new blocks that are known; 'Rz': those that it hands over. -/
theorem H.call {α : Type} {f : FuncId} {xs : List Operand} {vs : List Value} {d : Nat} {t : TypeId} {p : String} {af : Array Edge} {ats : Array TypeId} (v : α → Value) (I : α → Prop) (Rz : α → List Rw) (Fz : α → List BP) (hen : ∀ args w, (callFunc f args).run P w = .ok (.enter f args) w)
    (hx : eevs e xs = some vs) (hn : d < n) (hc : ∀ w, Hp w0 L R F w → Calls P f vs.toArray w fun en w' => ∃ z, en = .returned (v z) ∧ I z ∧ Hp w [] (Rz z) (Fz z) w' ∧ ∀ p ∈ Fz z, w.heap.size ≤ p.1)
    (h : ∀ z, I z → H n ((d, v z) :: e) (Hp w0 L (Rz z ++ R) (Fz z ++ F)) (wpList P ops Q rest)) :
    H n e (Hp w0 L R F) (wpList P ops Q (⟨some d, .call { callee := .value (.func f), args := xs.toArray, argTypes := ats }, t, p, af, none⟩ :: rest)) := by
  intro a w hf hcw
  refine wpList_plain rfl fun K hK => ?_
  have h1 : (List.map a.eval xs) = vs := hf.evs hx
  have hr : (execOp a.eval ⟨some d, .call { callee := .value (.func f), args := xs.toArray, argTypes := ats }, t, p, af, none⟩).run P w = .ok (.enter f vs.toArray) w := by
    simp [execOp, resolve, h1, Act.eval, Deferred.ofValue, invoke, hen]
  unfold Oper.wp
  rw [hr]
  refine (hc w hcw).mono fun en w' hh => ?_
  obtain ⟨z, rfl, hI, hp, hlow⟩ := hh
  refine hK _ _ (h z hI _ _ (hf.put hn _) ?_)
  have k := hcw.step hp.ext
  have hnew : ∀ b, b ∈ (Rz z).filterMap Rw.blk → w.heap.size ≤ b := fun b hb => hp.low b (by simpa [owned] using hb)
  have hown : ∀ b, b ∈ owned L (Rz z ++ R) → b ∈ (Rz z).filterMap Rw.blk ∨ b ∈ owned L R := fun b hb => by
    simp only [owned, List.filterMap_append, List.mem_append] at hb ⊢
    rcases hb with hb | hb | hb
    · exact .inr (.inl hb)
    · exact .inl hb
    · exact .inr (.inr hb)
  refine ⟨k.ext, k.own, fun r hr => ?_, fun x hx => ?_, ?_, fun b hb => ?_, fun b hb x hx => ?_⟩
  · rcases List.mem_append.1 hr with hr | hr
    · exact hp.rows r hr
    · exact k.rows r hr
  · rcases List.mem_append.1 hx with hx | hx
    · exact hp.fgn x hx
    · exact k.fgn x hx
  · have n1 : ((Rz z).filterMap Rw.blk).Nodup := by simpa [owned] using hp.nodup
    have n2 := List.nodup_append.1 hcw.nodup
    have n3 : ∀ x ∈ (Rz z).filterMap Rw.blk, ∀ y ∈ owned L R, x ≠ y := fun x hx y hy e => by
      have := hnew x hx
      have := hcw.lt hy
      omega
    unfold owned
    rw [List.filterMap_append]
    refine List.nodup_append.2 ⟨n2.1, List.nodup_append.2 ⟨n1, n2.2.1, fun x hx y hy => n3 x hx y (List.mem_append.2 (.inr hy))⟩, fun x hx y hy => ?_⟩
    rcases List.mem_append.1 hy with hy | hy
    · exact fun e => n3 y hy x (List.mem_append.2 (.inl hx)) e.symm
    · exact n2.2.2 x hx y hy
  · rcases hown b hb with hb | hb
    · exact Nat.le_trans hcw.ext.size (hnew b hb)
    · exact hcw.low b hb
  · rcases hown b hb with hb | hb
    · rcases List.mem_append.1 hx with hx | hx
      · exact hp.apart b (by simpa [owned] using hb) x hx
      · have := hnew b hb
        have := hcw.fgn_lt hx
        omega
    · rcases List.mem_append.1 hx with hx | hx
      · have := hlow x hx
        have := hcw.lt hb
        omega
      · exact hcw.apart b hb x hx
end

/-! ### Slices in memory -/
/-- 'v' is a slice of one-cell elements that reads as 'xs'. -/
def IsSl (w : World) (v : Value) (xs : List Value) : Prop :=
  ∃ ad cap b o, v = .slice ad xs.length cap ∧ xs.length ≤ cap ∧ ∀ j x, xs[j]? = some x → ad = some ⟨b, o, none⟩ ∧ w.cell? ⟨b, o + j, none⟩ = some x
theorem IsSl.ext {w w' : World} {v : Value} {xs : List Value} (h : IsSl w v xs) (k : Ext w w') : IsSl w' v xs := by
  obtain ⟨ad, cap, b, o, h1, h2, h3⟩ := h
  exact ⟨ad, cap, b, o, h1, h2, fun j x hj => ⟨(h3 j x hj).1, cell_ext k (h3 j x hj).2⟩⟩
/-- 'x[i]' of a slice whose elements are known. -/
theorem yl_index' {P : Program} {n : Nat} {e : Env} {C : World → Prop} {d : Option Tmp} {t : TypeId} {p : String} {af : Array Edge} {g : Option (Nat × Bool)} {x ix : Operand} {ad : Option Addr} {b o len cap ty el : Nat} {k : IntKind} {i : Int} (j sz : Nat) (hu : P.underlying ty = some (.slice el)) (hsz : ∀ w, (sizeOf el).run P w = .ok sz w)
    (had : ad = some ⟨b, o, none⟩) (hx : eev e x = some (.slice ad len cap)) (hi : eev e ix = some (.int k i)) (hj : i = (j : Int)) (hl : j < len) : Yl P C n e ⟨d, .indexAddr ty x ix, t, p, af, g⟩ (.pointer (some ⟨b, o + j * sz, none⟩)) := by
  subst had
  exact yl_index j sz hu hsz hx hi hj hl
/-- The same, elements of one cell. -/
theorem yl_ix {P : Program} {n : Nat} {e : Env} {C : World → Prop} {d : Option Tmp} {t : TypeId} {p : String} {af : Array Edge} {g : Option (Nat × Bool)} {x ix : Operand} {ad : Option Addr} {b o len cap ty el : Nat} {k : IntKind} {i : Int} (j : Nat) (hu : P.underlying ty = some (.slice el)) (hsz : ∀ w, (sizeOf el).run P w = .ok 1 w)
    (had : ad = some ⟨b, o, none⟩) (hx : eev e x = some (.slice ad len cap)) (hi : eev e ix = some (.int k i)) (hj : i = (j : Int)) (hl : j < len) : Yl P C n e ⟨d, .indexAddr ty x ix, t, p, af, g⟩ (.pointer (some ⟨b, o + j, none⟩)) := by
  have := yl_index' (P := P) (n := n) (e := e) (C := C) (d := d) (t := t) (p := p) (af := af) (g := g) j 1 hu hsz had hx hi hj hl
  rwa [Nat.mul_one] at this
end Go.Proofs.YtgbgddmbooaddaaGreatDoor

namespace Go.Proofs.YtgbgddmbooaddaaGreatDoor

/-- A claim. -/
structure Inv where
  kind : Int
  a : Int
  b : Int
  k : Int
  m : Int
  set : List Int

def smallB (n : Int) : Bool := decide (-2147483647 ≤ n) && decide (n ≤ 2147483647)
def allSmallB (l : List Int) : Bool := l.all smallB
def risingB (l : List Int) : Bool := (List.range (l.length - 1)).all fun j => decide (l.getD j 0 < l.getD (j + 1) 0)

theorem risingB_true {l : List Int} (h : ∀ j, j + 1 < l.length → l.getD j 0 < l.getD (j + 1) 0) : risingB l = true := by
  simp only [risingB, List.all_eq_true, List.mem_range, decide_eq_true_eq]
  exact fun j hj => h j (by omega)
theorem risingB_false {l : List Int} (j : Nat) (hj : j + 1 < l.length) (h : ¬ l.getD j 0 < l.getD (j + 1) 0) : risingB l = false := by
  simp only [risingB, List.all_eq_false, List.mem_range, decide_eq_true_eq]
  exact ⟨j, by omega, h⟩

/-! ### Valid claims -/
def twoB (k : Int) : Bool := decide (7 ≤ k) && decide (k ≤ 11)
def hasKB (k : Int) : Bool := decide (k = 1) || decide (k = 3) || decide (k = 4) || decide (k = 6) || decide (k = 11)
def hasMB (k : Int) : Bool := decide (k = 6) || decide (k = 11)
def hasSB (k : Int) : Bool := decide (k = 2)
def kindB (k : Int) : Bool := decide (1 ≤ k) && decide (k ≤ 11)

/-- The error of what Set, K and M say. -/
def numE (x : Inv) : Int :=
  if smallB x.k && smallB x.m && allSmallB x.set then
    if hasSB x.kind && (decide ((x.set.length : Int) < 2) || decide (3 < (x.set.length : Int)) || !risingB x.set) then 1
    else if decide (x.kind = 6) && (decide (x.m < 2) || decide (x.k < 0) || decide (x.m ≤ x.k)) then 1
    else 0
  else 3

/-- A claim with the fields alone that belong to its kind. -/
def bareI (x : Inv) : Inv where
  kind := x.kind
  a := x.a
  b := if twoB x.kind then x.b else 0
  k := if hasKB x.kind then x.k else 0
  m := if hasMB x.kind then x.m else 0
  set := if hasSB x.kind then x.set else []

def sameB (x y : Inv) : Bool := decide (x.kind = y.kind) && decide (x.a = y.a) && decide (x.b = y.b) && decide (x.k = y.k) && decide (x.m = y.m) && decide (x.set = y.set)

def outB (x : Inv) (vars : Int) : Bool := (decide (x.a < 0) || decide (vars ≤ x.a)) || (twoB x.kind && ((decide (x.b < 0) || decide (vars ≤ x.b)) || decide (x.a = x.b)))
def turnB (x : Inv) : Bool := (decide (x.kind = 7) || decide (x.kind = 8)) && decide (x.b ≤ x.a)
def placeB (x : Inv) (vars : Int) : Bool := !outB x vars && !turnB x

/-- CheckClaim. -/
def chk (x : Inv) (vars : Int) : Int :=
  if vars < 1 then 1 else if 8 < vars then 3 else if !kindB x.kind then 1 else if !placeB x vars then 1
  else if numE x = 0 then (if sameB x (bareI x) then 0 else 1) else numE x

theorem numE_small {x : Inv} (h : (smallB x.k && smallB x.m && allSmallB x.set) = false) : numE x = 3 := by simp [numE, h]
theorem numE_set {x : Inv} (h : (smallB x.k && smallB x.m && allSmallB x.set) = true) (h2 : (hasSB x.kind && (decide ((x.set.length : Int) < 2) || decide (3 < (x.set.length : Int)) || !risingB x.set)) = true) : numE x = 1 := by
  unfold numE; rw [if_pos h, if_pos h2]
theorem numE_mod {x : Inv} (h : (smallB x.k && smallB x.m && allSmallB x.set) = true) (h2 : (hasSB x.kind && (decide ((x.set.length : Int) < 2) || decide (3 < (x.set.length : Int)) || !risingB x.set)) = false)
    (h3 : (decide (x.kind = 6) && (decide (x.m < 2) || decide (x.k < 0) || decide (x.m ≤ x.k))) = true) : numE x = 1 := by
  unfold numE; rw [if_pos h, if_neg (by rw [h2]; simp), if_pos h3]
theorem numE_ok {x : Inv} (h : (smallB x.k && smallB x.m && allSmallB x.set) = true) (h2 : (hasSB x.kind && (decide ((x.set.length : Int) < 2) || decide (3 < (x.set.length : Int)) || !risingB x.set)) = false)
    (h3 : (decide (x.kind = 6) && (decide (x.m < 2) || decide (x.k < 0) || decide (x.m ≤ x.k))) = false) : numE x = 0 := by
  unfold numE; rw [if_pos h, if_neg (by rw [h2]; simp), if_neg (by rw [h3]; simp)]

theorem chk_low {x : Inv} {vars : Int} (h : decide (vars < 1) = true) : chk x vars = 1 := by simp only [decide_eq_true_eq] at h; simp [chk, h]
theorem chk_high {x : Inv} {vars : Int} (h1 : decide (vars < 1) = false) (h : decide (8 < vars) = true) : chk x vars = 3 := by
  simp only [decide_eq_true_eq, decide_eq_false_iff_not] at h h1; simp [chk, h, h1]
theorem chk_kind {x : Inv} {vars : Int} (h1 : decide (vars < 1) = false) (h2 : decide (8 < vars) = false) (h : kindB x.kind = false) : chk x vars = 1 := by
  simp only [decide_eq_false_iff_not] at h1 h2; simp [chk, h, h1, h2]
theorem chk_place {x : Inv} {vars : Int} (h1 : decide (vars < 1) = false) (h2 : decide (8 < vars) = false) (h3 : kindB x.kind = true) (h : placeB x vars = false) : chk x vars = 1 := by
  simp only [decide_eq_false_iff_not] at h1 h2; simp [chk, h, h1, h2, h3]
theorem chk_num {x : Inv} {vars : Int} (h1 : decide (vars < 1) = false) (h2 : decide (8 < vars) = false) (h3 : kindB x.kind = true) (h4 : placeB x vars = true) (h : numE x ≠ 0) : chk x vars = numE x := by
  simp only [decide_eq_false_iff_not] at h1 h2; simp [chk, h, h1, h2, h3, h4]
theorem chk_same {x : Inv} {vars : Int} (h1 : decide (vars < 1) = false) (h2 : decide (8 < vars) = false) (h3 : kindB x.kind = true) (h4 : placeB x vars = true) (h : numE x = 0) : chk x vars = if sameB x (bareI x) then 0 else 1 := by
  simp only [decide_eq_false_iff_not] at h1 h2; simp [chk, h, h1, h2, h3, h4]

def okTo (x : Inv) (k : Nat) : Bool := smallB x.k && smallB x.m && (x.set.take k).all smallB
theorem okTo_zero (x : Inv) : okTo x 0 = (smallB x.k && smallB x.m) := by simp [okTo]
theorem okTo_len (x : Inv) : okTo x x.set.length = (smallB x.k && smallB x.m && allSmallB x.set) := by simp [okTo, allSmallB]
theorem okTo_succ {x : Inv} {k : Nat} (h : k < x.set.length) : okTo x (k + 1) = (okTo x k && smallB (x.set.getD k 0)) := by
  unfold okTo
  rw [List.take_succ_eq_append_getElem h, List.all_append]
  simp [List.getD, List.getElem?_eq_getElem h, Bool.and_assoc]

theorem place_out {x : Inv} {vars : Int} (h : outB x vars = true) : placeB x vars = false := by simp [placeB, h]
theorem place_turn {x : Inv} {vars : Int} (h : turnB x = true) : placeB x vars = false := by simp [placeB, h]
theorem place_in {x : Inv} {vars : Int} (h : outB x vars = false) (h2 : turnB x = false) : placeB x vars = true := by simp [placeB, h, h2]

/-- Fields that do not belong to the kind. -/
def strayB (x : Inv) : Bool := ((!twoB x.kind && decide (x.b ≠ 0)) || (!hasKB x.kind && decide (x.k ≠ 0)) || (!hasMB x.kind && decide (x.m ≠ 0))) || (!hasSB x.kind && decide (0 < (x.set.length : Int)))
theorem keepB (c : Bool) (n : Int) : decide (n = if c = true then n else 0) = !(!c && decide (n ≠ 0)) := by cases c <;> simp
theorem keepSet (c : Bool) (l : List Int) : decide (l = if c = true then l else []) = !(!c && decide (0 < (l.length : Int))) := by
  cases c
  · cases l <;> simp
  · simp
theorem sameB_bare (x : Inv) : sameB x (bareI x) = !strayB x := by
  unfold sameB bareI strayB
  simp only [keepB, keepSet, decide_true, Bool.true_and, Bool.not_or]

theorem kind_cases {k : Int} (h : kindB k = true) : k = 1 ∨ k = 2 ∨ k = 3 ∨ k = 4 ∨ k = 5 ∨ k = 6 ∨ k = 7 ∨ k = 8 ∨ k = 9 ∨ k = 10 ∨ k = 11 := by
  simp only [kindB, Bool.and_eq_true, decide_eq_true_eq] at h
  omega
/-- The numbers of the types that the program gives to the kinds. -/
def claimT (k : Int) : Nat :=
  if k = 1 then 71 else if k = 2 then 73 else if k = 3 then 74 else if k = 4 then 75 else if k = 5 then 77 else if k = 6 then 79 else if k = 7 then 80 else if k = 8 then 81 else if k = 9 then 82 else if k = 10 then 83 else if k = 11 then 119 else 0
theorem claimT_none {k : Int} (h : claimT k = 0) : kindB k = false := by
  cases hk : kindB k
  · rfl
  · rcases kind_cases hk with rfl | rfl | rfl | rfl | rfl | rfl | rfl | rfl | rfl | rfl | rfl <;> simp [claimT] at h
theorem claimT_some {k : Int} (h : ¬ claimT k = 0) : kindB k = true := by
  simp only [kindB, Bool.and_eq_true, decide_eq_true_eq]
  unfold claimT at h
  repeat (first | omega | split at h)

theorem fieldsA {k : Int} (h : (decide (k = 1) || decide (k = 3) || decide (k = 4)) = true) : hasKB k = true ∧ hasMB k = false ∧ hasSB k = false := by
  simp [hasKB, hasMB, hasSB] at *; omega
theorem fieldsB {k : Int} (h : (decide (k = 6) || decide (k = 11)) = true) : hasKB k = true ∧ hasMB k = true ∧ hasSB k = false := by
  simp [hasKB, hasMB, hasSB] at *; omega
theorem fieldsC {k : Int} (h : decide (k = 2) = true) : hasKB k = false ∧ hasMB k = false ∧ hasSB k = true := by
  simp [hasKB, hasMB, hasSB] at *; omega
theorem fieldsD {k : Int} (h1 : (decide (k = 1) || decide (k = 3) || decide (k = 4)) = false) (h2 : (decide (k = 6) || decide (k = 11)) = false) (h : decide (k = 2) = false) : hasKB k = false ∧ hasMB k = false ∧ hasSB k = false := by
  simp [hasKB, hasMB, hasSB] at *; omega
theorem sameB_of {x y : Inv} (h : ((((decide (x.kind ≠ y.kind) || decide (x.a ≠ y.a)) || decide (x.b ≠ y.b)) || decide (x.k ≠ y.k)) || decide (x.m ≠ y.m)) = true ∨ x.set ≠ y.set) : sameB x y = false := by
  simp [sameB] at *
  rcases h with h | h
  · intro a b c d e
    rcases h with (((h | h) | h) | h) | h <;> contradiction
  · intro _ _ _ _ _; exact h
theorem list_ext_getD {l m : List Int} (h1 : l.length = m.length) (h : ∀ j, j < l.length → l.getD j 0 = m.getD j 0) : l = m := by
  refine List.ext_getElem h1 fun j a b => ?_
  have := h j a
  simpa [List.getD, a, b] using this

/-- The place of the first element with a property, or -1. -/
def idxP {α : Type} (p : α → Bool) (l : List α) : Int := if l.any p then (l.findIdx p : Int) else -1
theorem idxP_hit {α : Type} {p : α → Bool} {l : List α} (k : Nat) (hk : k < l.length) (h1 : p l[k] = true) (h2 : ∀ j (hj : j < k), p (l[j]'(by omega)) = false) : idxP p l = k := by
  have hany : l.any p = true := List.any_eq_true.2 ⟨l[k], List.getElem_mem hk, h1⟩
  rw [idxP, if_pos hany, (List.findIdx_eq hk).2 ⟨h1, h2⟩]
theorem idxP_miss {α : Type} {p : α → Bool} {l : List α} (h : ∀ j (hj : j < l.length), p l[j] = false) : idxP p l = -1 := by
  have hany : l.any p = false := List.any_eq_false.2 fun x hx => by
    obtain ⟨j, hj, rfl⟩ := List.getElem_of_mem hx
    simp [h j hj]
  simp [idxP, hany]
theorem idxP_any {α : Type} (p : α → Bool) (l : List α) : decide (0 ≤ idxP p l) = l.any p := by
  unfold idxP
  cases l.any p <;> simp

/-! ### Is a claim true of two values? -/
def modI (n m : Int) : Int := (n.tmod m + m).tmod m
def holdsB (x : Inv) (a b : Int) : Bool :=
  if x.kind = 1 then decide (a = x.k) else if x.kind = 2 then x.set.any (fun y => decide (a = y)) else if x.kind = 3 then decide (x.k ≤ a) else if x.kind = 4 then decide (a ≤ x.k) else if x.kind = 5 then decide (a ≠ 0)
  else if x.kind = 6 then decide (modI a x.m = x.k) else if x.kind = 7 then decide (a = b) else if x.kind = 8 then decide (a ≠ b) else if x.kind = 9 then decide (a < b) else if x.kind = 10 then decide (a ≤ b) else decide (b = x.k * a + x.m)
def holdsR (x : Inv) (row : List Int) : Bool := holdsB x (row.getD x.a.toNat 0) (row.getD x.b.toNat 0)

theorem small_le {n : Int} (h : smallB n = true) : -2147483647 ≤ n ∧ n ≤ 2147483647 := by
  simpa [smallB] using h
theorem mul_small {a b : Int} (ha : smallB a = true) (hb : smallB b = true) : -4611686014132420609 ≤ a * b ∧ a * b ≤ 4611686014132420609 := by
  have h1 := small_le ha
  have h2 := small_le hb
  have : (a * b).natAbs ≤ 2147483647 * 2147483647 := by
    rw [Int.natAbs_mul]
    exact Nat.mul_le_mul (by omega) (by omega)
  omega

end Go.Proofs.YtgbgddmbooaddaaGreatDoor

namespace Go.Proofs.YtgbgddmbooaddaaGreatDoor
open Go.RowKit

theorem Tryz.mixed : Tryz.prog.follows .mixedOrders = true := by kernel_rfl
theorem fa25_0 : FieldAt Tryz.prog 25 0 0 := .of Tryz.underlying25 rfl rfl Tryz.sizeOf22
theorem fa25_1 : FieldAt Tryz.prog 25 1 1 := .of Tryz.underlying25 rfl rfl Tryz.sizeOf3
theorem fa25_2 : FieldAt Tryz.prog 25 2 2 := .of Tryz.underlying25 rfl rfl Tryz.sizeOf3
theorem fa25_3 : FieldAt Tryz.prog 25 3 3 := .of Tryz.underlying25 rfl rfl Tryz.sizeOf2
theorem fa25_4 : FieldAt Tryz.prog 25 4 4 := .of Tryz.underlying25 rfl rfl Tryz.sizeOf2
theorem fa25_5 : FieldAt Tryz.prog 25 5 5 := .of Tryz.underlying25 rfl rfl Tryz.sizeOf23


theorem fa71_0 : FieldAt Tryz.prog 71 0 0 := .of Tryz.underlying71 rfl rfl Tryz.sizeOf2
theorem fa73_0 : FieldAt Tryz.prog 73 0 0 := .of Tryz.underlying73 rfl rfl Tryz.sizeOf23
theorem fa74_0 : FieldAt Tryz.prog 74 0 0 := .of Tryz.underlying74 rfl rfl Tryz.sizeOf2
theorem fa75_0 : FieldAt Tryz.prog 75 0 0 := .of Tryz.underlying75 rfl rfl Tryz.sizeOf2
theorem fa79_0 : FieldAt Tryz.prog 79 0 0 := .of Tryz.underlying79 rfl rfl Tryz.sizeOf2
theorem fa79_1 : FieldAt Tryz.prog 79 1 1 := .of Tryz.underlying79 rfl rfl Tryz.sizeOf2
theorem fa119_0 : FieldAt Tryz.prog 119 0 0 := .of Tryz.underlying119 rfl rfl Tryz.sizeOf2
theorem fa119_1 : FieldAt Tryz.prog 119 1 1 := .of Tryz.underlying119 rfl rfl Tryz.sizeOf2

/-- A slice of integers. -/
abbrev IsInts (w : World) (v : Value) (l : List Int) : Prop := IsSl w v (l.map (.int .i64))
theorem ints_open {w : World} {v : Value} {l : List Int} (h : IsInts w v l) : ∃ ad cap b o, v = .slice ad l.length cap ∧ l.length ≤ cap ∧ ∀ j, j < l.length → ad = some ⟨b, o, none⟩ ∧ w.cell? ⟨b, o + j, none⟩ = some (.int .i64 (l.getD j 0)) := by
  obtain ⟨ad, cap, b, o, h1, h2, h3⟩ := h
  simp only [List.length_map] at h1 h2
  exact ⟨ad, cap, b, o, h1, h2, fun j hj => h3 j _ (by simp [hj, List.getD])⟩

/-- The value behind the interface of a claim. -/
def claimA (x : Inv) (sv : Value) : Value :=
  if x.kind = 1 ∨ x.kind = 3 ∨ x.kind = 4 then .agg #[.int .i64 x.k] else if x.kind = 2 then .agg #[sv] else if x.kind = 6 ∨ x.kind = 11 then .agg #[.int .i64 x.k, .int .i64 x.m] else .agg #[]
theorem bd71 (a : Int) (w : World) : (Instr.build 71 [(0, .int .i64 a)].toArray).run Tryz.prog w = .ok (.agg [.int .i64 a].toArray) w := by kernel_rfl
theorem bd74 (a : Int) (w : World) : (Instr.build 74 [(0, .int .i64 a)].toArray).run Tryz.prog w = .ok (.agg [.int .i64 a].toArray) w := by kernel_rfl
theorem bd75 (a : Int) (w : World) : (Instr.build 75 [(0, .int .i64 a)].toArray).run Tryz.prog w = .ok (.agg [.int .i64 a].toArray) w := by kernel_rfl
theorem bd73 (a : Option Addr) (n c : Nat) (w : World) : (Instr.build 73 [(0, .slice a n c)].toArray).run Tryz.prog w = .ok (.agg [.slice a n c].toArray) w := by kernel_rfl
theorem bd79 (a b : Int) (w : World) : (Instr.build 79 [(0, .int .i64 a), (1, .int .i64 b)].toArray).run Tryz.prog w = .ok (.agg [.int .i64 a, .int .i64 b].toArray) w := by kernel_rfl
theorem bd119 (a b : Int) (w : World) : (Instr.build 119 [(0, .int .i64 a), (1, .int .i64 b)].toArray).run Tryz.prog w = .ok (.agg [.int .i64 a, .int .i64 b].toArray) w := by kernel_rfl
theorem bd77 (w : World) : (Instr.build 77 [].toArray).run Tryz.prog w = .ok (.agg [].toArray) w := by kernel_rfl
theorem bd80 (w : World) : (Instr.build 80 [].toArray).run Tryz.prog w = .ok (.agg [].toArray) w := by kernel_rfl
theorem bd81 (w : World) : (Instr.build 81 [].toArray).run Tryz.prog w = .ok (.agg [].toArray) w := by kernel_rfl
theorem bd82 (w : World) : (Instr.build 82 [].toArray).run Tryz.prog w = .ok (.agg [].toArray) w := by kernel_rfl
theorem bd83 (w : World) : (Instr.build 83 [].toArray).run Tryz.prog w = .ok (.agg [].toArray) w := by kernel_rfl
theorem bd25_01 (a b : Int) (w : World) : (Instr.build 25 [(0, .int .u8 a), (1, .int .i64 b)].toArray).run Tryz.prog w = .ok (.agg [.int .u8 a, .int .i64 b, .int .i64 0, .int .i64 0, .int .i64 0, .slice none 0 0].toArray) w := by kernel_rfl

theorem ints_bare {w : World} {ad : Option Addr} {n cap : Nat} {l : List Int} (c : Bool) (h : IsInts w (.slice ad n cap) l) :
    IsInts w (.slice (if c = true then ad else none) (if c = true then n else 0) (if c = true then cap else 0)) (if c = true then l else []) := by
  cases c
  · exact ⟨none, 0, 0, 0, rfl, Nat.le_refl _, fun j x hj => by simp at hj⟩
  · exact h
/-- The elements of a slice, whatever their type. -/
theorem sl_open {α : Type} (enc : α → Value) {w : World} {v : Value} {l : List α} (h : IsSl w v (l.map enc)) : ∃ ad cap b o, v = .slice ad l.length cap ∧ l.length ≤ cap ∧ ∀ j (hj : j < l.length), ad = some ⟨b, o, none⟩ ∧ w.cell? ⟨b, o + j, none⟩ = some (enc l[j]) := by
  obtain ⟨ad, cap, b, o, h1, h2, h3⟩ := h
  simp only [List.length_map] at h1 h2
  exact ⟨ad, cap, b, o, h1, h2, fun j hj => h3 j _ (by simp [hj])⟩

/-- The method 'holds' of the type of a kind. -/
def claimM (k : Int) : Nat :=
  if k = 1 then 177 else if k = 2 then 178 else if k = 3 then 179 else if k = 4 then 180 else if k = 5 then 181 else if k = 6 then 182 else if k = 7 then 183 else if k = 8 then 184 else if k = 9 then 185 else if k = 10 then 186 else 187
end Go.Proofs.YtgbgddmbooaddaaGreatDoor

namespace Go.Proofs.YtgbgddmbooaddaaGreatDoor
open Go.RowKit

set_option maxRecDepth 100000 in
theorem small_any (x : Int) (w0 : World) : Calls Tryz.prog 63 #[.int .i64 x] w0 fun e w' => e = .returned (.bool (smallB x)) ∧ Ext w0 w' := by
  refine enterA 9 Tryz.func63 rfl Tryz.ntmps63 rfl (Hp w0 [] [] []) (Hp.init _) ?_
  refine H.seq ?_
  refine H.region ?_
  refine H.q (yl_assign rfl) rfl rfl (by decide) ?_
  refine HN.done ?_
  refine HN.keep [(0, _)] ⟨rfl, trivial⟩ ?_
  refine HN.then ?_
  refine H.seq ?_
  refine H.region ?_
  refine H.q (yl_move rfl) rfl rfl (by decide) ?_
  refine H.q (yl_geq rfl rfl) rfl rfl (by decide) ?_
  refine H.q (yl_move rfl) rfl rfl (by decide) ?_
  refine H.qg (wn_t rfl rfl (by decide) rfl) (fun hg => yl_sub [(0, _)] ⟨rfl, trivial⟩ (yl_move rfl)) rfl (by decide) ?_
  refine H.qg (wn_t rfl rfl (by decide) rfl) (fun hg => yl_sub [(6, _)] ⟨slT rfl hg, trivial⟩ (yl_leq rfl rfl)) rfl (by decide) ?_
  refine H.q (yl_and rfl rfl) rfl rfl (by decide) ?_
  refine H.q (yl_assign rfl) rfl rfl (by decide) ?_
  refine HN.done ?_
  refine HN.keep [(2, _)] ⟨rfl, trivial⟩ ?_
  refine HN.then ?_
  refine HR.ret ?_
  refine HR.ret1 _ Tryz.results63 rfl (fun w hw => ?_)
  exact ⟨rfl, hw.ext⟩

set_option maxRecDepth 100000 in
theorem rising_any (l : List Int) (v : Value) (w0 : World) (hl : l.length ≤ 4611686018427387904) (hv : IsSl w0 v (l.map (.int .i64))) : Calls Tryz.prog 64 #[v] w0 fun e w' => e = .returned (.bool (risingB l)) ∧ Ext w0 w' := by
  obtain ⟨ad, cap, b, o, rfl, hcap, hs⟩ := hv
  simp only [List.length_map] at hcap ⊢
  have hs1 : ∀ j, j < l.length → ad = some ⟨b, o, none⟩ ∧ w0.cell? ⟨b, o + j, none⟩ = some (.int .i64 (l.getD j 0)) := fun j hj => hs j _ (by simp [hj, List.getD])
  clear hs
  refine enterA 20 Tryz.func64 rfl Tryz.ntmps64 rfl (Hp w0 [] [] []) (Hp.init _) ?_
  refine H.seq ?_
  refine H.region ?_
  refine H.q (yl_assign rfl) rfl rfl (by decide) ?_
  refine HN.done ?_
  refine HN.keep [(0, _)] ⟨rfl, trivial⟩ ?_
  refine HN.then ?_
  refine H.seq ?_
  refine H.seq ?_
  refine H.region ?_
  refine H.q (yl_assign rfl) rfl rfl (by decide) ?_
  refine HN.done ?_
  refine HN.keep [(0, _), (3, _)] ⟨rfl, rfl, trivial⟩ ?_
  refine HN.then ?_
  refine H.block ?_
  refine H.loop (fun k : Nat => [(0, .slice ad l.length cap), (3, .int .i64 (k : Int))]) (fun k => 1 ≤ k ∧ k ≤ max 1 l.length ∧ ∀ j, j + 1 < k → l.getD j 0 < l.getD (j + 1) 0) (fun _ => Hp w0 [] [] []) (fun k => l.length - k) 1 ⟨by omega, by omega, fun j hj => by omega⟩ ⟨rfl, rfl, trivial⟩ (fun w hw => hw) (fun k hI => ?_)
  obtain ⟨hk1, hk2, hk3⟩ := hI
  refine H.seq ?_
  refine H.seq ?_
  refine H.region ?_
  refine H.q (yl_move rfl) rfl rfl (by decide) ?_
  refine H.q (yl_move rfl) rfl rfl (by decide) ?_
  refine H.q (yl_len rfl Tryz.underlying23 rfl) rfl rfl (by decide) ?_
  refine H.q (yl_lss rfl rfl) rfl rfl (by decide) ?_
  refine HN.done ?_
  refine HN.keep [(0, _), (3, _), (7, _)] ⟨rfl, rfl, rfl, trivial⟩ ?_
  refine HN.then ?_
  refine H.cond _ rfl (fun t0 => ?_) (fun t0 => ?_)
  · simp only [decide_eq_true_eq] at t0; have hk : k < l.length := by omega
    refine H.keep [(0, _), (3, _)] ⟨rfl, rfl, trivial⟩ ?_
    refine HN.skip ?_
    refine HN.then ?_
    refine H.seq ?_
    refine H.block ?_
    refine H.seq ?_
    refine H.regionQ Tryz.mixed (by kernel_rfl) (stab_hp _ _ _ _) ?_
    refine G.q (yl_move rfl) rfl rfl (by decide) ?_
    refine G.q (yl_move rfl) rfl rfl (by decide) ?_
    refine G.q (yl_sub' rfl rfl _ rfl (by omega)) rfl rfl (by decide) ?_
    refine G.q (yl_ix (k - 1) Tryz.underlying23 Tryz.sizeOf2 (hs1 (k - 1) (by omega)).1 rfl rfl (by omega) (by omega)) rfl rfl (by decide) ?_
    refine G.q (yl_load Tryz.isAgg2 rfl (fun w hw => cell_ext hw.ext (hs1 (k - 1) (by omega)).2)) rfl rfl (by decide) ?_
    refine G.q (yl_move rfl) rfl rfl (by decide) ?_
    refine G.q (yl_move rfl) rfl rfl (by decide) ?_
    refine G.q (yl_ix k Tryz.underlying23 Tryz.sizeOf2 (hs1 k hk).1 rfl rfl rfl hk) rfl rfl (by decide) ?_
    refine G.q (yl_load Tryz.isAgg2 rfl (fun w hw => cell_ext hw.ext (hs1 k hk).2)) rfl rfl (by decide) ?_
    refine G.q (yl_geq rfl rfl) rfl rfl (by decide) ?_
    refine HN.doneG ?_
    refine HN.keep [(0, _), (3, _), (19, _)] ⟨rfl, rfl, rfl, trivial⟩ ?_
    refine HN.then ?_
    refine H.cond _ rfl (fun t1 => ?_) (fun t1 => ?_)
    · simp only [decide_eq_true_eq] at t1
      refine H.keep [] trivial ?_
      refine H.seq ?_
      refine H.region ?_
      refine H.q (yl_assign rfl) rfl rfl (by decide) ?_
      refine HN.done ?_
      refine HN.keep [(2, _)] ⟨rfl, trivial⟩ ?_
      refine HN.then ?_
      refine HR.ret ?_
      refine HR.block ?_
      refine HR.then ?_
      refine HR.then ?_
      refine HR.block ?_
      refine HR.then ?_
      refine HR.ret1 _ Tryz.results64 rfl (fun w hw => ?_)
      exact ⟨by rw [risingB_false (k - 1) (by omega) (by rw [show k - 1 + 1 = k from by omega]; omega)], hw.ext⟩
    · simp only [decide_eq_false_iff_not] at t1
      refine H.keep [(0, _), (3, _)] ⟨rfl, rfl, trivial⟩ ?_
      refine HN.skip ?_
      refine HN.block ?_
      refine HN.then ?_
      refine H.region ?_
      refine H.q (yl_move rfl) rfl rfl (by decide) ?_
      refine H.q (yl_add rfl rfl _ rfl (by omega)) rfl rfl (by decide) ?_
      refine H.q (yl_assign rfl) rfl rfl (by decide) ?_
      refine HN.done ?_
      refine HN.keep [(0, _), (3, _)] ⟨rfl, rfl, trivial⟩ ?_
      refine HN.then ?_
      have hn : ∀ j, j + 1 < k + 1 → l.getD j 0 < l.getD (j + 1) 0 := fun j hj => by
        by_cases h : j + 1 < k
        · exact hk3 j h
        · obtain rfl : j = k - 1 := by omega
          rw [show k - 1 + 1 = k from by omega]
          omega
      exact H.at (k + 1) ⟨⟨by omega, by omega, hn⟩, by omega⟩ ⟨rfl, rfl, trivial⟩ (fun w hw => hw)
  · simp only [decide_eq_false_iff_not] at t0
    refine H.keep [] trivial ?_
    refine HX.exit ?_
    refine HX.then ?_
    refine HX.then ?_
    refine HX.hit ?_
    refine HN.then ?_
    refine H.seq ?_
    refine H.region ?_
    refine H.q (yl_assign rfl) rfl rfl (by decide) ?_
    refine HN.done ?_
    refine HN.keep [(2, _)] ⟨rfl, trivial⟩ ?_
    refine HN.then ?_
    refine HR.ret ?_
    refine HR.ret1 _ Tryz.results64 rfl (fun w hw => ?_)
    exact ⟨by rw [risingB_true fun j hj => hk3 j (by omega)], hw.ext⟩

end Go.Proofs.YtgbgddmbooaddaaGreatDoor

namespace Go.Proofs.YtgbgddmbooaddaaGreatDoor
open Go.RowKit

set_option maxRecDepth 100000 in
theorem plain_any (x : Int) (w0 : World) : Calls Tryz.prog 48 #[.int .i64 x] w0 fun e w' => e = .returned (.bool (smallB x)) ∧ Ext w0 w' := by
  refine enterA 9 Tryz.func48 rfl Tryz.ntmps48 rfl (Hp w0 [] [] []) (Hp.init _) ?_
  refine H.seq ?_
  refine H.region ?_
  refine H.q (yl_assign rfl) rfl rfl (by decide) ?_
  refine HN.done ?_
  refine HN.keep [(0, _)] ⟨rfl, trivial⟩ ?_
  refine HN.then ?_
  refine H.seq ?_
  refine H.region ?_
  refine H.q (yl_move rfl) rfl rfl (by decide) ?_
  refine H.q (yl_geq rfl rfl) rfl rfl (by decide) ?_
  refine H.q (yl_move rfl) rfl rfl (by decide) ?_
  refine H.qg (wn_t rfl rfl (by decide) rfl) (fun hg => yl_sub [(0, _)] ⟨rfl, trivial⟩ (yl_move rfl)) rfl (by decide) ?_
  refine H.qg (wn_t rfl rfl (by decide) rfl) (fun hg => yl_sub [(6, _)] ⟨slT rfl hg, trivial⟩ (yl_leq rfl rfl)) rfl (by decide) ?_
  refine H.q (yl_and rfl rfl) rfl rfl (by decide) ?_
  refine H.q (yl_assign rfl) rfl rfl (by decide) ?_
  refine HN.done ?_
  refine HN.keep [(2, _)] ⟨rfl, trivial⟩ ?_
  refine HN.then ?_
  refine HR.ret ?_
  refine HR.ret1 _ Tryz.results48 rfl (fun w hw => ?_)
  exact ⟨rfl, hw.ext⟩

set_option maxRecDepth 100000 in
theorem two_any (k : Int) (w0 : World) : Calls Tryz.prog 65 #[.int .u8 k] w0 fun e w' => e = .returned (.bool (twoB k)) ∧ Ext w0 w' := by
  refine enterA 9 Tryz.func65 rfl Tryz.ntmps65 rfl (Hp w0 [] [] []) (Hp.init _) ?_
  refine H.seq ?_
  refine H.region ?_
  refine H.q (yl_assign rfl) rfl rfl (by decide) ?_
  refine HN.done ?_
  refine HN.keep [(0, _)] ⟨rfl, trivial⟩ ?_
  refine HN.then ?_
  refine H.seq ?_
  refine H.region ?_
  refine H.q (yl_move rfl) rfl rfl (by decide) ?_
  refine H.q (yl_geq rfl rfl) rfl rfl (by decide) ?_
  refine H.q (yl_move rfl) rfl rfl (by decide) ?_
  refine H.qg (wn_t rfl rfl (by decide) rfl) (fun hg => yl_sub [(0, _)] ⟨rfl, trivial⟩ (yl_move rfl)) rfl (by decide) ?_
  refine H.qg (wn_t rfl rfl (by decide) rfl) (fun hg => yl_sub [(6, _)] ⟨slT rfl hg, trivial⟩ (yl_leq rfl rfl)) rfl (by decide) ?_
  refine H.q (yl_and rfl rfl) rfl rfl (by decide) ?_
  refine H.q (yl_assign rfl) rfl rfl (by decide) ?_
  refine HN.done ?_
  refine HN.keep [(2, _)] ⟨rfl, trivial⟩ ?_
  refine HN.then ?_
  refine HR.ret ?_
  refine HR.ret1 _ Tryz.results65 rfl (fun w hw => ?_)
  exact ⟨rfl, hw.ext⟩

set_option maxRecDepth 100000 in
theorem numbers_any (x : Inv) (sv : Value) (w0 : World) (hl : x.set.length ≤ 4611686018427387904) (hv : IsInts w0 sv x.set) : Calls Tryz.prog 66 #[(.agg [.int .u8 x.kind, .int .i64 x.a, .int .i64 x.b, .int .i64 x.k, .int .i64 x.m, sv].toArray)] w0 fun e w' => e = .returned (.int .i64 (numE x)) ∧ Ext w0 w' := by
  obtain ⟨ad, cap, b, o, rfl, hcap, hs⟩ := ints_open hv
  refine enterA 84 Tryz.func66 rfl Tryz.ntmps66 rfl (Hp w0 [] [] []) (Hp.init _) ?_
  refine H.seq ?_
  refine H.region ?_
  refine H.boxA rfl (by decide) (fun b1 hb1 => ?_)
  refine H.q (yl_assign rfl) rfl rfl (by decide) ?_
  refine HN.done ?_
  refine HN.keep [(1, _)] ⟨rfl, trivial⟩ ?_
  refine HN.then ?_
  refine H.seq ?_
  refine H.region ?_
  refine H.q (yl_fieldAddr _ fa25_3 rfl) rfl rfl (by decide) ?_
  refine H.q (yl_load Tryz.isAgg2 rfl (fun w hw => hw.cell 0 rfl rfl)) rfl rfl (by decide) ?_
  refine H.q (yl_call (xs := [.tmp 7]) Tryz.call48 (stab_hp _ _ _ _) rfl (fun w hw => plain_any _ w)) rfl rfl (by decide) ?_
  refine H.q (yl_move rfl) rfl rfl (by decide) ?_
  refine H.qg (wn_t rfl rfl (by decide) rfl) (fun hg => yl_sub [(1, _)] ⟨rfl, trivial⟩ (yl_fieldAddr _ fa25_4 rfl)) rfl (by decide) ?_
  refine H.qg (wn_t rfl rfl (by decide) rfl) (fun hg => yl_sub [(10, _)] ⟨slT rfl hg, trivial⟩ (yl_load Tryz.isAgg2 rfl (fun w hw => hw.cell 0 rfl rfl))) rfl (by decide) ?_
  refine H.qg (wn_t rfl rfl (by decide) rfl) (fun hg => yl_sub [(11, _)] ⟨slT rfl hg, trivial⟩ (yl_call (xs := [.tmp 11]) Tryz.call48 (stab_hp _ _ _ _) rfl (fun w hw => plain_any _ w))) rfl (by decide) ?_
  refine H.q (yl_and rfl rfl) rfl rfl (by decide) ?_
  refine H.q (yl_assign rfl) rfl rfl (by decide) ?_
  refine HN.done ?_
  refine HN.keep [(1, _), (3, _)] ⟨rfl, rfl, trivial⟩ ?_
  refine HN.then ?_
  refine H.seq ?_
  refine H.seq ?_
  refine H.region ?_
  refine H.q (yl_assign rfl) rfl rfl (by decide) ?_
  refine HN.done ?_
  refine HN.keep [(1, _), (3, _), (4, _)] ⟨rfl, rfl, rfl, trivial⟩ ?_
  refine HN.then ?_
  refine H.block ?_
  refine H.loop (fun k : Nat => [(1, .pointer (some ⟨b1, 0, none⟩)), (3, .bool (okTo x k)), (4, .int .i64 (k : Int))]) (fun k => k ≤ x.set.length) (fun _ => Hp w0 [(b1, ex (.cells [.int .u8 x.kind, .int .i64 x.a, .int .i64 x.b, .int .i64 x.k, .int .i64 x.m, .slice ad x.set.length cap].toArray 25))] [] []) (fun k => x.set.length - k) 0 (Nat.zero_le _) ⟨rfl, by rw [okTo_zero]; rfl, rfl, trivial⟩ (fun w hw => hw) (fun k hk0 => ?_)
  refine H.seq ?_
  refine H.seq ?_
  refine H.region ?_
  refine H.q (yl_move rfl) rfl rfl (by decide) ?_
  refine H.q (yl_fieldAddr _ fa25_5 rfl) rfl rfl (by decide) ?_
  refine H.q (yl_load Tryz.isAgg23 rfl (fun w hw => hw.cell 0 rfl rfl)) rfl rfl (by decide) ?_
  refine H.q (yl_len rfl Tryz.underlying23 rfl) rfl rfl (by decide) ?_
  refine H.q (yl_lss rfl rfl) rfl rfl (by decide) ?_
  refine HN.done ?_
  refine HN.keep [(1, _), (3, _), (4, _), (18, _)] ⟨rfl, rfl, rfl, rfl, trivial⟩ ?_
  refine HN.then ?_
  refine H.cond _ rfl (fun t0 => ?_) (fun t0 => ?_)
  · simp only [decide_eq_true_eq] at t0; have hk : k < x.set.length := by omega
    refine H.keep [(1, _), (3, _), (4, _)] ⟨rfl, rfl, rfl, trivial⟩ ?_
    refine HN.skip ?_
    refine HN.then ?_
    refine H.seq ?_
    refine H.block ?_
    refine H.region ?_
    refine H.q (yl_move rfl) rfl rfl (by decide) ?_
    refine H.q (yl_move rfl) rfl rfl (by decide) ?_
    refine H.qg (wn_t rfl rfl (by decide) rfl) (fun hg => yl_sub [(1, _)] ⟨rfl, trivial⟩ (yl_fieldAddr _ fa25_5 rfl)) rfl (by decide) ?_
    refine H.qg (wn_t rfl rfl (by decide) rfl) (fun hg => yl_sub [(23, _)] ⟨slT rfl hg, trivial⟩ (yl_load Tryz.isAgg23 rfl (fun w hw => hw.cell 0 rfl rfl))) rfl (by decide) ?_
    refine H.qg (wn_t rfl rfl (by decide) rfl) (fun hg => yl_sub [(4, _)] ⟨rfl, trivial⟩ (yl_move rfl)) rfl (by decide) ?_
    refine H.qg (wn_t rfl rfl (by decide) rfl) (fun hg => yl_sub [(24, _), (25, _)] ⟨slT rfl hg, slT rfl hg, trivial⟩ (yl_ix k Tryz.underlying23 Tryz.sizeOf2 (hs k hk).1 rfl rfl rfl hk)) rfl (by decide) ?_
    refine H.qg (wn_t rfl rfl (by decide) rfl) (fun hg => yl_sub [(26, _)] ⟨slT rfl hg, trivial⟩ (yl_load Tryz.isAgg2 rfl (fun w hw => cell_ext hw.ext (hs k hk).2))) rfl (by decide) ?_
    refine H.qg (wn_t rfl rfl (by decide) rfl) (fun hg => yl_sub [(27, _)] ⟨slT rfl hg, trivial⟩ (yl_call (xs := [.tmp 27]) Tryz.call48 (stab_hp _ _ _ _) rfl (fun w hw => plain_any _ w))) rfl (by decide) ?_
    refine H.q (yl_and rfl rfl) rfl rfl (by decide) ?_
    refine H.q (yl_assign rfl) rfl rfl (by decide) ?_
    refine HN.done ?_
    refine HN.keep [(1, _), (3, _), (4, _)] ⟨rfl, rfl, rfl, trivial⟩ ?_
    refine HN.block ?_
    refine HN.then ?_
    refine H.region ?_
    refine H.q (yl_move rfl) rfl rfl (by decide) ?_
    refine H.q (yl_add rfl rfl _ rfl (by omega)) rfl rfl (by decide) ?_
    refine H.q (yl_assign rfl) rfl rfl (by decide) ?_
    refine HN.done ?_
    refine HN.keep [(1, _), (3, _), (4, _)] ⟨rfl, rfl, rfl, trivial⟩ ?_
    refine HN.then ?_
    exact H.at (k + 1) ⟨by omega, by omega⟩ ⟨rfl, by rw [okTo_succ hk]; rfl, rfl, trivial⟩ (fun w hw => hw)
  · simp only [decide_eq_false_iff_not] at t0; obtain rfl : k = x.set.length := by omega
    clear t0 hk0
    refine H.keep [(1, _), (3, _)] ⟨rfl, rfl, trivial⟩ ?_
    refine HX.exit ?_
    refine HX.then ?_
    refine HX.then ?_
    refine HX.hit ?_
    refine HN.then ?_
    refine H.seq ?_
    refine H.seq ?_
    refine H.region ?_
    refine H.q (yl_move rfl) rfl rfl (by decide) ?_
    refine H.q (yl_not rfl) rfl rfl (by decide) ?_
    refine HN.done ?_
    refine HN.keep [(1, _), (31, _)] ⟨rfl, rfl, trivial⟩ ?_
    refine HN.then ?_
    refine H.cond _ rfl (fun t1 => ?_) (fun t1 => ?_)
    · refine H.keep [] trivial ?_
      refine H.seq ?_
      refine H.region ?_
      refine H.q (yl_assign rfl) rfl rfl (by decide) ?_
      refine HN.done ?_
      refine HN.keep [(2, _)] ⟨rfl, trivial⟩ ?_
      refine HN.then ?_
      refine HR.ret ?_
      refine HR.then ?_
      refine HR.ret1 _ Tryz.results66 rfl (fun w hw => ?_)
      exact ⟨by rw [numE_small (by rw [← okTo_len]; simpa using t1)], hw.ext⟩
    · refine H.keep [(1, _)] ⟨rfl, trivial⟩ ?_
      refine HN.skip ?_
      refine HN.then ?_
      -- branchy seq 0, live: [1]
      refine H.seq ?_
      refine H.seq ?_
      refine H.region ?_
      refine H.q (yl_fieldAddr _ fa25_0 rfl) rfl rfl (by decide) ?_
      refine H.q (yl_load Tryz.isAgg22 rfl (fun w hw => hw.cell 0 rfl rfl)) rfl rfl (by decide) ?_
      refine H.q (yl_eql rfl rfl) rfl rfl (by decide) ?_
      refine HN.done ?_
      refine HN.keep [(1, _), (34, _)] ⟨rfl, rfl, trivial⟩ ?_
      refine HN.then ?_
      refine H.cond _ rfl (fun t2 => ?_) (fun t2 => ?_)
      · refine H.keep [(1, _)] ⟨rfl, trivial⟩ ?_
        refine H.seq ?_
        refine H.seq ?_
        refine H.region ?_
        refine H.q (yl_fieldAddr _ fa25_5 rfl) rfl rfl (by decide) ?_
        refine H.q (yl_load Tryz.isAgg23 rfl (fun w hw => hw.cell 0 rfl rfl)) rfl rfl (by decide) ?_
        refine H.q (yl_len rfl Tryz.underlying23 rfl) rfl rfl (by decide) ?_
        refine H.q (yl_lss rfl rfl) rfl rfl (by decide) ?_
        refine H.q (yl_move rfl) rfl rfl (by decide) ?_
        refine H.qg (wn_f rfl rfl (by decide) rfl) (fun hg => yl_sub [(1, _)] ⟨rfl, trivial⟩ (yl_fieldAddr _ fa25_5 rfl)) rfl (by decide) ?_
        refine H.qg (wn_f rfl rfl (by decide) rfl) (fun hg => yl_sub [(40, _)] ⟨slT rfl hg, trivial⟩ (yl_load Tryz.isAgg23 rfl (fun w hw => hw.cell 0 rfl rfl))) rfl (by decide) ?_
        refine H.qg (wn_f rfl rfl (by decide) rfl) (fun hg => yl_sub [(41, _)] ⟨slT rfl hg, trivial⟩ (yl_len rfl Tryz.underlying23 rfl)) rfl (by decide) ?_
        refine H.qg (wn_f rfl rfl (by decide) rfl) (fun hg => yl_sub [(42, _)] ⟨slT rfl hg, trivial⟩ (yl_gtr rfl rfl)) rfl (by decide) ?_
        refine H.q (yl_or rfl rfl) rfl rfl (by decide) ?_
        refine HN.done ?_
        refine HN.keep [(1, _), (44, _)] ⟨rfl, rfl, trivial⟩ ?_
        refine HN.then ?_
        refine H.cond _ rfl (fun t3 => ?_) (fun t3 => ?_)
        · refine H.keep [] trivial ?_
          refine H.seq ?_
          refine H.region ?_
          refine H.q (yl_assign rfl) rfl rfl (by decide) ?_
          refine HN.done ?_
          refine HN.keep [(2, _)] ⟨rfl, trivial⟩ ?_
          refine HN.then ?_
          refine HR.ret ?_
          refine HR.then ?_
          refine HR.then ?_
          refine HR.ret1 _ Tryz.results66 rfl (fun w hw => ?_)
          refine ⟨?_, hw.ext⟩
          clear hw
          congr 2
          rw [okTo_len] at t1
          unfold numE hasSB
          simp_all
        · refine H.keep [(1, _)] ⟨rfl, trivial⟩ ?_
          refine HN.skip ?_
          refine HN.then ?_
          refine H.seq ?_
          refine H.region ?_
          refine H.q (yl_assign rfl) rfl rfl (by decide) ?_
          refine HN.done ?_
          refine HN.keep [(1, _), (5, _)] ⟨rfl, rfl, trivial⟩ ?_
          refine HN.then ?_
          refine H.block ?_
          refine H.loop (fun k : Nat => [(1, .pointer (some ⟨b1, 0, none⟩)), (5, .int .i64 (k : Int))]) (fun k => 1 ≤ k ∧ k ≤ max 1 x.set.length ∧ ∀ j, j + 1 < k → x.set.getD j 0 < x.set.getD (j + 1) 0) (fun _ => Hp w0 [(b1, ex (.cells [.int .u8 x.kind, .int .i64 x.a, .int .i64 x.b, .int .i64 x.k, .int .i64 x.m, .slice ad x.set.length cap].toArray 25))] [] []) (fun k => x.set.length - k) 1 ⟨by omega, by omega, fun j hj => by omega⟩ ⟨rfl, rfl, trivial⟩ (fun w hw => hw) (fun k hI => ?_)
          obtain ⟨hk1, hk2, hk3⟩ := hI
          refine H.seq ?_
          refine H.seq ?_
          refine H.region ?_
          refine H.q (yl_move rfl) rfl rfl (by decide) ?_
          refine H.q (yl_fieldAddr _ fa25_5 rfl) rfl rfl (by decide) ?_
          refine H.q (yl_load Tryz.isAgg23 rfl (fun w hw => hw.cell 0 rfl rfl)) rfl rfl (by decide) ?_
          refine H.q (yl_len rfl Tryz.underlying23 rfl) rfl rfl (by decide) ?_
          refine H.q (yl_lss rfl rfl) rfl rfl (by decide) ?_
          refine HN.done ?_
          refine HN.keep [(1, _), (5, _), (49, _)] ⟨rfl, rfl, rfl, trivial⟩ ?_
          refine HN.then ?_
          refine H.cond _ rfl (fun t4 => ?_) (fun t4 => ?_)
          · simp only [decide_eq_true_eq] at t4; have hk : k < x.set.length := by omega
            refine H.keep [(1, _), (5, _)] ⟨rfl, rfl, trivial⟩ ?_
            refine HN.skip ?_
            refine HN.then ?_
            refine H.seq ?_
            refine H.block ?_
            refine H.seq ?_
            refine H.regionQ Tryz.mixed (by kernel_rfl) (stab_hp _ _ _ _) ?_
            refine G.q (yl_fieldAddr _ fa25_5 rfl) rfl rfl (by decide) ?_
            refine G.q (yl_load Tryz.isAgg23 rfl (fun w hw => hw.cell 0 rfl rfl)) rfl rfl (by decide) ?_
            refine G.q (yl_move rfl) rfl rfl (by decide) ?_
            refine G.q (yl_sub' rfl rfl _ rfl (by omega)) rfl rfl (by decide) ?_
            refine G.q (yl_ix (k - 1) Tryz.underlying23 Tryz.sizeOf2 (hs (k - 1) (by omega)).1 rfl rfl (by omega) (by omega)) rfl rfl (by decide) ?_
            refine G.q (yl_load Tryz.isAgg2 rfl (fun w hw => cell_ext hw.ext (hs (k - 1) (by omega)).2)) rfl rfl (by decide) ?_
            refine G.q (yl_fieldAddr _ fa25_5 rfl) rfl rfl (by decide) ?_
            refine G.q (yl_load Tryz.isAgg23 rfl (fun w hw => hw.cell 0 rfl rfl)) rfl rfl (by decide) ?_
            refine G.q (yl_move rfl) rfl rfl (by decide) ?_
            refine G.q (yl_ix k Tryz.underlying23 Tryz.sizeOf2 (hs k hk).1 rfl rfl rfl hk) rfl rfl (by decide) ?_
            refine G.q (yl_load Tryz.isAgg2 rfl (fun w hw => cell_ext hw.ext (hs k hk).2)) rfl rfl (by decide) ?_
            refine G.q (yl_geq rfl rfl) rfl rfl (by decide) ?_
            refine HN.doneG ?_
            refine HN.keep [(1, _), (5, _), (63, _)] ⟨rfl, rfl, rfl, trivial⟩ ?_
            refine HN.then ?_
            refine H.cond _ rfl (fun t5 => ?_) (fun t5 => ?_)
            · simp only [decide_eq_true_eq] at t5
              have hris : risingB x.set = false := risingB_false (k - 1) (by omega) (by rw [show k - 1 + 1 = k from by omega]; omega)
              refine H.keep [] trivial ?_
              refine H.seq ?_
              refine H.region ?_
              refine H.q (yl_assign rfl) rfl rfl (by decide) ?_
              refine HN.done ?_
              refine HN.keep [(2, _)] ⟨rfl, trivial⟩ ?_
              refine HN.then ?_
              refine HR.ret ?_
              refine HR.block ?_
              refine HR.then ?_
              refine HR.then ?_
              refine HR.block ?_
              refine HR.then ?_
              refine HR.ret1 _ Tryz.results66 rfl (fun w hw => ?_)
              refine ⟨?_, hw.ext⟩
              clear hw
              congr 2
              rw [okTo_len] at t1
              unfold numE hasSB
              simp_all
            · simp only [decide_eq_false_iff_not] at t5
              refine H.keep [(1, _), (5, _)] ⟨rfl, rfl, trivial⟩ ?_
              refine HN.skip ?_
              refine HN.block ?_
              refine HN.then ?_
              refine H.region ?_
              refine H.q (yl_move rfl) rfl rfl (by decide) ?_
              refine H.q (yl_add rfl rfl _ rfl (by omega)) rfl rfl (by decide) ?_
              refine H.q (yl_assign rfl) rfl rfl (by decide) ?_
              refine HN.done ?_
              refine HN.keep [(1, _), (5, _)] ⟨rfl, rfl, trivial⟩ ?_
              refine HN.then ?_
              have hn : ∀ j, j + 1 < k + 1 → x.set.getD j 0 < x.set.getD (j + 1) 0 := fun j hj => by
                by_cases h : j + 1 < k
                · exact hk3 j h
                · obtain rfl : j = k - 1 := by omega
                  rw [show k - 1 + 1 = k from by omega]
                  omega
              exact H.at (k + 1) ⟨⟨by omega, by omega, hn⟩, by omega⟩ ⟨rfl, rfl, trivial⟩ (fun w hw => hw)
          · simp only [decide_eq_false_iff_not] at t4
            have hris : risingB x.set = true := risingB_true fun j hj => hk3 j (by omega)
            refine H.keep [(1, _)] ⟨rfl, trivial⟩ ?_
            refine HX.exit ?_
            refine HX.then ?_
            refine HX.then ?_
            refine HX.hit ?_
            refine HN.then ?_
            refine H.seq ?_
            refine H.seq ?_
            refine H.region ?_
            refine H.q (yl_fieldAddr _ fa25_0 rfl) rfl rfl (by decide) ?_
            refine H.q (yl_load Tryz.isAgg22 rfl (fun w hw => hw.cell 0 rfl rfl)) rfl rfl (by decide) ?_
            refine H.q (yl_eql rfl rfl) rfl rfl (by decide) ?_
            refine H.q (yl_move rfl) rfl rfl (by decide) ?_
            refine H.qg (wn_t rfl rfl (by decide) rfl) (fun hg => yl_sub [(1, _)] ⟨rfl, trivial⟩ (yl_fieldAddr _ fa25_4 rfl)) rfl (by decide) ?_
            refine H.qg (wn_t rfl rfl (by decide) rfl) (fun hg => yl_sub [(68, _)] ⟨slT rfl hg, trivial⟩ (yl_load Tryz.isAgg2 rfl (fun w hw => hw.cell 0 rfl rfl))) rfl (by decide) ?_
            refine H.qg (wn_t rfl rfl (by decide) rfl) (fun hg => yl_sub [(69, _)] ⟨slT rfl hg, trivial⟩ (yl_lss rfl rfl)) rfl (by decide) ?_
            refine H.qg (wn_t rfl rfl (by decide) rfl) (fun hg => yl_sub [(70, _)] ⟨slT rfl hg, trivial⟩ (yl_move rfl)) rfl (by decide) ?_
            refine H.qg (wn_gf rfl rfl (by decide) rfl) (fun hg => yl_sub [(1, _)] ⟨rfl, trivial⟩ (yl_fieldAddr _ fa25_3 rfl)) rfl (by decide) ?_
            refine H.qg (wn_gf rfl rfl (by decide) rfl) (fun hg => yl_sub [(72, _)] ⟨slT rfl hg, trivial⟩ (yl_load Tryz.isAgg2 rfl (fun w hw => hw.cell 0 rfl rfl))) rfl (by decide) ?_
            refine H.qg (wn_gf rfl rfl (by decide) rfl) (fun hg => yl_sub [(73, _)] ⟨slT rfl hg, trivial⟩ (yl_lss rfl rfl)) rfl (by decide) ?_
            refine H.qg (wn_t rfl rfl (by decide) rfl) (fun hg => yl_sub [(71, _), (74, _)] ⟨slT rfl hg, slA rfl hg, trivial⟩ (yl_or rfl rfl)) rfl (by decide) ?_
            refine H.qg (wn_t rfl rfl (by decide) rfl) (fun hg => yl_sub [(75, _)] ⟨slT rfl hg, trivial⟩ (yl_move rfl)) rfl (by decide) ?_
            refine H.qg (wn_gf rfl rfl (by decide) rfl) (fun hg => yl_sub [(1, _)] ⟨rfl, trivial⟩ (yl_fieldAddr _ fa25_3 rfl)) rfl (by decide) ?_
            refine H.qg (wn_gf rfl rfl (by decide) rfl) (fun hg => yl_sub [(77, _)] ⟨slT rfl hg, trivial⟩ (yl_load Tryz.isAgg2 rfl (fun w hw => hw.cell 0 rfl rfl))) rfl (by decide) ?_
            refine H.qg (wn_gf rfl rfl (by decide) rfl) (fun hg => yl_sub [(1, _)] ⟨rfl, trivial⟩ (yl_fieldAddr _ fa25_4 rfl)) rfl (by decide) ?_
            refine H.qg (wn_gf rfl rfl (by decide) rfl) (fun hg => yl_sub [(79, _)] ⟨slT rfl hg, trivial⟩ (yl_load Tryz.isAgg2 rfl (fun w hw => hw.cell 0 rfl rfl))) rfl (by decide) ?_
            refine H.qg (wn_gf rfl rfl (by decide) rfl) (fun hg => yl_sub [(78, _), (80, _)] ⟨slT rfl hg, slT rfl hg, trivial⟩ (yl_geq rfl rfl)) rfl (by decide) ?_
            refine H.qg (wn_t rfl rfl (by decide) rfl) (fun hg => yl_sub [(76, _), (81, _)] ⟨slT rfl hg, slA rfl hg, trivial⟩ (yl_or rfl rfl)) rfl (by decide) ?_
            refine H.q (yl_and rfl rfl) rfl rfl (by decide) ?_
            refine HN.done ?_
            refine HN.keep [(83, _)] ⟨rfl, trivial⟩ ?_
            refine HN.then ?_
            refine H.cond _ rfl (fun t6 => ?_) (fun t6 => ?_)
            · refine H.keep [] trivial ?_
              refine H.seq ?_
              refine H.region ?_
              refine H.q (yl_assign rfl) rfl rfl (by decide) ?_
              refine HN.done ?_
              refine HN.keep [(2, _)] ⟨rfl, trivial⟩ ?_
              refine HN.then ?_
              refine HR.ret ?_
              refine HR.then ?_
              refine HR.ret1 _ Tryz.results66 rfl (fun w hw => ?_)
              refine ⟨?_, hw.ext⟩
              clear hw
              congr 2
              rw [okTo_len] at t1
              unfold numE hasSB
              simp_all
            · refine H.keep [] trivial ?_
              refine HN.skip ?_
              refine HN.then ?_
              refine H.seq ?_
              refine H.region ?_
              refine H.q (yl_assign rfl) rfl rfl (by decide) ?_
              refine HN.done ?_
              refine HN.keep [(2, _)] ⟨rfl, trivial⟩ ?_
              refine HN.then ?_
              refine HR.ret ?_
              refine HR.ret1 _ Tryz.results66 rfl (fun w hw => ?_)
              refine ⟨?_, hw.ext⟩
              clear hw
              congr 2
              rw [okTo_len] at t1
              unfold numE hasSB
              simp_all
      · refine H.keep [(1, _)] ⟨rfl, trivial⟩ ?_
        refine HN.skip ?_
        refine HN.then ?_
        refine H.seq ?_
        refine H.seq ?_
        refine H.region ?_
        refine H.q (yl_fieldAddr _ fa25_0 rfl) rfl rfl (by decide) ?_
        refine H.q (yl_load Tryz.isAgg22 rfl (fun w hw => hw.cell 0 rfl rfl)) rfl rfl (by decide) ?_
        refine H.q (yl_eql rfl rfl) rfl rfl (by decide) ?_
        refine H.q (yl_move rfl) rfl rfl (by decide) ?_
        refine H.qg (wn_t rfl rfl (by decide) rfl) (fun hg => yl_sub [(1, _)] ⟨rfl, trivial⟩ (yl_fieldAddr _ fa25_4 rfl)) rfl (by decide) ?_
        refine H.qg (wn_t rfl rfl (by decide) rfl) (fun hg => yl_sub [(68, _)] ⟨slT rfl hg, trivial⟩ (yl_load Tryz.isAgg2 rfl (fun w hw => hw.cell 0 rfl rfl))) rfl (by decide) ?_
        refine H.qg (wn_t rfl rfl (by decide) rfl) (fun hg => yl_sub [(69, _)] ⟨slT rfl hg, trivial⟩ (yl_lss rfl rfl)) rfl (by decide) ?_
        refine H.qg (wn_t rfl rfl (by decide) rfl) (fun hg => yl_sub [(70, _)] ⟨slT rfl hg, trivial⟩ (yl_move rfl)) rfl (by decide) ?_
        refine H.qg (wn_gf rfl rfl (by decide) rfl) (fun hg => yl_sub [(1, _)] ⟨rfl, trivial⟩ (yl_fieldAddr _ fa25_3 rfl)) rfl (by decide) ?_
        refine H.qg (wn_gf rfl rfl (by decide) rfl) (fun hg => yl_sub [(72, _)] ⟨slT rfl hg, trivial⟩ (yl_load Tryz.isAgg2 rfl (fun w hw => hw.cell 0 rfl rfl))) rfl (by decide) ?_
        refine H.qg (wn_gf rfl rfl (by decide) rfl) (fun hg => yl_sub [(73, _)] ⟨slT rfl hg, trivial⟩ (yl_lss rfl rfl)) rfl (by decide) ?_
        refine H.qg (wn_t rfl rfl (by decide) rfl) (fun hg => yl_sub [(71, _), (74, _)] ⟨slT rfl hg, slA rfl hg, trivial⟩ (yl_or rfl rfl)) rfl (by decide) ?_
        refine H.qg (wn_t rfl rfl (by decide) rfl) (fun hg => yl_sub [(75, _)] ⟨slT rfl hg, trivial⟩ (yl_move rfl)) rfl (by decide) ?_
        refine H.qg (wn_gf rfl rfl (by decide) rfl) (fun hg => yl_sub [(1, _)] ⟨rfl, trivial⟩ (yl_fieldAddr _ fa25_3 rfl)) rfl (by decide) ?_
        refine H.qg (wn_gf rfl rfl (by decide) rfl) (fun hg => yl_sub [(77, _)] ⟨slT rfl hg, trivial⟩ (yl_load Tryz.isAgg2 rfl (fun w hw => hw.cell 0 rfl rfl))) rfl (by decide) ?_
        refine H.qg (wn_gf rfl rfl (by decide) rfl) (fun hg => yl_sub [(1, _)] ⟨rfl, trivial⟩ (yl_fieldAddr _ fa25_4 rfl)) rfl (by decide) ?_
        refine H.qg (wn_gf rfl rfl (by decide) rfl) (fun hg => yl_sub [(79, _)] ⟨slT rfl hg, trivial⟩ (yl_load Tryz.isAgg2 rfl (fun w hw => hw.cell 0 rfl rfl))) rfl (by decide) ?_
        refine H.qg (wn_gf rfl rfl (by decide) rfl) (fun hg => yl_sub [(78, _), (80, _)] ⟨slT rfl hg, slT rfl hg, trivial⟩ (yl_geq rfl rfl)) rfl (by decide) ?_
        refine H.qg (wn_t rfl rfl (by decide) rfl) (fun hg => yl_sub [(76, _), (81, _)] ⟨slT rfl hg, slA rfl hg, trivial⟩ (yl_or rfl rfl)) rfl (by decide) ?_
        refine H.q (yl_and rfl rfl) rfl rfl (by decide) ?_
        refine HN.done ?_
        refine HN.keep [(83, _)] ⟨rfl, trivial⟩ ?_
        refine HN.then ?_
        refine H.cond _ rfl (fun t7 => ?_) (fun t7 => ?_)
        · refine H.keep [] trivial ?_
          refine H.seq ?_
          refine H.region ?_
          refine H.q (yl_assign rfl) rfl rfl (by decide) ?_
          refine HN.done ?_
          refine HN.keep [(2, _)] ⟨rfl, trivial⟩ ?_
          refine HN.then ?_
          refine HR.ret ?_
          refine HR.then ?_
          refine HR.ret1 _ Tryz.results66 rfl (fun w hw => ?_)
          refine ⟨?_, hw.ext⟩
          clear hw
          congr 2
          rw [okTo_len] at t1
          unfold numE hasSB
          simp_all
        · refine H.keep [] trivial ?_
          refine HN.skip ?_
          refine HN.then ?_
          refine H.seq ?_
          refine H.region ?_
          refine H.q (yl_assign rfl) rfl rfl (by decide) ?_
          refine HN.done ?_
          refine HN.keep [(2, _)] ⟨rfl, trivial⟩ ?_
          refine HN.then ?_
          refine HR.ret ?_
          refine HR.ret1 _ Tryz.results66 rfl (fun w hw => ?_)
          refine ⟨?_, hw.ext⟩
          clear hw
          congr 2
          rw [okTo_len] at t1
          unfold numE hasSB
          simp_all

set_option maxRecDepth 100000 in
theorem claimOf_any (x : Inv) (ad : Option Addr) (sn cap : Nat) (w0 : World) : Calls Tryz.prog 39 #[(.agg [.int .u8 x.kind, .int .i64 x.a, .int .i64 x.b, .int .i64 x.k, .int .i64 x.m, .slice ad sn cap].toArray)] w0 fun e w' => e = .returned (if claimT x.kind = 0 then .nilIface else .iface (claimT x.kind) (claimA x (.slice ad sn cap))) ∧ Ext w0 w' := by
  refine enterA 65 Tryz.func39 rfl Tryz.ntmps39 rfl (Hp w0 [] [] []) (Hp.init _) ?_
  refine H.seq ?_
  refine H.region ?_
  refine H.boxA rfl (by decide) (fun b1 hb1 => ?_)
  refine H.q (yl_assign rfl) rfl rfl (by decide) ?_
  refine HN.done ?_
  refine HN.keep [(1, _)] ⟨rfl, trivial⟩ ?_
  refine HN.then ?_
  refine H.seq ?_
  refine H.seq ?_
  refine H.region ?_
  refine H.q (yl_fieldAddr _ fa25_0 rfl) rfl rfl (by decide) ?_
  refine H.q (yl_load Tryz.isAgg22 rfl (fun w hw => hw.cell 0 rfl rfl)) rfl rfl (by decide) ?_
  refine HN.done ?_
  refine HN.keep [(1, _), (4, _)] ⟨rfl, rfl, trivial⟩ ?_
  refine HN.then ?_
  refine H.block ?_
  refine H.seq ?_
  refine H.region ?_
  refine H.q (yl_eql rfl rfl) rfl rfl (by decide) ?_
  refine H.q (yl_assign rfl) rfl rfl (by decide) ?_
  refine HN.done ?_
  refine HN.keep [(1, _), (4, _), (5, _)] ⟨rfl, rfl, rfl, trivial⟩ ?_
  refine HN.then ?_
  refine H.cond _ rfl (fun t0 => ?_) (fun t0 => ?_)
  · refine H.keep [(1, _)] ⟨rfl, trivial⟩ ?_
    refine H.seq ?_
    refine H.region ?_
    refine H.q (yl_fieldAddr _ fa25_3 rfl) rfl rfl (by decide) ?_
    refine H.q (yl_load Tryz.isAgg2 rfl (fun w hw => hw.cell 0 rfl rfl)) rfl rfl (by decide) ?_
    refine H.q (yl_build (bd71 _) rfl) rfl rfl (by decide) ?_
    refine H.q (yl_mkIface Tryz.underlying71 rfl rfl) rfl rfl (by decide) ?_
    refine H.q (yl_assign rfl) rfl rfl (by decide) ?_
    refine HN.done ?_
    refine HN.keep [(2, _)] ⟨rfl, trivial⟩ ?_
    refine HN.then ?_
    refine HR.ret ?_
    refine HR.block ?_
    refine HR.then ?_
    refine HR.ret1 _ Tryz.results39 rfl (fun w hw => ?_)
    refine ⟨?_, hw.ext⟩
    clear hw
    unfold claimT claimA
    simp_all
  · refine H.keep [(1, _), (4, _)] ⟨rfl, rfl, trivial⟩ ?_
    refine H.seq ?_
    refine H.region ?_
    refine H.q (yl_eql rfl rfl) rfl rfl (by decide) ?_
    refine H.q (yl_assign rfl) rfl rfl (by decide) ?_
    refine HN.done ?_
    refine HN.keep [(1, _), (4, _), (11, _)] ⟨rfl, rfl, rfl, trivial⟩ ?_
    refine HN.then ?_
    refine H.cond _ rfl (fun t1 => ?_) (fun t1 => ?_)
    · refine H.keep [(1, _)] ⟨rfl, trivial⟩ ?_
      refine H.seq ?_
      refine H.region ?_
      refine H.q (yl_fieldAddr _ fa25_5 rfl) rfl rfl (by decide) ?_
      refine H.q (yl_load Tryz.isAgg23 rfl (fun w hw => hw.cell 0 rfl rfl)) rfl rfl (by decide) ?_
      refine H.q (yl_build (bd73 _ _ _) rfl) rfl rfl (by decide) ?_
      refine H.q (yl_mkIface Tryz.underlying73 rfl rfl) rfl rfl (by decide) ?_
      refine H.q (yl_assign rfl) rfl rfl (by decide) ?_
      refine HN.done ?_
      refine HN.keep [(2, _)] ⟨rfl, trivial⟩ ?_
      refine HN.then ?_
      refine HR.ret ?_
      refine HR.block ?_
      refine HR.then ?_
      refine HR.ret1 _ Tryz.results39 rfl (fun w hw => ?_)
      refine ⟨?_, hw.ext⟩
      clear hw
      unfold claimT claimA
      simp_all
    · refine H.keep [(1, _), (4, _)] ⟨rfl, rfl, trivial⟩ ?_
      refine H.seq ?_
      refine H.region ?_
      refine H.q (yl_eql rfl rfl) rfl rfl (by decide) ?_
      refine H.q (yl_assign rfl) rfl rfl (by decide) ?_
      refine HN.done ?_
      refine HN.keep [(1, _), (4, _), (17, _)] ⟨rfl, rfl, rfl, trivial⟩ ?_
      refine HN.then ?_
      refine H.cond _ rfl (fun t2 => ?_) (fun t2 => ?_)
      · refine H.keep [(1, _)] ⟨rfl, trivial⟩ ?_
        refine H.seq ?_
        refine H.region ?_
        refine H.q (yl_fieldAddr _ fa25_3 rfl) rfl rfl (by decide) ?_
        refine H.q (yl_load Tryz.isAgg2 rfl (fun w hw => hw.cell 0 rfl rfl)) rfl rfl (by decide) ?_
        refine H.q (yl_build (bd74 _) rfl) rfl rfl (by decide) ?_
        refine H.q (yl_mkIface Tryz.underlying74 rfl rfl) rfl rfl (by decide) ?_
        refine H.q (yl_assign rfl) rfl rfl (by decide) ?_
        refine HN.done ?_
        refine HN.keep [(2, _)] ⟨rfl, trivial⟩ ?_
        refine HN.then ?_
        refine HR.ret ?_
        refine HR.block ?_
        refine HR.then ?_
        refine HR.ret1 _ Tryz.results39 rfl (fun w hw => ?_)
        refine ⟨?_, hw.ext⟩
        clear hw
        unfold claimT claimA
        simp_all
      · refine H.keep [(1, _), (4, _)] ⟨rfl, rfl, trivial⟩ ?_
        refine H.seq ?_
        refine H.region ?_
        refine H.q (yl_eql rfl rfl) rfl rfl (by decide) ?_
        refine H.q (yl_assign rfl) rfl rfl (by decide) ?_
        refine HN.done ?_
        refine HN.keep [(1, _), (4, _), (23, _)] ⟨rfl, rfl, rfl, trivial⟩ ?_
        refine HN.then ?_
        refine H.cond _ rfl (fun t3 => ?_) (fun t3 => ?_)
        · refine H.keep [(1, _)] ⟨rfl, trivial⟩ ?_
          refine H.seq ?_
          refine H.region ?_
          refine H.q (yl_fieldAddr _ fa25_3 rfl) rfl rfl (by decide) ?_
          refine H.q (yl_load Tryz.isAgg2 rfl (fun w hw => hw.cell 0 rfl rfl)) rfl rfl (by decide) ?_
          refine H.q (yl_build (bd75 _) rfl) rfl rfl (by decide) ?_
          refine H.q (yl_mkIface Tryz.underlying75 rfl rfl) rfl rfl (by decide) ?_
          refine H.q (yl_assign rfl) rfl rfl (by decide) ?_
          refine HN.done ?_
          refine HN.keep [(2, _)] ⟨rfl, trivial⟩ ?_
          refine HN.then ?_
          refine HR.ret ?_
          refine HR.block ?_
          refine HR.then ?_
          refine HR.ret1 _ Tryz.results39 rfl (fun w hw => ?_)
          refine ⟨?_, hw.ext⟩
          clear hw
          unfold claimT claimA
          simp_all
        · refine H.keep [(1, _), (4, _)] ⟨rfl, rfl, trivial⟩ ?_
          refine H.seq ?_
          refine H.region ?_
          refine H.q (yl_eql rfl rfl) rfl rfl (by decide) ?_
          refine H.q (yl_assign rfl) rfl rfl (by decide) ?_
          refine HN.done ?_
          refine HN.keep [(1, _), (4, _), (29, _)] ⟨rfl, rfl, rfl, trivial⟩ ?_
          refine HN.then ?_
          refine H.cond _ rfl (fun t4 => ?_) (fun t4 => ?_)
          · refine H.keep [] trivial ?_
            refine H.seq ?_
            refine H.region ?_
            refine H.q (yl_build (bd77) rfl) rfl rfl (by decide) ?_
            refine H.q (yl_mkIface Tryz.underlying77 rfl rfl) rfl rfl (by decide) ?_
            refine H.q (yl_assign rfl) rfl rfl (by decide) ?_
            refine HN.done ?_
            refine HN.keep [(2, _)] ⟨rfl, trivial⟩ ?_
            refine HN.then ?_
            refine HR.ret ?_
            refine HR.block ?_
            refine HR.then ?_
            refine HR.ret1 _ Tryz.results39 rfl (fun w hw => ?_)
            refine ⟨?_, hw.ext⟩
            clear hw
            unfold claimT claimA
            simp_all
          · refine H.keep [(1, _), (4, _)] ⟨rfl, rfl, trivial⟩ ?_
            refine H.seq ?_
            refine H.region ?_
            refine H.q (yl_eql rfl rfl) rfl rfl (by decide) ?_
            refine H.q (yl_assign rfl) rfl rfl (by decide) ?_
            refine HN.done ?_
            refine HN.keep [(1, _), (4, _), (33, _)] ⟨rfl, rfl, rfl, trivial⟩ ?_
            refine HN.then ?_
            refine H.cond _ rfl (fun t5 => ?_) (fun t5 => ?_)
            · refine H.keep [(1, _)] ⟨rfl, trivial⟩ ?_
              refine H.seq ?_
              refine H.region ?_
              refine H.q (yl_fieldAddr _ fa25_3 rfl) rfl rfl (by decide) ?_
              refine H.q (yl_load Tryz.isAgg2 rfl (fun w hw => hw.cell 0 rfl rfl)) rfl rfl (by decide) ?_
              refine H.q (yl_fieldAddr _ fa25_4 rfl) rfl rfl (by decide) ?_
              refine H.q (yl_load Tryz.isAgg2 rfl (fun w hw => hw.cell 0 rfl rfl)) rfl rfl (by decide) ?_
              refine H.q (yl_build (bd79 _ _) rfl) rfl rfl (by decide) ?_
              refine H.q (yl_mkIface Tryz.underlying79 rfl rfl) rfl rfl (by decide) ?_
              refine H.q (yl_assign rfl) rfl rfl (by decide) ?_
              refine HN.done ?_
              refine HN.keep [(2, _)] ⟨rfl, trivial⟩ ?_
              refine HN.then ?_
              refine HR.ret ?_
              refine HR.block ?_
              refine HR.then ?_
              refine HR.ret1 _ Tryz.results39 rfl (fun w hw => ?_)
              refine ⟨?_, hw.ext⟩
              clear hw
              unfold claimT claimA
              simp_all
            · refine H.keep [(1, _), (4, _)] ⟨rfl, rfl, trivial⟩ ?_
              refine H.seq ?_
              refine H.region ?_
              refine H.q (yl_eql rfl rfl) rfl rfl (by decide) ?_
              refine H.q (yl_assign rfl) rfl rfl (by decide) ?_
              refine HN.done ?_
              refine HN.keep [(1, _), (4, _), (41, _)] ⟨rfl, rfl, rfl, trivial⟩ ?_
              refine HN.then ?_
              refine H.cond _ rfl (fun t6 => ?_) (fun t6 => ?_)
              · refine H.keep [] trivial ?_
                refine H.seq ?_
                refine H.region ?_
                refine H.q (yl_build (bd80) rfl) rfl rfl (by decide) ?_
                refine H.q (yl_mkIface Tryz.underlying80 rfl rfl) rfl rfl (by decide) ?_
                refine H.q (yl_assign rfl) rfl rfl (by decide) ?_
                refine HN.done ?_
                refine HN.keep [(2, _)] ⟨rfl, trivial⟩ ?_
                refine HN.then ?_
                refine HR.ret ?_
                refine HR.block ?_
                refine HR.then ?_
                refine HR.ret1 _ Tryz.results39 rfl (fun w hw => ?_)
                refine ⟨?_, hw.ext⟩
                clear hw
                unfold claimT claimA
                simp_all
              · refine H.keep [(1, _), (4, _)] ⟨rfl, rfl, trivial⟩ ?_
                refine H.seq ?_
                refine H.region ?_
                refine H.q (yl_eql rfl rfl) rfl rfl (by decide) ?_
                refine H.q (yl_assign rfl) rfl rfl (by decide) ?_
                refine HN.done ?_
                refine HN.keep [(1, _), (4, _), (45, _)] ⟨rfl, rfl, rfl, trivial⟩ ?_
                refine HN.then ?_
                refine H.cond _ rfl (fun t7 => ?_) (fun t7 => ?_)
                · refine H.keep [] trivial ?_
                  refine H.seq ?_
                  refine H.region ?_
                  refine H.q (yl_build (bd81) rfl) rfl rfl (by decide) ?_
                  refine H.q (yl_mkIface Tryz.underlying81 rfl rfl) rfl rfl (by decide) ?_
                  refine H.q (yl_assign rfl) rfl rfl (by decide) ?_
                  refine HN.done ?_
                  refine HN.keep [(2, _)] ⟨rfl, trivial⟩ ?_
                  refine HN.then ?_
                  refine HR.ret ?_
                  refine HR.block ?_
                  refine HR.then ?_
                  refine HR.ret1 _ Tryz.results39 rfl (fun w hw => ?_)
                  refine ⟨?_, hw.ext⟩
                  clear hw
                  unfold claimT claimA
                  simp_all
                · refine H.keep [(1, _), (4, _)] ⟨rfl, rfl, trivial⟩ ?_
                  refine H.seq ?_
                  refine H.region ?_
                  refine H.q (yl_eql rfl rfl) rfl rfl (by decide) ?_
                  refine H.q (yl_assign rfl) rfl rfl (by decide) ?_
                  refine HN.done ?_
                  refine HN.keep [(1, _), (4, _), (49, _)] ⟨rfl, rfl, rfl, trivial⟩ ?_
                  refine HN.then ?_
                  refine H.cond _ rfl (fun t8 => ?_) (fun t8 => ?_)
                  · refine H.keep [] trivial ?_
                    refine H.seq ?_
                    refine H.region ?_
                    refine H.q (yl_build (bd82) rfl) rfl rfl (by decide) ?_
                    refine H.q (yl_mkIface Tryz.underlying82 rfl rfl) rfl rfl (by decide) ?_
                    refine H.q (yl_assign rfl) rfl rfl (by decide) ?_
                    refine HN.done ?_
                    refine HN.keep [(2, _)] ⟨rfl, trivial⟩ ?_
                    refine HN.then ?_
                    refine HR.ret ?_
                    refine HR.block ?_
                    refine HR.then ?_
                    refine HR.ret1 _ Tryz.results39 rfl (fun w hw => ?_)
                    refine ⟨?_, hw.ext⟩
                    clear hw
                    unfold claimT claimA
                    simp_all
                  · refine H.keep [(1, _), (4, _)] ⟨rfl, rfl, trivial⟩ ?_
                    refine H.seq ?_
                    refine H.region ?_
                    refine H.q (yl_eql rfl rfl) rfl rfl (by decide) ?_
                    refine H.q (yl_assign rfl) rfl rfl (by decide) ?_
                    refine HN.done ?_
                    refine HN.keep [(1, _), (4, _), (53, _)] ⟨rfl, rfl, rfl, trivial⟩ ?_
                    refine HN.then ?_
                    refine H.cond _ rfl (fun t9 => ?_) (fun t9 => ?_)
                    · refine H.keep [] trivial ?_
                      refine H.seq ?_
                      refine H.region ?_
                      refine H.q (yl_build (bd83) rfl) rfl rfl (by decide) ?_
                      refine H.q (yl_mkIface Tryz.underlying83 rfl rfl) rfl rfl (by decide) ?_
                      refine H.q (yl_assign rfl) rfl rfl (by decide) ?_
                      refine HN.done ?_
                      refine HN.keep [(2, _)] ⟨rfl, trivial⟩ ?_
                      refine HN.then ?_
                      refine HR.ret ?_
                      refine HR.block ?_
                      refine HR.then ?_
                      refine HR.ret1 _ Tryz.results39 rfl (fun w hw => ?_)
                      refine ⟨?_, hw.ext⟩
                      clear hw
                      unfold claimT claimA
                      simp_all
                    · refine H.keep [(1, _), (4, _)] ⟨rfl, rfl, trivial⟩ ?_
                      refine H.seq ?_
                      refine H.region ?_
                      refine H.q (yl_eql rfl rfl) rfl rfl (by decide) ?_
                      refine H.q (yl_assign rfl) rfl rfl (by decide) ?_
                      refine HN.done ?_
                      refine HN.keep [(1, _), (57, _)] ⟨rfl, rfl, trivial⟩ ?_
                      refine HN.then ?_
                      refine H.cond _ rfl (fun t10 => ?_) (fun t10 => ?_)
                      · refine H.keep [(1, _)] ⟨rfl, trivial⟩ ?_
                        refine H.seq ?_
                        refine H.region ?_
                        refine H.q (yl_fieldAddr _ fa25_3 rfl) rfl rfl (by decide) ?_
                        refine H.q (yl_load Tryz.isAgg2 rfl (fun w hw => hw.cell 0 rfl rfl)) rfl rfl (by decide) ?_
                        refine H.q (yl_fieldAddr _ fa25_4 rfl) rfl rfl (by decide) ?_
                        refine H.q (yl_load Tryz.isAgg2 rfl (fun w hw => hw.cell 0 rfl rfl)) rfl rfl (by decide) ?_
                        refine H.q (yl_build (bd119 _ _) rfl) rfl rfl (by decide) ?_
                        refine H.q (yl_mkIface Tryz.underlying119 rfl rfl) rfl rfl (by decide) ?_
                        refine H.q (yl_assign rfl) rfl rfl (by decide) ?_
                        refine HN.done ?_
                        refine HN.keep [(2, _)] ⟨rfl, trivial⟩ ?_
                        refine HN.then ?_
                        refine HR.ret ?_
                        refine HR.block ?_
                        refine HR.then ?_
                        refine HR.ret1 _ Tryz.results39 rfl (fun w hw => ?_)
                        refine ⟨?_, hw.ext⟩
                        clear hw
                        unfold claimT claimA
                        simp_all
                      · refine H.keep [] trivial ?_
                        refine HN.skip ?_
                        refine HN.block ?_
                        refine HN.then ?_
                        refine H.seq ?_
                        refine H.region ?_
                        refine H.q (yl_assign rfl) rfl rfl (by decide) ?_
                        refine HN.done ?_
                        refine HN.keep [(2, _)] ⟨rfl, trivial⟩ ?_
                        refine HN.then ?_
                        refine HR.ret ?_
                        refine HR.ret1 _ Tryz.results39 rfl (fun w hw => ?_)
                        refine ⟨?_, hw.ext⟩
                        clear hw
                        unfold claimT claimA
                        simp_all

set_option maxRecDepth 100000 in
theorem fields_any (k : Int) (a : Value) (w0 : World) (hk : kindB k = true) : Calls Tryz.prog 62 #[.iface (claimT k) a] w0 fun e w' => e = .returned (.tuple #[.bool (twoB k), .bool (hasKB k), .bool (hasMB k), .bool (hasSB k)]) ∧ Ext w0 w' := by
  refine enterA 42 Tryz.func62 rfl Tryz.ntmps62 rfl (Hp w0 [] [] []) (Hp.init _) ?_
  refine H.seq ?_
  refine H.region ?_
  refine H.q (yl_assign rfl) rfl rfl (by decide) ?_
  refine H.q (yl_assign rfl) rfl rfl (by decide) ?_
  refine H.q (yl_assign rfl) rfl rfl (by decide) ?_
  refine H.q (yl_assign rfl) rfl rfl (by decide) ?_
  refine HN.done ?_
  refine HN.keep [(0, _)] ⟨rfl, trivial⟩ ?_
  refine HN.then ?_
  refine H.seq ?_
  refine H.seq ?_
  refine H.region ?_
  refine H.q (yl_move rfl) rfl rfl (by decide) ?_
  refine HN.done ?_
  refine HN.keep [(6, _)] ⟨rfl, trivial⟩ ?_
  refine HN.then ?_
  refine H.block ?_
  refine H.seq ?_
  refine H.region ?_
  refine H.q (yl_typeAssert Tryz.underlying71 rfl Tryz.zeroValue71 rfl) rfl rfl (by decide) ?_
  refine H.q (yl_extract _ rfl rfl) rfl rfl (by decide) ?_
  refine H.q (yl_extract _ rfl rfl) rfl rfl (by decide) ?_
  refine H.q (yl_typeAssert Tryz.underlying74 rfl Tryz.zeroValue74 rfl) rfl rfl (by decide) ?_
  refine H.q (yl_extract _ rfl rfl) rfl rfl (by decide) ?_
  refine H.q (yl_extract _ rfl rfl) rfl rfl (by decide) ?_
  refine H.q (yl_typeAssert Tryz.underlying75 rfl Tryz.zeroValue75 rfl) rfl rfl (by decide) ?_
  refine H.q (yl_extract _ rfl rfl) rfl rfl (by decide) ?_
  refine H.q (yl_extract _ rfl rfl) rfl rfl (by decide) ?_
  refine H.q (yl_or' rfl rfl) rfl rfl (by decide) ?_
  refine H.q (yl_or' rfl rfl) rfl rfl (by decide) ?_
  refine HN.done ?_
  refine HN.keep [(6, _), (17, _)] ⟨rfl, rfl, trivial⟩ ?_
  refine HN.then ?_
  refine H.cond _ rfl (fun t0 => ?_) (fun t0 => ?_)
  · refine H.keep [] trivial ?_
    refine H.seq ?_
    refine H.region ?_
    refine H.q (yl_assign rfl) rfl rfl (by decide) ?_
    refine H.q (yl_assign rfl) rfl rfl (by decide) ?_
    refine H.q (yl_assign rfl) rfl rfl (by decide) ?_
    refine H.q (yl_assign rfl) rfl rfl (by decide) ?_
    refine HN.done ?_
    refine HN.keep [(2, _), (3, _), (4, _), (5, _)] ⟨rfl, rfl, rfl, rfl, trivial⟩ ?_
    refine HN.then ?_
    refine HR.ret ?_
    refine HR.block ?_
    refine HR.then ?_
    refine HR.ret4 _ _ _ _ Tryz.results62 rfl rfl rfl rfl (fun w hw => ?_)
    refine ⟨?_, hw.ext⟩
    clear hw
    rcases kind_cases hk with rfl | rfl | rfl | rfl | rfl | rfl | rfl | rfl | rfl | rfl | rfl <;> simp_all [claimT, twoB, hasKB, hasMB, hasSB]
  · refine H.keep [(6, _)] ⟨rfl, trivial⟩ ?_
    refine H.seq ?_
    refine H.region ?_
    refine H.q (yl_typeAssert Tryz.underlying73 rfl Tryz.zeroValue73 rfl) rfl rfl (by decide) ?_
    refine H.q (yl_extract _ rfl rfl) rfl rfl (by decide) ?_
    refine H.q (yl_extract _ rfl rfl) rfl rfl (by decide) ?_
    refine HN.done ?_
    refine HN.keep [(6, _), (19, _)] ⟨rfl, rfl, trivial⟩ ?_
    refine HN.then ?_
    refine H.cond _ rfl (fun t1 => ?_) (fun t1 => ?_)
    · refine H.keep [] trivial ?_
      refine H.seq ?_
      refine H.region ?_
      refine H.q (yl_assign rfl) rfl rfl (by decide) ?_
      refine H.q (yl_assign rfl) rfl rfl (by decide) ?_
      refine H.q (yl_assign rfl) rfl rfl (by decide) ?_
      refine H.q (yl_assign rfl) rfl rfl (by decide) ?_
      refine HN.done ?_
      refine HN.keep [(2, _), (3, _), (4, _), (5, _)] ⟨rfl, rfl, rfl, rfl, trivial⟩ ?_
      refine HN.then ?_
      refine HR.ret ?_
      refine HR.block ?_
      refine HR.then ?_
      refine HR.ret4 _ _ _ _ Tryz.results62 rfl rfl rfl rfl (fun w hw => ?_)
      refine ⟨?_, hw.ext⟩
      clear hw
      rcases kind_cases hk with rfl | rfl | rfl | rfl | rfl | rfl | rfl | rfl | rfl | rfl | rfl <;> simp_all [claimT, twoB, hasKB, hasMB, hasSB]
    · refine H.keep [(6, _)] ⟨rfl, trivial⟩ ?_
      refine H.seq ?_
      refine H.region ?_
      refine H.q (yl_typeAssert Tryz.underlying79 rfl Tryz.zeroValue79 rfl) rfl rfl (by decide) ?_
      refine H.q (yl_extract _ rfl rfl) rfl rfl (by decide) ?_
      refine H.q (yl_extract _ rfl rfl) rfl rfl (by decide) ?_
      refine HN.done ?_
      refine HN.keep [(6, _), (22, _)] ⟨rfl, rfl, trivial⟩ ?_
      refine HN.then ?_
      refine H.cond _ rfl (fun t2 => ?_) (fun t2 => ?_)
      · refine H.keep [] trivial ?_
        refine H.seq ?_
        refine H.region ?_
        refine H.q (yl_assign rfl) rfl rfl (by decide) ?_
        refine H.q (yl_assign rfl) rfl rfl (by decide) ?_
        refine H.q (yl_assign rfl) rfl rfl (by decide) ?_
        refine H.q (yl_assign rfl) rfl rfl (by decide) ?_
        refine HN.done ?_
        refine HN.keep [(2, _), (3, _), (4, _), (5, _)] ⟨rfl, rfl, rfl, rfl, trivial⟩ ?_
        refine HN.then ?_
        refine HR.ret ?_
        refine HR.block ?_
        refine HR.then ?_
        refine HR.ret4 _ _ _ _ Tryz.results62 rfl rfl rfl rfl (fun w hw => ?_)
        refine ⟨?_, hw.ext⟩
        clear hw
        rcases kind_cases hk with rfl | rfl | rfl | rfl | rfl | rfl | rfl | rfl | rfl | rfl | rfl <;> simp_all [claimT, twoB, hasKB, hasMB, hasSB]
      · refine H.keep [(6, _)] ⟨rfl, trivial⟩ ?_
        refine H.seq ?_
        refine H.region ?_
        refine H.q (yl_typeAssert Tryz.underlying80 rfl Tryz.zeroValue80 rfl) rfl rfl (by decide) ?_
        refine H.q (yl_extract _ rfl rfl) rfl rfl (by decide) ?_
        refine H.q (yl_extract _ rfl rfl) rfl rfl (by decide) ?_
        refine H.q (yl_typeAssert Tryz.underlying81 rfl Tryz.zeroValue81 rfl) rfl rfl (by decide) ?_
        refine H.q (yl_extract _ rfl rfl) rfl rfl (by decide) ?_
        refine H.q (yl_extract _ rfl rfl) rfl rfl (by decide) ?_
        refine H.q (yl_typeAssert Tryz.underlying82 rfl Tryz.zeroValue82 rfl) rfl rfl (by decide) ?_
        refine H.q (yl_extract _ rfl rfl) rfl rfl (by decide) ?_
        refine H.q (yl_extract _ rfl rfl) rfl rfl (by decide) ?_
        refine H.q (yl_typeAssert Tryz.underlying83 rfl Tryz.zeroValue83 rfl) rfl rfl (by decide) ?_
        refine H.q (yl_extract _ rfl rfl) rfl rfl (by decide) ?_
        refine H.q (yl_extract _ rfl rfl) rfl rfl (by decide) ?_
        refine H.q (yl_or' rfl rfl) rfl rfl (by decide) ?_
        refine H.q (yl_or' rfl rfl) rfl rfl (by decide) ?_
        refine H.q (yl_or' rfl rfl) rfl rfl (by decide) ?_
        refine HN.done ?_
        refine HN.keep [(6, _), (38, _)] ⟨rfl, rfl, trivial⟩ ?_
        refine HN.then ?_
        refine H.cond _ rfl (fun t3 => ?_) (fun t3 => ?_)
        · refine H.keep [] trivial ?_
          refine H.seq ?_
          refine H.region ?_
          refine H.q (yl_assign rfl) rfl rfl (by decide) ?_
          refine H.q (yl_assign rfl) rfl rfl (by decide) ?_
          refine H.q (yl_assign rfl) rfl rfl (by decide) ?_
          refine H.q (yl_assign rfl) rfl rfl (by decide) ?_
          refine HN.done ?_
          refine HN.keep [(2, _), (3, _), (4, _), (5, _)] ⟨rfl, rfl, rfl, rfl, trivial⟩ ?_
          refine HN.then ?_
          refine HR.ret ?_
          refine HR.block ?_
          refine HR.then ?_
          refine HR.ret4 _ _ _ _ Tryz.results62 rfl rfl rfl rfl (fun w hw => ?_)
          refine ⟨?_, hw.ext⟩
          clear hw
          rcases kind_cases hk with rfl | rfl | rfl | rfl | rfl | rfl | rfl | rfl | rfl | rfl | rfl <;> simp_all [claimT, twoB, hasKB, hasMB, hasSB]
        · refine H.keep [(6, _)] ⟨rfl, trivial⟩ ?_
          refine H.seq ?_
          refine H.region ?_
          refine H.q (yl_typeAssert Tryz.underlying119 rfl Tryz.zeroValue119 rfl) rfl rfl (by decide) ?_
          refine H.q (yl_extract _ rfl rfl) rfl rfl (by decide) ?_
          refine H.q (yl_extract _ rfl rfl) rfl rfl (by decide) ?_
          refine HN.done ?_
          refine HN.keep [(40, _)] ⟨rfl, trivial⟩ ?_
          refine HN.then ?_
          refine H.cond _ rfl (fun t4 => ?_) (fun t4 => ?_)
          · refine H.keep [] trivial ?_
            refine H.seq ?_
            refine H.region ?_
            refine H.q (yl_assign rfl) rfl rfl (by decide) ?_
            refine H.q (yl_assign rfl) rfl rfl (by decide) ?_
            refine H.q (yl_assign rfl) rfl rfl (by decide) ?_
            refine H.q (yl_assign rfl) rfl rfl (by decide) ?_
            refine HN.done ?_
            refine HN.keep [(2, _), (3, _), (4, _), (5, _)] ⟨rfl, rfl, rfl, rfl, trivial⟩ ?_
            refine HN.then ?_
            refine HR.ret ?_
            refine HR.block ?_
            refine HR.then ?_
            refine HR.ret4 _ _ _ _ Tryz.results62 rfl rfl rfl rfl (fun w hw => ?_)
            refine ⟨?_, hw.ext⟩
            clear hw
            rcases kind_cases hk with rfl | rfl | rfl | rfl | rfl | rfl | rfl | rfl | rfl | rfl | rfl <;> simp_all [claimT, twoB, hasKB, hasMB, hasSB]
          · refine H.keep [] trivial ?_
            refine HN.skip ?_
            refine HN.block ?_
            refine HN.then ?_
            refine H.seq ?_
            refine H.region ?_
            refine H.q (yl_assign rfl) rfl rfl (by decide) ?_
            refine H.q (yl_assign rfl) rfl rfl (by decide) ?_
            refine H.q (yl_assign rfl) rfl rfl (by decide) ?_
            refine H.q (yl_assign rfl) rfl rfl (by decide) ?_
            refine HN.done ?_
            refine HN.keep [(2, _), (3, _), (4, _), (5, _)] ⟨rfl, rfl, rfl, rfl, trivial⟩ ?_
            refine HN.then ?_
            refine HR.ret ?_
            refine HR.ret4 _ _ _ _ Tryz.results62 rfl rfl rfl rfl (fun w hw => ?_)
            refine ⟨?_, hw.ext⟩
            clear hw
            rcases kind_cases hk with rfl | rfl | rfl | rfl | rfl | rfl | rfl | rfl | rfl | rfl | rfl <;> simp_all [claimT, twoB, hasKB, hasMB, hasSB]

set_option maxRecDepth 100000 in
theorem bare_any (x : Inv) (ad : Option Addr) (sn cap : Nat) (w0 : World) : Calls Tryz.prog 67 #[(.agg [.int .u8 x.kind, .int .i64 x.a, .int .i64 x.b, .int .i64 x.k, .int .i64 x.m, .slice ad sn cap].toArray)] w0 fun e w' => e = .returned (.agg [.int .u8 x.kind, .int .i64 x.a, .int .i64 (if twoB x.kind = true then x.b else 0), .int .i64 (if hasKB x.kind = true then x.k else 0), .int .i64 (if hasMB x.kind = true then x.m else 0), .slice (if hasSB x.kind = true then ad else none) (if hasSB x.kind = true then sn else 0) (if hasSB x.kind = true then cap else 0)].toArray) ∧ Ext w0 w' := by
  refine enterA 39 Tryz.func67 rfl Tryz.ntmps67 rfl (Hp w0 [] [] []) (Hp.init _) ?_
  refine H.seq ?_
  refine H.region ?_
  refine H.boxA rfl (by decide) (fun b1 hb1 => ?_)
  refine H.allocA Tryz.zeroValue25 (by decide) (fun b2 hb2 => ?_)
  refine HN.done ?_
  refine HN.keep [(1, _), (2, _)] ⟨rfl, rfl, trivial⟩ ?_
  refine HN.then ?_
  refine H.seq ?_
  refine H.region ?_
  refine H.q (yl_fieldAddr _ fa25_0 rfl) rfl rfl (by decide) ?_
  refine H.q (yl_load Tryz.isAgg22 rfl (fun w hw => hw.cell 1 rfl rfl)) rfl rfl (by decide) ?_
  refine H.q (yl_fieldAddr _ fa25_1 rfl) rfl rfl (by decide) ?_
  refine H.q (yl_load Tryz.isAgg3 rfl (fun w hw => hw.cell 1 rfl rfl)) rfl rfl (by decide) ?_
  refine H.q (yl_build (bd25_01 _ _) rfl) rfl rfl (by decide) ?_
  refine H.allocA Tryz.zeroValue25 (by decide) (fun b3 hb3 => ?_)
  refine H.storeA 0 rfl rfl rfl Tryz.sizeOf25 rfl rfl ?_
  refine HN.done ?_
  refine HN.keep [(1, _), (2, _), (3, _)] ⟨rfl, rfl, rfl, trivial⟩ ?_
  refine HN.then ?_
  refine H.seqCut (α := Unit) (fun _ => [(1, .pointer (some ⟨b1, 0, none⟩)), (2, .pointer (some ⟨b2, 0, none⟩)), (3, .pointer (some ⟨b3, 0, none⟩))]) (fun _ => Hp w0 [(b3, ex (.cells [.int .u8 x.kind, .int .i64 x.a, .int .i64 (if twoB x.kind = true then x.b else 0), .int .i64 0, .int .i64 0, .slice none 0 0].toArray 25)), (b2, ex (.cells [.int .u8 0, .int .i64 0, .int .i64 0, .int .i64 0, .int .i64 0, .slice none 0 0].toArray 25)), (b1, ex (.cells [.int .u8 x.kind, .int .i64 x.a, .int .i64 x.b, .int .i64 x.k, .int .i64 x.m, .slice ad sn cap].toArray 25))] [] []) ?_ (fun _ => ?_)
  · refine H.seq ?_
    refine H.region ?_
    refine H.q (yl_fieldAddr _ fa25_0 rfl) rfl rfl (by decide) ?_
    refine H.q (yl_load Tryz.isAgg22 rfl (fun w hw => hw.cell 2 rfl rfl)) rfl rfl (by decide) ?_
    refine H.q (yl_call (xs := [.tmp 10]) Tryz.call65 (stab_hp _ _ _ _) rfl (fun w hw => two_any _ w)) rfl rfl (by decide) ?_
    refine HN.done ?_
    refine HN.keep [(1, _), (2, _), (3, _), (11, _)] ⟨rfl, rfl, rfl, rfl, trivial⟩ ?_
    refine HN.then ?_
    refine H.cond _ rfl (fun t0 => ?_) (fun t0 => ?_)
    · refine H.keep [(1, _), (2, _), (3, _)] ⟨rfl, rfl, rfl, trivial⟩ ?_
      refine H.region ?_
      refine H.q (yl_fieldAddr _ fa25_2 rfl) rfl rfl (by decide) ?_
      refine H.q (yl_load Tryz.isAgg3 rfl (fun w hw => hw.cell 2 rfl rfl)) rfl rfl (by decide) ?_
      refine H.q (yl_fieldAddr _ fa25_2 rfl) rfl rfl (by decide) ?_
      refine H.store1 0 rfl rfl rfl rfl Tryz.sizeOf3 rfl rfl ?_
      refine HN.done ?_
      refine HN.keep [(1, _), (2, _), (3, _)] ⟨rfl, rfl, rfl, trivial⟩ ?_
      refine HN.then ?_
      exact H.at' () ⟨rfl, rfl, rfl, trivial⟩ (fun w hw => by rw [if_pos t0]; exact hw)
    · refine H.keep [(1, _), (2, _), (3, _)] ⟨rfl, rfl, rfl, trivial⟩ ?_
      refine HN.skip ?_
      refine HN.then ?_
      exact H.at' () ⟨rfl, rfl, rfl, trivial⟩ (fun w hw => by rw [if_neg (by rw [t0]; decide)]; exact hw)
  · refine H.seqCut (α := Unit) (fun _ => [(2, .pointer (some ⟨b2, 0, none⟩)), (3, .pointer (some ⟨b3, 0, none⟩))]) (fun _ => Hp w0 [(b3, ex (.cells [.int .u8 x.kind, .int .i64 x.a, .int .i64 (if twoB x.kind = true then x.b else 0), .int .i64 (if hasKB x.kind = true then x.k else 0), .int .i64 (if hasMB x.kind = true then x.m else 0), .slice (if hasSB x.kind = true then ad else none) (if hasSB x.kind = true then sn else 0) (if hasSB x.kind = true then cap else 0)].toArray 25)), (b2, ex (.cells [.int .u8 0, .int .i64 0, .int .i64 0, .int .i64 0, .int .i64 0, .slice none 0 0].toArray 25)), (b1, ex (.cells [.int .u8 x.kind, .int .i64 x.a, .int .i64 x.b, .int .i64 x.k, .int .i64 x.m, .slice ad sn cap].toArray 25))] [] []) ?_ (fun _ => ?_)
    · refine H.seq ?_
      refine H.region ?_
      refine H.q (yl_fieldAddr _ fa25_0 rfl) rfl rfl (by decide) ?_
      refine H.q (yl_load Tryz.isAgg22 rfl (fun w hw => hw.cell 2 rfl rfl)) rfl rfl (by decide) ?_
      refine HN.done ?_
      refine HN.keep [(1, _), (2, _), (3, _), (16, _)] ⟨rfl, rfl, rfl, rfl, trivial⟩ ?_
      refine HN.then ?_
      refine H.block ?_
      refine H.seqCut (α := Unit) (fun _ => [(1, .pointer (some ⟨b1, 0, none⟩)), (2, .pointer (some ⟨b2, 0, none⟩)), (3, .pointer (some ⟨b3, 0, none⟩)), (16, .int .u8 x.kind), (17, .bool (decide (x.kind = 1) || decide (x.kind = 3) || decide (x.kind = 4)))]) (fun _ => Hp w0 [(b3, ex (.cells [.int .u8 x.kind, .int .i64 x.a, .int .i64 (if twoB x.kind = true then x.b else 0), .int .i64 0, .int .i64 0, .slice none 0 0].toArray 25)), (b2, ex (.cells [.int .u8 0, .int .i64 0, .int .i64 0, .int .i64 0, .int .i64 0, .slice none 0 0].toArray 25)), (b1, ex (.cells [.int .u8 x.kind, .int .i64 x.a, .int .i64 x.b, .int .i64 x.k, .int .i64 x.m, .slice ad sn cap].toArray 25))] [] []) ?_ (fun _ => ?_)
      · refine H.seq ?_
        refine H.region ?_
        refine H.q (yl_eql rfl rfl) rfl rfl (by decide) ?_
        refine H.q (yl_assign rfl) rfl rfl (by decide) ?_
        refine HN.done ?_
        refine HN.keep [(1, _), (2, _), (3, _), (16, _), (17, _)] ⟨rfl, rfl, rfl, rfl, rfl, trivial⟩ ?_
        refine HN.then ?_
        refine H.cond _ rfl (fun t1 => ?_) (fun t1 => ?_)
        · refine H.keep [(1, _), (2, _), (3, _), (16, _), (17, _)] ⟨rfl, rfl, rfl, rfl, rfl, trivial⟩ ?_
          refine HN.skip ?_
          refine HN.then ?_
          exact H.at' () ⟨rfl, rfl, rfl, rfl, by first | (simp [*]; done) | (simp [*]; rfl), trivial⟩ (fun w hw => hw)
        · refine H.keep [(1, _), (2, _), (3, _), (16, _)] ⟨rfl, rfl, rfl, rfl, trivial⟩ ?_
          refine H.seq ?_
          refine H.region ?_
          refine H.q (yl_eql rfl rfl) rfl rfl (by decide) ?_
          refine H.q (yl_assign rfl) rfl rfl (by decide) ?_
          refine HN.done ?_
          refine HN.keep [(1, _), (2, _), (3, _), (16, _), (17, _)] ⟨rfl, rfl, rfl, rfl, rfl, trivial⟩ ?_
          refine HN.then ?_
          refine H.cond _ rfl (fun t2 => ?_) (fun t2 => ?_)
          · refine H.keep [(1, _), (2, _), (3, _), (16, _), (17, _)] ⟨rfl, rfl, rfl, rfl, rfl, trivial⟩ ?_
            refine HN.skip ?_
            refine HN.then ?_
            exact H.at' () ⟨rfl, rfl, rfl, rfl, by first | (simp [*]; done) | (simp [*]; rfl), trivial⟩ (fun w hw => hw)
          · refine H.keep [(1, _), (2, _), (3, _), (16, _)] ⟨rfl, rfl, rfl, rfl, trivial⟩ ?_
            refine H.region ?_
            refine H.q (yl_eql rfl rfl) rfl rfl (by decide) ?_
            refine H.q (yl_assign rfl) rfl rfl (by decide) ?_
            refine HN.done ?_
            refine HN.keep [(1, _), (2, _), (3, _), (16, _), (17, _)] ⟨rfl, rfl, rfl, rfl, rfl, trivial⟩ ?_
            refine HN.then ?_
            exact H.at' () ⟨rfl, rfl, rfl, rfl, by first | (simp [*]; done) | (simp [*]; rfl), trivial⟩ (fun w hw => hw)
      · refine H.cond _ rfl (fun t3 => ?_) (fun t3 => ?_)
        · refine H.keep [(1, _), (2, _), (3, _)] ⟨rfl, rfl, rfl, trivial⟩ ?_
          refine H.region ?_
          refine H.q (yl_fieldAddr _ fa25_3 rfl) rfl rfl (by decide) ?_
          refine H.q (yl_load Tryz.isAgg2 rfl (fun w hw => hw.cell 2 rfl rfl)) rfl rfl (by decide) ?_
          refine H.q (yl_fieldAddr _ fa25_3 rfl) rfl rfl (by decide) ?_
          refine H.store1 0 rfl rfl rfl rfl Tryz.sizeOf2 rfl rfl ?_
          refine HN.done ?_
          refine HN.keep [(2, _), (3, _)] ⟨rfl, rfl, trivial⟩ ?_
          refine HN.block ?_
          refine HN.then ?_
          obtain ⟨e1, e2, e3⟩ := fieldsA t3
          exact H.at' () ⟨rfl, rfl, trivial⟩ (fun w hw => by simp only [e1, e2, e3]; exact hw)
        · refine H.keep [(1, _), (2, _), (3, _), (16, _)] ⟨rfl, rfl, rfl, rfl, trivial⟩ ?_
          refine H.seqCut (α := Unit) (fun _ => [(1, .pointer (some ⟨b1, 0, none⟩)), (2, .pointer (some ⟨b2, 0, none⟩)), (3, .pointer (some ⟨b3, 0, none⟩)), (16, .int .u8 x.kind), (24, .bool (decide (x.kind = 6) || decide (x.kind = 11)))]) (fun _ => Hp w0 [(b3, ex (.cells [.int .u8 x.kind, .int .i64 x.a, .int .i64 (if twoB x.kind = true then x.b else 0), .int .i64 0, .int .i64 0, .slice none 0 0].toArray 25)), (b2, ex (.cells [.int .u8 0, .int .i64 0, .int .i64 0, .int .i64 0, .int .i64 0, .slice none 0 0].toArray 25)), (b1, ex (.cells [.int .u8 x.kind, .int .i64 x.a, .int .i64 x.b, .int .i64 x.k, .int .i64 x.m, .slice ad sn cap].toArray 25))] [] []) ?_ (fun _ => ?_)
          · refine H.seq ?_
            refine H.region ?_
            refine H.q (yl_eql rfl rfl) rfl rfl (by decide) ?_
            refine H.q (yl_assign rfl) rfl rfl (by decide) ?_
            refine HN.done ?_
            refine HN.keep [(1, _), (2, _), (3, _), (16, _), (24, _)] ⟨rfl, rfl, rfl, rfl, rfl, trivial⟩ ?_
            refine HN.then ?_
            refine H.cond _ rfl (fun t4 => ?_) (fun t4 => ?_)
            · refine H.keep [(1, _), (2, _), (3, _), (16, _), (24, _)] ⟨rfl, rfl, rfl, rfl, rfl, trivial⟩ ?_
              refine HN.skip ?_
              refine HN.then ?_
              exact H.at' () ⟨rfl, rfl, rfl, rfl, by first | (simp [*]; done) | (simp [*]; rfl), trivial⟩ (fun w hw => hw)
            · refine H.keep [(1, _), (2, _), (3, _), (16, _)] ⟨rfl, rfl, rfl, rfl, trivial⟩ ?_
              refine H.region ?_
              refine H.q (yl_eql rfl rfl) rfl rfl (by decide) ?_
              refine H.q (yl_assign rfl) rfl rfl (by decide) ?_
              refine HN.done ?_
              refine HN.keep [(1, _), (2, _), (3, _), (16, _), (24, _)] ⟨rfl, rfl, rfl, rfl, rfl, trivial⟩ ?_
              refine HN.then ?_
              exact H.at' () ⟨rfl, rfl, rfl, rfl, by first | (simp [*]; done) | (simp [*]; rfl), trivial⟩ (fun w hw => hw)
          · refine H.cond _ rfl (fun t5 => ?_) (fun t5 => ?_)
            · refine H.keep [(1, _), (2, _), (3, _)] ⟨rfl, rfl, rfl, trivial⟩ ?_
              refine H.seq ?_
              refine H.region ?_
              refine H.q (yl_fieldAddr _ fa25_3 rfl) rfl rfl (by decide) ?_
              refine H.q (yl_load Tryz.isAgg2 rfl (fun w hw => hw.cell 2 rfl rfl)) rfl rfl (by decide) ?_
              refine H.q (yl_fieldAddr _ fa25_3 rfl) rfl rfl (by decide) ?_
              refine H.store1 0 rfl rfl rfl rfl Tryz.sizeOf2 rfl rfl ?_
              refine HN.done ?_
              refine HN.keep [(1, _), (2, _), (3, _)] ⟨rfl, rfl, rfl, trivial⟩ ?_
              refine HN.then ?_
              refine H.region ?_
              refine H.q (yl_fieldAddr _ fa25_4 rfl) rfl rfl (by decide) ?_
              refine H.q (yl_load Tryz.isAgg2 rfl (fun w hw => hw.cell 2 rfl rfl)) rfl rfl (by decide) ?_
              refine H.q (yl_fieldAddr _ fa25_4 rfl) rfl rfl (by decide) ?_
              refine H.store1 0 rfl rfl rfl rfl Tryz.sizeOf2 rfl rfl ?_
              refine HN.done ?_
              refine HN.keep [(2, _), (3, _)] ⟨rfl, rfl, trivial⟩ ?_
              refine HN.block ?_
              refine HN.then ?_
              obtain ⟨e1, e2, e3⟩ := fieldsB t5
              exact H.at' () ⟨rfl, rfl, trivial⟩ (fun w hw => by simp only [e1, e2, e3]; exact hw)
            · refine H.keep [(1, _), (2, _), (3, _), (16, _)] ⟨rfl, rfl, rfl, rfl, trivial⟩ ?_
              refine H.seq ?_
              refine H.region ?_
              refine H.q (yl_eql rfl rfl) rfl rfl (by decide) ?_
              refine H.q (yl_assign rfl) rfl rfl (by decide) ?_
              refine HN.done ?_
              refine HN.keep [(1, _), (2, _), (3, _), (33, _)] ⟨rfl, rfl, rfl, rfl, trivial⟩ ?_
              refine HN.then ?_
              refine H.cond _ rfl (fun t6 => ?_) (fun t6 => ?_)
              · refine H.keep [(1, _), (2, _), (3, _)] ⟨rfl, rfl, rfl, trivial⟩ ?_
                refine H.region ?_
                refine H.q (yl_fieldAddr _ fa25_5 rfl) rfl rfl (by decide) ?_
                refine H.q (yl_load Tryz.isAgg23 rfl (fun w hw => hw.cell 2 rfl rfl)) rfl rfl (by decide) ?_
                refine H.q (yl_fieldAddr _ fa25_5 rfl) rfl rfl (by decide) ?_
                refine H.store1 0 rfl rfl rfl rfl Tryz.sizeOf23 rfl rfl ?_
                refine HN.done ?_
                refine HN.keep [(2, _), (3, _)] ⟨rfl, rfl, trivial⟩ ?_
                refine HN.block ?_
                refine HN.then ?_
                obtain ⟨e1, e2, e3⟩ := fieldsC t6
                exact H.at' () ⟨rfl, rfl, trivial⟩ (fun w hw => by simp only [e1, e2, e3]; exact hw)
              · refine H.keep [(2, _), (3, _)] ⟨rfl, rfl, trivial⟩ ?_
                refine HN.skip ?_
                refine HN.block ?_
                refine HN.then ?_
                obtain ⟨e1, e2, e3⟩ := fieldsD t3 t5 t6
                exact H.at' () ⟨rfl, rfl, trivial⟩ (fun w hw => by simp only [e1, e2, e3]; exact hw)
    · refine H.seq ?_
      refine H.region ?_
      refine H.q (yl_loadAgg _ Tryz.isAgg25 Tryz.sizeOf25 rfl (fun w hw => cells_of_blk (hw.blk 0 rfl)) rfl) rfl rfl (by decide) ?_
      refine H.storeA 1 rfl rfl rfl Tryz.sizeOf25 rfl rfl ?_
      refine HN.done ?_
      refine HN.keep [(2, _)] ⟨rfl, trivial⟩ ?_
      refine HN.then ?_
      refine HR.ret ?_
      refine HR.retC 1 Tryz.results67 Tryz.isAgg25 Tryz.sizeOf25 rfl rfl rfl (fun w hw => ?_)
      exact ⟨rfl, hw.ext⟩

end Go.Proofs.YtgbgddmbooaddaaGreatDoor

namespace Go.Proofs.YtgbgddmbooaddaaGreatDoor
open Go.RowKit

set_option maxRecDepth 100000 in
theorem idxI_any {α : Type} (enc : α → Value) (g : FuncId) (caps : List Value) (p : α → Bool) (l : List α) (sv : Value) (w0 : World) (hl : l.length ≤ 4611686018427387904) (hv : IsSl w0 sv (l.map enc)) (hg : ∀ args w, (callFunc g args).run Tryz.prog w = .ok (.enter g args) w) (hp : ∀ j (hj : j < l.length) w, Ext w0 w → Calls Tryz.prog g ([enc l[j]] ++ caps).toArray w fun e w' => e = .returned (.bool (p l[j])) ∧ Ext w w') : Calls Tryz.prog 109 #[sv, .func (.func g) #[] caps.toArray] w0 fun e w' => e = .returned (.int .i64 (idxP p l)) ∧ Ext w0 w' := by
  obtain ⟨ad, cap, b, o, rfl, hcap, hs⟩ := sl_open enc hv
  refine enterA 19 Tryz.func109 rfl Tryz.ntmps109 rfl (Hp w0 [] [] []) (Hp.init _) ?_
  refine H.seq ?_
  refine H.region ?_
  refine H.q (yl_assign rfl) rfl rfl (by decide) ?_
  refine HN.done ?_
  refine HN.keep [(0, _), (1, _)] ⟨rfl, rfl, trivial⟩ ?_
  refine HN.then ?_
  refine H.seq ?_
  refine H.seq ?_
  refine H.region ?_
  refine H.q (yl_move rfl) rfl rfl (by decide) ?_
  refine H.q (yl_len rfl Tryz.underlying23 rfl) rfl rfl (by decide) ?_
  refine H.q (yl_move rfl) rfl rfl (by decide) ?_
  refine HN.done ?_
  refine HN.keep [(0, _), (1, _), (7, _), (8, _)] ⟨rfl, rfl, rfl, rfl, trivial⟩ ?_
  refine HN.then ?_
  refine H.block ?_
  refine H.loop (fun k : Nat => [(0, .slice ad l.length cap), (1, .func (.func g) #[] caps.toArray), (7, .int .i64 (l.length : Int)), (8, .int .i64 (k : Int))]) (fun k => k ≤ l.length ∧ ∀ j (hj : j < k) (hj2 : j < l.length), p l[j] = false) (fun _ => Hp w0 [] [] []) (fun k => l.length - k) 0 ⟨Nat.zero_le _, fun j hj => by omega⟩ ⟨rfl, rfl, rfl, rfl, trivial⟩ (fun w hw => hw) (fun k hI => ?_)
  obtain ⟨hk0, hk1⟩ := hI
  refine H.seq ?_
  refine H.region ?_
  refine H.q (yl_lss rfl rfl) rfl rfl (by decide) ?_
  refine HN.done ?_
  refine HN.keep [(0, _), (1, _), (7, _), (8, _), (9, _)] ⟨rfl, rfl, rfl, rfl, rfl, trivial⟩ ?_
  refine HN.then ?_
  refine H.seq ?_
  refine H.cond _ rfl (fun t0 => ?_) (fun t0 => ?_)
  · simp only [decide_eq_true_eq] at t0; have hk : k < l.length := by omega
    refine H.keep [(0, _), (1, _), (7, _), (8, _)] ⟨rfl, rfl, rfl, rfl, trivial⟩ ?_
    refine HN.skip ?_
    refine HN.then ?_
    refine H.seq ?_
    refine H.block ?_
    refine H.seq ?_
    refine H.region ?_
    refine H.q (yl_move rfl) rfl rfl (by decide) ?_
    refine H.q (yl_assign rfl) rfl rfl (by decide) ?_
    refine HN.done ?_
    refine HN.keep [(0, _), (1, _), (5, _), (7, _), (8, _)] ⟨rfl, rfl, rfl, rfl, rfl, trivial⟩ ?_
    refine HN.then ?_
    refine H.seq ?_
    refine H.region ?_
    refine H.q (yl_move rfl) rfl rfl (by decide) ?_
    refine H.q (yl_move rfl) rfl rfl (by decide) ?_
    refine H.q (yl_move rfl) rfl rfl (by decide) ?_
    refine H.q (yl_ix k Tryz.underlying23 Tryz.sizeOf2 (hs k hk).1 rfl rfl rfl hk) rfl rfl (by decide) ?_
    refine H.q (yl_load Tryz.isAgg2 rfl (fun w hw => cell_ext hw.ext (hs k hk).2)) rfl rfl (by decide) ?_
    refine H.q (yl_callv (xs := [.tmp 15]) hg (stab_hp _ _ _ _) rfl rfl (fun w hw => hp k hk w hw.ext)) rfl rfl (by decide) ?_
    refine HN.done ?_
    refine HN.keep [(0, _), (1, _), (5, _), (7, _), (8, _), (16, _)] ⟨rfl, rfl, rfl, rfl, rfl, rfl, trivial⟩ ?_
    refine HN.then ?_
    refine H.cond _ rfl (fun t1 => ?_) (fun t1 => ?_)
    · refine H.keep [(5, _)] ⟨rfl, trivial⟩ ?_
      refine H.seq ?_
      refine H.region ?_
      refine H.q (yl_move rfl) rfl rfl (by decide) ?_
      refine H.q (yl_assign rfl) rfl rfl (by decide) ?_
      refine HN.done ?_
      refine HN.keep [(4, _)] ⟨rfl, trivial⟩ ?_
      refine HN.then ?_
      refine HR.ret ?_
      refine HR.block ?_
      refine HR.then ?_
      refine HR.then ?_
      refine HR.block ?_
      refine HR.then ?_
      refine HR.ret1 _ Tryz.results109 rfl (fun w hw => ?_)
      exact ⟨by rw [idxP_hit k hk t1 fun j hj => hk1 j hj (by omega)], hw.ext⟩
    · refine H.keep [(0, _), (1, _), (7, _), (8, _)] ⟨rfl, rfl, rfl, rfl, trivial⟩ ?_
      refine HN.skip ?_
      refine HN.block ?_
      refine HN.then ?_
      refine H.region ?_
      refine H.q (yl_add rfl rfl _ rfl (by omega)) rfl rfl (by decide) ?_
      refine H.q (yl_move rfl) rfl rfl (by decide) ?_
      refine HN.done ?_
      refine HN.keep [(0, _), (1, _), (7, _), (8, _)] ⟨rfl, rfl, rfl, rfl, trivial⟩ ?_
      refine HN.then ?_
      have hn : ∀ j (hj : j < k + 1) (hj2 : j < l.length), p l[j] = false := fun j hj hj2 => by
        by_cases h : j < k
        · exact hk1 j h hj2
        · obtain rfl : j = k := by omega
          exact t1
      exact H.at (k + 1) ⟨⟨by omega, hn⟩, by omega⟩ ⟨rfl, rfl, rfl, rfl, trivial⟩ (fun w hw => hw)
  · simp only [decide_eq_false_iff_not] at t0
    refine H.keep [] trivial ?_
    refine HX.exit ?_
    refine HX.then ?_
    refine HX.then ?_
    refine HX.hit ?_
    refine HN.then ?_
    refine H.seq ?_
    refine H.region ?_
    refine H.q (yl_assign rfl) rfl rfl (by decide) ?_
    refine HN.done ?_
    refine HN.keep [(4, _)] ⟨rfl, trivial⟩ ?_
    refine HN.then ?_
    refine HR.ret ?_
    refine HR.ret1 _ Tryz.results109 rfl (fun w hw => ?_)
    exact ⟨by rw [idxP_miss fun j hj => hk1 j (by omega) hj], hw.ext⟩

set_option maxRecDepth 100000 in
theorem idxIC_any {α : Type} (enc : α → Value) (g : FuncId) (caps : List Value) (p : α → Bool) (l : List α) (sv : Value) (w0 : World) (hl : l.length ≤ 4611686018427387904) (hv : IsSl w0 sv (l.map enc)) (hg : ∀ args w, (callFunc g args).run Tryz.prog w = .ok (.enter g args) w) (hp : ∀ j (hj : j < l.length) w, Ext w0 w → Calls Tryz.prog g ([enc l[j]] ++ caps).toArray w fun e w' => e = .returned (.bool (p l[j])) ∧ Ext w w') : Calls Tryz.prog 78 #[sv, .func (.func g) #[] caps.toArray] w0 fun e w' => e = .returned (.bool (l.any p)) ∧ Ext w0 w' := by
  refine enterA 9 Tryz.func78 rfl Tryz.ntmps78 rfl (Hp w0 [] [] []) (Hp.init _) ?_
  refine H.seq ?_
  refine H.region ?_
  refine H.q (yl_assign rfl) rfl rfl (by decide) ?_
  refine HN.done ?_
  refine HN.keep [(0, _), (1, _)] ⟨rfl, rfl, trivial⟩ ?_
  refine HN.then ?_
  refine H.seq ?_
  refine H.region ?_
  refine H.q (yl_move rfl) rfl rfl (by decide) ?_
  refine H.q (yl_move rfl) rfl rfl (by decide) ?_
  refine H.q (yl_call (xs := [.tmp 5, .tmp 6]) Tryz.call109 (stab_hp _ _ _ _) rfl (fun w hw => idxI_any enc g caps p l sv w hl (hv.ext hw.ext) hg (fun j hj w1 h1 => hp j hj w1 (hw.ext.trans h1)))) rfl rfl (by decide) ?_
  refine H.q (yl_geq rfl rfl) rfl rfl (by decide) ?_
  refine H.q (yl_assign rfl) rfl rfl (by decide) ?_
  refine HN.done ?_
  refine HN.keep [(4, _)] ⟨rfl, trivial⟩ ?_
  refine HN.then ?_
  refine HR.ret ?_
  refine HR.ret1 _ Tryz.results78 rfl (fun w hw => ?_)
  exact ⟨by rw [← idxP_any], hw.ext⟩

set_option maxRecDepth 100000 in
theorem idxR_any {α : Type} (enc : α → Value) (g : FuncId) (caps : List Value) (p : α → Bool) (l : List α) (sv : Value) (w0 : World) (hl : l.length ≤ 4611686018427387904) (hv : IsSl w0 sv (l.map enc)) (hg : ∀ args w, (callFunc g args).run Tryz.prog w = .ok (.enter g args) w) (hp : ∀ j (hj : j < l.length) w, Ext w0 w → Calls Tryz.prog g ([enc l[j]] ++ caps).toArray w fun e w' => e = .returned (.bool (p l[j])) ∧ Ext w w') : Calls Tryz.prog 80 #[sv, .func (.func g) #[] caps.toArray] w0 fun e w' => e = .returned (.int .i64 (idxP p l)) ∧ Ext w0 w' := by
  obtain ⟨ad, cap, b, o, rfl, hcap, hs⟩ := sl_open enc hv
  refine enterA 19 Tryz.func80 rfl Tryz.ntmps80 rfl (Hp w0 [] [] []) (Hp.init _) ?_
  refine H.seq ?_
  refine H.region ?_
  refine H.q (yl_assign rfl) rfl rfl (by decide) ?_
  refine HN.done ?_
  refine HN.keep [(0, _), (1, _)] ⟨rfl, rfl, trivial⟩ ?_
  refine HN.then ?_
  refine H.seq ?_
  refine H.seq ?_
  refine H.region ?_
  refine H.q (yl_move rfl) rfl rfl (by decide) ?_
  refine H.q (yl_len rfl Tryz.underlying37 rfl) rfl rfl (by decide) ?_
  refine H.q (yl_move rfl) rfl rfl (by decide) ?_
  refine HN.done ?_
  refine HN.keep [(0, _), (1, _), (7, _), (8, _)] ⟨rfl, rfl, rfl, rfl, trivial⟩ ?_
  refine HN.then ?_
  refine H.block ?_
  refine H.loop (fun k : Nat => [(0, .slice ad l.length cap), (1, .func (.func g) #[] caps.toArray), (7, .int .i64 (l.length : Int)), (8, .int .i64 (k : Int))]) (fun k => k ≤ l.length ∧ ∀ j (hj : j < k) (hj2 : j < l.length), p l[j] = false) (fun _ => Hp w0 [] [] []) (fun k => l.length - k) 0 ⟨Nat.zero_le _, fun j hj => by omega⟩ ⟨rfl, rfl, rfl, rfl, trivial⟩ (fun w hw => hw) (fun k hI => ?_)
  obtain ⟨hk0, hk1⟩ := hI
  refine H.seq ?_
  refine H.region ?_
  refine H.q (yl_lss rfl rfl) rfl rfl (by decide) ?_
  refine HN.done ?_
  refine HN.keep [(0, _), (1, _), (7, _), (8, _), (9, _)] ⟨rfl, rfl, rfl, rfl, rfl, trivial⟩ ?_
  refine HN.then ?_
  refine H.seq ?_
  refine H.cond _ rfl (fun t0 => ?_) (fun t0 => ?_)
  · simp only [decide_eq_true_eq] at t0; have hk : k < l.length := by omega
    refine H.keep [(0, _), (1, _), (7, _), (8, _)] ⟨rfl, rfl, rfl, rfl, trivial⟩ ?_
    refine HN.skip ?_
    refine HN.then ?_
    refine H.seq ?_
    refine H.block ?_
    refine H.seq ?_
    refine H.region ?_
    refine H.q (yl_move rfl) rfl rfl (by decide) ?_
    refine H.q (yl_assign rfl) rfl rfl (by decide) ?_
    refine HN.done ?_
    refine HN.keep [(0, _), (1, _), (5, _), (7, _), (8, _)] ⟨rfl, rfl, rfl, rfl, rfl, trivial⟩ ?_
    refine HN.then ?_
    refine H.seq ?_
    refine H.region ?_
    refine H.q (yl_move rfl) rfl rfl (by decide) ?_
    refine H.q (yl_move rfl) rfl rfl (by decide) ?_
    refine H.q (yl_move rfl) rfl rfl (by decide) ?_
    refine H.q (yl_ix k Tryz.underlying37 Tryz.sizeOf23 (hs k hk).1 rfl rfl rfl hk) rfl rfl (by decide) ?_
    refine H.q (yl_load Tryz.isAgg23 rfl (fun w hw => cell_ext hw.ext (hs k hk).2)) rfl rfl (by decide) ?_
    refine H.q (yl_callv (xs := [.tmp 15]) hg (stab_hp _ _ _ _) rfl rfl (fun w hw => hp k hk w hw.ext)) rfl rfl (by decide) ?_
    refine HN.done ?_
    refine HN.keep [(0, _), (1, _), (5, _), (7, _), (8, _), (16, _)] ⟨rfl, rfl, rfl, rfl, rfl, rfl, trivial⟩ ?_
    refine HN.then ?_
    refine H.cond _ rfl (fun t1 => ?_) (fun t1 => ?_)
    · refine H.keep [(5, _)] ⟨rfl, trivial⟩ ?_
      refine H.seq ?_
      refine H.region ?_
      refine H.q (yl_move rfl) rfl rfl (by decide) ?_
      refine H.q (yl_assign rfl) rfl rfl (by decide) ?_
      refine HN.done ?_
      refine HN.keep [(4, _)] ⟨rfl, trivial⟩ ?_
      refine HN.then ?_
      refine HR.ret ?_
      refine HR.block ?_
      refine HR.then ?_
      refine HR.then ?_
      refine HR.block ?_
      refine HR.then ?_
      refine HR.ret1 _ Tryz.results80 rfl (fun w hw => ?_)
      exact ⟨by rw [idxP_hit k hk t1 fun j hj => hk1 j hj (by omega)], hw.ext⟩
    · refine H.keep [(0, _), (1, _), (7, _), (8, _)] ⟨rfl, rfl, rfl, rfl, trivial⟩ ?_
      refine HN.skip ?_
      refine HN.block ?_
      refine HN.then ?_
      refine H.region ?_
      refine H.q (yl_add rfl rfl _ rfl (by omega)) rfl rfl (by decide) ?_
      refine H.q (yl_move rfl) rfl rfl (by decide) ?_
      refine HN.done ?_
      refine HN.keep [(0, _), (1, _), (7, _), (8, _)] ⟨rfl, rfl, rfl, rfl, trivial⟩ ?_
      refine HN.then ?_
      have hn : ∀ j (hj : j < k + 1) (hj2 : j < l.length), p l[j] = false := fun j hj hj2 => by
        by_cases h : j < k
        · exact hk1 j h hj2
        · obtain rfl : j = k := by omega
          exact t1
      exact H.at (k + 1) ⟨⟨by omega, hn⟩, by omega⟩ ⟨rfl, rfl, rfl, rfl, trivial⟩ (fun w hw => hw)
  · simp only [decide_eq_false_iff_not] at t0
    refine H.keep [] trivial ?_
    refine HX.exit ?_
    refine HX.then ?_
    refine HX.then ?_
    refine HX.hit ?_
    refine HN.then ?_
    refine H.seq ?_
    refine H.region ?_
    refine H.q (yl_assign rfl) rfl rfl (by decide) ?_
    refine HN.done ?_
    refine HN.keep [(4, _)] ⟨rfl, trivial⟩ ?_
    refine HN.then ?_
    refine HR.ret ?_
    refine HR.ret1 _ Tryz.results80 rfl (fun w hw => ?_)
    exact ⟨by rw [idxP_miss fun j hj => hk1 j (by omega) hj], hw.ext⟩

set_option maxRecDepth 100000 in
theorem idxRC_any {α : Type} (enc : α → Value) (g : FuncId) (caps : List Value) (p : α → Bool) (l : List α) (sv : Value) (w0 : World) (hl : l.length ≤ 4611686018427387904) (hv : IsSl w0 sv (l.map enc)) (hg : ∀ args w, (callFunc g args).run Tryz.prog w = .ok (.enter g args) w) (hp : ∀ j (hj : j < l.length) w, Ext w0 w → Calls Tryz.prog g ([enc l[j]] ++ caps).toArray w fun e w' => e = .returned (.bool (p l[j])) ∧ Ext w w') : Calls Tryz.prog 52 #[sv, .func (.func g) #[] caps.toArray] w0 fun e w' => e = .returned (.bool (l.any p)) ∧ Ext w0 w' := by
  refine enterA 9 Tryz.func52 rfl Tryz.ntmps52 rfl (Hp w0 [] [] []) (Hp.init _) ?_
  refine H.seq ?_
  refine H.region ?_
  refine H.q (yl_assign rfl) rfl rfl (by decide) ?_
  refine HN.done ?_
  refine HN.keep [(0, _), (1, _)] ⟨rfl, rfl, trivial⟩ ?_
  refine HN.then ?_
  refine H.seq ?_
  refine H.region ?_
  refine H.q (yl_move rfl) rfl rfl (by decide) ?_
  refine H.q (yl_move rfl) rfl rfl (by decide) ?_
  refine H.q (yl_call (xs := [.tmp 5, .tmp 6]) Tryz.call80 (stab_hp _ _ _ _) rfl (fun w hw => idxR_any enc g caps p l sv w hl (hv.ext hw.ext) hg (fun j hj w1 h1 => hp j hj w1 (hw.ext.trans h1)))) rfl rfl (by decide) ?_
  refine H.q (yl_geq rfl rfl) rfl rfl (by decide) ?_
  refine H.q (yl_assign rfl) rfl rfl (by decide) ?_
  refine HN.done ?_
  refine HN.keep [(4, _)] ⟨rfl, trivial⟩ ?_
  refine HN.then ?_
  refine HR.ret ?_
  refine HR.ret1 _ Tryz.results52 rfl (fun w hw => ?_)
  exact ⟨by rw [← idxP_any], hw.ext⟩

set_option maxRecDepth 100000 in
theorem notSmall_any (x : Int) (w0 : World) : Calls Tryz.prog 79 #[.int .i64 x] w0 fun e w' => e = .returned (.bool (!smallB x)) ∧ Ext w0 w' := by
  refine enterA 6 Tryz.func79 rfl Tryz.ntmps79 rfl (Hp w0 [] [] []) (Hp.init _) ?_
  refine H.seq ?_
  refine H.region ?_
  refine H.q (yl_assign rfl) rfl rfl (by decide) ?_
  refine HN.done ?_
  refine HN.keep [(0, _)] ⟨rfl, trivial⟩ ?_
  refine HN.then ?_
  refine H.seq ?_
  refine H.region ?_
  refine H.q (yl_move rfl) rfl rfl (by decide) ?_
  refine H.q (yl_call (xs := [.tmp 3]) Tryz.call63 (stab_hp _ _ _ _) rfl (fun w hw => small_any _ w)) rfl rfl (by decide) ?_
  refine H.q (yl_not rfl) rfl rfl (by decide) ?_
  refine H.q (yl_assign rfl) rfl rfl (by decide) ?_
  refine HN.done ?_
  refine HN.keep [(2, _)] ⟨rfl, trivial⟩ ?_
  refine HN.then ?_
  refine HR.ret ?_
  refine HR.ret1 _ Tryz.results79 rfl (fun w hw => ?_)
  exact ⟨rfl, hw.ext⟩

set_option maxRecDepth 100000 in
theorem allSmall_any (l : List Int) (sv : Value) (w0 : World) (hl : l.length ≤ 4611686018427387904) (hv : IsInts w0 sv l) : Calls Tryz.prog 50 #[sv] w0 fun e w' => e = .returned (.bool (allSmallB l)) ∧ Ext w0 w' := by
  refine enterA 6 Tryz.func50 rfl Tryz.ntmps50 rfl (Hp w0 [] [] []) (Hp.init _) ?_
  refine H.seq ?_
  refine H.region ?_
  refine H.q (yl_assign rfl) rfl rfl (by decide) ?_
  refine HN.done ?_
  refine HN.keep [(0, _)] ⟨rfl, trivial⟩ ?_
  refine HN.then ?_
  refine H.seq ?_
  refine H.region ?_
  refine H.q (yl_move rfl) rfl rfl (by decide) ?_
  refine H.q (yl_call (xs := [.tmp 3, .func 79]) Tryz.call78 (stab_hp _ _ _ _) rfl (fun w hw => idxIC_any (.int .i64) 79 [] (fun x => !smallB x) l sv w hl (hv.ext hw.ext) Tryz.call79 (fun j hj w1 h1 => notSmall_any _ w1))) rfl rfl (by decide) ?_
  refine H.q (yl_not rfl) rfl rfl (by decide) ?_
  refine H.q (yl_assign rfl) rfl rfl (by decide) ?_
  refine HN.done ?_
  refine HN.keep [(2, _)] ⟨rfl, trivial⟩ ?_
  refine HN.then ?_
  refine HR.ret ?_
  refine HR.ret1 _ Tryz.results50 rfl (fun w hw => ?_)
  refine ⟨?_, hw.ext⟩
  rw [List.any_eq_not_all_not]
  simp [allSmallB]

set_option maxRecDepth 100000 in
theorem same_any (x y : Inv) (sv1 sv2 : Value) (w0 : World) (hl1 : x.set.length ≤ 4611686018427387904) (_hl2 : y.set.length ≤ 4611686018427387904) (hv1 : IsInts w0 sv1 x.set) (hv2 : IsInts w0 sv2 y.set) : Calls Tryz.prog 16 #[.agg [.int .u8 x.kind, .int .i64 x.a, .int .i64 x.b, .int .i64 x.k, .int .i64 x.m, sv1].toArray, .agg [.int .u8 y.kind, .int .i64 y.a, .int .i64 y.b, .int .i64 y.k, .int .i64 y.m, sv2].toArray] w0 fun e w' => e = .returned (.bool (sameB x y)) ∧ Ext w0 w' := by
  obtain ⟨ad1, cap1, c1, o1, rfl, hcap1, hs1⟩ := ints_open hv1
  obtain ⟨ad2, cap2, c2, o2, rfl, hcap2, hs2⟩ := ints_open hv2
  refine enterA 66 Tryz.func16 rfl Tryz.ntmps16 rfl (Hp w0 [] [] []) (Hp.init _) ?_
  refine H.seq ?_
  refine H.region ?_
  refine H.boxA rfl (by decide) (fun b2 hb2 => ?_)
  refine H.boxA rfl (by decide) (fun b3 hb3 => ?_)
  refine H.q (yl_assign rfl) rfl rfl (by decide) ?_
  refine HN.done ?_
  refine HN.keep [(2, _), (3, _)] ⟨rfl, rfl, trivial⟩ ?_
  refine HN.then ?_
  refine H.seq ?_
  refine H.seq ?_
  refine H.region ?_
  refine H.q (yl_fieldAddr _ fa25_0 rfl) rfl rfl (by decide) ?_
  refine H.q (yl_load Tryz.isAgg22 rfl (fun w hw => hw.cell 1 rfl rfl)) rfl rfl (by decide) ?_
  refine H.q (yl_fieldAddr _ fa25_0 rfl) rfl rfl (by decide) ?_
  refine H.q (yl_load Tryz.isAgg22 rfl (fun w hw => hw.cell 0 rfl rfl)) rfl rfl (by decide) ?_
  refine H.q (yl_neq rfl rfl) rfl rfl (by decide) ?_
  refine H.q (yl_move rfl) rfl rfl (by decide) ?_
  refine H.qg (wn_f rfl rfl (by decide) rfl) (fun hg => yl_sub [(2, _)] ⟨rfl, trivial⟩ (yl_fieldAddr _ fa25_1 rfl)) rfl (by decide) ?_
  refine H.qg (wn_f rfl rfl (by decide) rfl) (fun hg => yl_sub [(12, _)] ⟨slT rfl hg, trivial⟩ (yl_load Tryz.isAgg3 rfl (fun w hw => hw.cell 1 rfl rfl))) rfl (by decide) ?_
  refine H.qg (wn_f rfl rfl (by decide) rfl) (fun hg => yl_sub [(3, _)] ⟨rfl, trivial⟩ (yl_fieldAddr _ fa25_1 rfl)) rfl (by decide) ?_
  refine H.qg (wn_f rfl rfl (by decide) rfl) (fun hg => yl_sub [(14, _)] ⟨slT rfl hg, trivial⟩ (yl_load Tryz.isAgg3 rfl (fun w hw => hw.cell 0 rfl rfl))) rfl (by decide) ?_
  refine H.qg (wn_f rfl rfl (by decide) rfl) (fun hg => yl_sub [(13, _), (15, _)] ⟨slT rfl hg, slT rfl hg, trivial⟩ (yl_neq rfl rfl)) rfl (by decide) ?_
  refine H.q (yl_or rfl rfl) rfl rfl (by decide) ?_
  refine H.q (yl_move rfl) rfl rfl (by decide) ?_
  refine H.qg (wn_f rfl rfl (by decide) rfl) (fun hg => yl_sub [(2, _)] ⟨rfl, trivial⟩ (yl_fieldAddr _ fa25_2 rfl)) rfl (by decide) ?_
  refine H.qg (wn_f rfl rfl (by decide) rfl) (fun hg => yl_sub [(19, _)] ⟨slT rfl hg, trivial⟩ (yl_load Tryz.isAgg3 rfl (fun w hw => hw.cell 1 rfl rfl))) rfl (by decide) ?_
  refine H.qg (wn_f rfl rfl (by decide) rfl) (fun hg => yl_sub [(3, _)] ⟨rfl, trivial⟩ (yl_fieldAddr _ fa25_2 rfl)) rfl (by decide) ?_
  refine H.qg (wn_f rfl rfl (by decide) rfl) (fun hg => yl_sub [(21, _)] ⟨slT rfl hg, trivial⟩ (yl_load Tryz.isAgg3 rfl (fun w hw => hw.cell 0 rfl rfl))) rfl (by decide) ?_
  refine H.qg (wn_f rfl rfl (by decide) rfl) (fun hg => yl_sub [(20, _), (22, _)] ⟨slT rfl hg, slT rfl hg, trivial⟩ (yl_neq rfl rfl)) rfl (by decide) ?_
  refine H.q (yl_or rfl rfl) rfl rfl (by decide) ?_
  refine H.q (yl_move rfl) rfl rfl (by decide) ?_
  refine H.qg (wn_f rfl rfl (by decide) rfl) (fun hg => yl_sub [(2, _)] ⟨rfl, trivial⟩ (yl_fieldAddr _ fa25_3 rfl)) rfl (by decide) ?_
  refine H.qg (wn_f rfl rfl (by decide) rfl) (fun hg => yl_sub [(26, _)] ⟨slT rfl hg, trivial⟩ (yl_load Tryz.isAgg2 rfl (fun w hw => hw.cell 1 rfl rfl))) rfl (by decide) ?_
  refine H.qg (wn_f rfl rfl (by decide) rfl) (fun hg => yl_sub [(3, _)] ⟨rfl, trivial⟩ (yl_fieldAddr _ fa25_3 rfl)) rfl (by decide) ?_
  refine H.qg (wn_f rfl rfl (by decide) rfl) (fun hg => yl_sub [(28, _)] ⟨slT rfl hg, trivial⟩ (yl_load Tryz.isAgg2 rfl (fun w hw => hw.cell 0 rfl rfl))) rfl (by decide) ?_
  refine H.qg (wn_f rfl rfl (by decide) rfl) (fun hg => yl_sub [(27, _), (29, _)] ⟨slT rfl hg, slT rfl hg, trivial⟩ (yl_neq rfl rfl)) rfl (by decide) ?_
  refine H.q (yl_or rfl rfl) rfl rfl (by decide) ?_
  refine H.q (yl_move rfl) rfl rfl (by decide) ?_
  refine H.qg (wn_f rfl rfl (by decide) rfl) (fun hg => yl_sub [(2, _)] ⟨rfl, trivial⟩ (yl_fieldAddr _ fa25_4 rfl)) rfl (by decide) ?_
  refine H.qg (wn_f rfl rfl (by decide) rfl) (fun hg => yl_sub [(33, _)] ⟨slT rfl hg, trivial⟩ (yl_load Tryz.isAgg2 rfl (fun w hw => hw.cell 1 rfl rfl))) rfl (by decide) ?_
  refine H.qg (wn_f rfl rfl (by decide) rfl) (fun hg => yl_sub [(3, _)] ⟨rfl, trivial⟩ (yl_fieldAddr _ fa25_4 rfl)) rfl (by decide) ?_
  refine H.qg (wn_f rfl rfl (by decide) rfl) (fun hg => yl_sub [(35, _)] ⟨slT rfl hg, trivial⟩ (yl_load Tryz.isAgg2 rfl (fun w hw => hw.cell 0 rfl rfl))) rfl (by decide) ?_
  refine H.qg (wn_f rfl rfl (by decide) rfl) (fun hg => yl_sub [(34, _), (36, _)] ⟨slT rfl hg, slT rfl hg, trivial⟩ (yl_neq rfl rfl)) rfl (by decide) ?_
  refine H.q (yl_or rfl rfl) rfl rfl (by decide) ?_
  refine H.q (yl_move rfl) rfl rfl (by decide) ?_
  refine H.qg (wn_f rfl rfl (by decide) rfl) (fun hg => yl_sub [(2, _)] ⟨rfl, trivial⟩ (yl_fieldAddr _ fa25_5 rfl)) rfl (by decide) ?_
  refine H.qg (wn_f rfl rfl (by decide) rfl) (fun hg => yl_sub [(40, _)] ⟨slT rfl hg, trivial⟩ (yl_load Tryz.isAgg23 rfl (fun w hw => hw.cell 1 rfl rfl))) rfl (by decide) ?_
  refine H.qg (wn_f rfl rfl (by decide) rfl) (fun hg => yl_sub [(41, _)] ⟨slT rfl hg, trivial⟩ (yl_len rfl Tryz.underlying23 rfl)) rfl (by decide) ?_
  refine H.qg (wn_f rfl rfl (by decide) rfl) (fun hg => yl_sub [(3, _)] ⟨rfl, trivial⟩ (yl_fieldAddr _ fa25_5 rfl)) rfl (by decide) ?_
  refine H.qg (wn_f rfl rfl (by decide) rfl) (fun hg => yl_sub [(43, _)] ⟨slT rfl hg, trivial⟩ (yl_load Tryz.isAgg23 rfl (fun w hw => hw.cell 0 rfl rfl))) rfl (by decide) ?_
  refine H.qg (wn_f rfl rfl (by decide) rfl) (fun hg => yl_sub [(44, _)] ⟨slT rfl hg, trivial⟩ (yl_len rfl Tryz.underlying23 rfl)) rfl (by decide) ?_
  refine H.qg (wn_f rfl rfl (by decide) rfl) (fun hg => yl_sub [(42, _), (45, _)] ⟨slT rfl hg, slT rfl hg, trivial⟩ (yl_neq rfl rfl)) rfl (by decide) ?_
  refine H.q (yl_or rfl rfl) rfl rfl (by decide) ?_
  refine HN.done ?_
  refine HN.keep [(2, _), (3, _), (47, _)] ⟨rfl, rfl, rfl, trivial⟩ ?_
  refine HN.then ?_
  refine H.cond _ rfl (fun t0 => ?_) (fun t0 => ?_)
  · refine H.keep [] trivial ?_
    refine H.seq ?_
    refine H.region ?_
    refine H.q (yl_assign rfl) rfl rfl (by decide) ?_
    refine HN.done ?_
    refine HN.keep [(4, _)] ⟨rfl, trivial⟩ ?_
    refine HN.then ?_
    refine HR.ret ?_
    refine HR.then ?_
    refine HR.ret1 _ Tryz.results16 rfl (fun w hw => ?_)
    rw [sameB_of]
    · exact ⟨rfl, hw.ext⟩
    · simp only [Bool.or_eq_true, decide_eq_true_eq] at t0 ⊢
      rcases t0 with t0 | t0
      · exact .inl t0
      · exact .inr (fun h => t0 (by rw [h]))
  · simp only [Bool.or_eq_false_iff, decide_eq_false_iff_not, Decidable.not_not] at t0
    obtain ⟨⟨⟨⟨⟨e1, e2⟩, e3⟩, e4⟩, e5⟩, e6⟩ := t0
    refine H.keep [(2, _), (3, _)] ⟨rfl, rfl, trivial⟩ ?_
    refine HN.skip ?_
    refine HN.then ?_
    refine H.seq ?_
    refine H.seq ?_
    refine H.region ?_
    refine H.q (yl_assign rfl) rfl rfl (by decide) ?_
    refine HN.done ?_
    refine HN.keep [(2, _), (3, _), (5, _)] ⟨rfl, rfl, rfl, trivial⟩ ?_
    refine HN.then ?_
    refine H.block ?_
    refine H.loop (fun k : Nat => [(2, .pointer (some ⟨b2, 0, none⟩)), (3, .pointer (some ⟨b3, 0, none⟩)), (5, .int .i64 (k : Int))]) (fun k => k ≤ x.set.length ∧ ∀ j, j < k → x.set.getD j 0 = y.set.getD j 0) (fun _ => Hp w0 [(b3, ex (.cells [.int .u8 y.kind, .int .i64 y.a, .int .i64 y.b, .int .i64 y.k, .int .i64 y.m, .slice ad2 y.set.length cap2].toArray 25)), (b2, ex (.cells [.int .u8 x.kind, .int .i64 x.a, .int .i64 x.b, .int .i64 x.k, .int .i64 x.m, .slice ad1 x.set.length cap1].toArray 25))] [] []) (fun k => x.set.length - k) 0 ⟨Nat.zero_le _, fun j hj => by omega⟩ ⟨rfl, rfl, rfl, trivial⟩ (fun w hw => hw) (fun k hI => ?_)
    obtain ⟨hk0, hk1⟩ := hI
    refine H.seq ?_
    refine H.seq ?_
    refine H.region ?_
    refine H.q (yl_move rfl) rfl rfl (by decide) ?_
    refine H.q (yl_fieldAddr _ fa25_5 rfl) rfl rfl (by decide) ?_
    refine H.q (yl_load Tryz.isAgg23 rfl (fun w hw => hw.cell 1 rfl rfl)) rfl rfl (by decide) ?_
    refine H.q (yl_len rfl Tryz.underlying23 rfl) rfl rfl (by decide) ?_
    refine H.q (yl_lss rfl rfl) rfl rfl (by decide) ?_
    refine HN.done ?_
    refine HN.keep [(2, _), (3, _), (5, _), (52, _)] ⟨rfl, rfl, rfl, rfl, trivial⟩ ?_
    refine HN.then ?_
    refine H.cond _ rfl (fun t1 => ?_) (fun t1 => ?_)
    · simp only [decide_eq_true_eq] at t1; have hk : k < x.set.length := by omega
      refine H.keep [(2, _), (3, _), (5, _)] ⟨rfl, rfl, rfl, trivial⟩ ?_
      refine HN.skip ?_
      refine HN.then ?_
      refine H.seq ?_
      refine H.block ?_
      refine H.seq ?_
      refine H.regionQ Tryz.mixed (by kernel_rfl) (stab_hp _ _ _ _) ?_
      refine G.q (yl_fieldAddr _ fa25_5 rfl) rfl rfl (by decide) ?_
      refine G.q (yl_load Tryz.isAgg23 rfl (fun w hw => hw.cell 1 rfl rfl)) rfl rfl (by decide) ?_
      refine G.q (yl_move rfl) rfl rfl (by decide) ?_
      refine G.q (yl_ix k Tryz.underlying23 Tryz.sizeOf2 (hs1 k hk).1 rfl rfl rfl hk) rfl rfl (by decide) ?_
      refine G.q (yl_load Tryz.isAgg2 rfl (fun w hw => cell_ext hw.ext (hs1 k hk).2)) rfl rfl (by decide) ?_
      refine G.q (yl_fieldAddr _ fa25_5 rfl) rfl rfl (by decide) ?_
      refine G.q (yl_load Tryz.isAgg23 rfl (fun w hw => hw.cell 0 rfl rfl)) rfl rfl (by decide) ?_
      refine G.q (yl_move rfl) rfl rfl (by decide) ?_
      refine G.q (yl_ix k Tryz.underlying23 Tryz.sizeOf2 (hs2 k (by omega)).1 rfl rfl rfl (by omega)) rfl rfl (by decide) ?_
      refine G.q (yl_load Tryz.isAgg2 rfl (fun w hw => cell_ext hw.ext (hs2 k (by omega)).2)) rfl rfl (by decide) ?_
      refine G.q (yl_neq rfl rfl) rfl rfl (by decide) ?_
      refine HN.doneG ?_
      refine HN.keep [(2, _), (3, _), (5, _), (65, _)] ⟨rfl, rfl, rfl, rfl, trivial⟩ ?_
      refine HN.then ?_
      refine H.cond _ rfl (fun t2 => ?_) (fun t2 => ?_)
      · simp only [decide_eq_true_eq] at t2
        refine H.keep [] trivial ?_
        refine H.seq ?_
        refine H.region ?_
        refine H.q (yl_assign rfl) rfl rfl (by decide) ?_
        refine HN.done ?_
        refine HN.keep [(4, _)] ⟨rfl, trivial⟩ ?_
        refine HN.then ?_
        refine HR.ret ?_
        refine HR.block ?_
        refine HR.then ?_
        refine HR.then ?_
        refine HR.block ?_
        refine HR.then ?_
        refine HR.ret1 _ Tryz.results16 rfl (fun w hw => ?_)
        rw [sameB_of]
        · exact ⟨rfl, hw.ext⟩
        · exact .inr (fun h => t2 (by rw [h]))
      · simp only [decide_eq_false_iff_not, Decidable.not_not] at t2
        refine H.keep [(2, _), (3, _), (5, _)] ⟨rfl, rfl, rfl, trivial⟩ ?_
        refine HN.skip ?_
        refine HN.block ?_
        refine HN.then ?_
        refine H.region ?_
        refine H.q (yl_move rfl) rfl rfl (by decide) ?_
        refine H.q (yl_add rfl rfl _ rfl (by omega)) rfl rfl (by decide) ?_
        refine H.q (yl_assign rfl) rfl rfl (by decide) ?_
        refine HN.done ?_
        refine HN.keep [(2, _), (3, _), (5, _)] ⟨rfl, rfl, rfl, trivial⟩ ?_
        refine HN.then ?_
        have hn : ∀ j, j < k + 1 → x.set.getD j 0 = y.set.getD j 0 := fun j hj => by
          by_cases h : j < k
          · exact hk1 j h
          · obtain rfl : j = k := by omega
            exact t2
        exact H.at (k + 1) ⟨⟨by omega, hn⟩, by omega⟩ ⟨rfl, rfl, rfl, trivial⟩ (fun w hw => hw)
    · simp only [decide_eq_false_iff_not] at t1
      refine H.keep [] trivial ?_
      refine HX.exit ?_
      refine HX.then ?_
      refine HX.then ?_
      refine HX.hit ?_
      refine HN.then ?_
      refine H.seq ?_
      refine H.region ?_
      refine H.q (yl_assign rfl) rfl rfl (by decide) ?_
      refine HN.done ?_
      refine HN.keep [(4, _)] ⟨rfl, trivial⟩ ?_
      refine HN.then ?_
      refine HR.ret ?_
      refine HR.ret1 _ Tryz.results16 rfl (fun w hw => ?_)
      have hset : x.set = y.set := list_ext_getD (by omega) (fun j hj => hk1 j (by omega))
      exact ⟨by simp [sameB, e1, e2, e3, e4, e5, hset], hw.ext⟩

end Go.Proofs.YtgbgddmbooaddaaGreatDoor

namespace Go.Proofs.YtgbgddmbooaddaaGreatDoor

theorem numE_zero {x : Inv} (h : numE x = 0) : smallB x.k = true ∧ smallB x.m = true ∧ allSmallB x.set = true ∧ (hasSB x.kind = true → 2 ≤ x.set.length ∧ x.set.length ≤ 3 ∧ risingB x.set = true) ∧ (x.kind = 6 → 2 ≤ x.m ∧ 0 ≤ x.k ∧ x.k < x.m) := by
  unfold numE at h
  split at h
  · rename_i h1
    simp only [Bool.and_eq_true] at h1
    split at h
    · cases h
    · rename_i h2
      split at h
      · cases h
      · rename_i h3
        refine ⟨h1.1.1, h1.1.2, h1.2, fun hs => ?_, fun hk => ?_⟩
        · simp only [hs, Bool.true_and, Bool.or_eq_true, decide_eq_true_eq, not_or, Bool.not_eq_true', Bool.not_eq_false] at h2
          refine ⟨by omega, by omega, h2.2⟩
        · simp only [hk, decide_true, Bool.true_and, Bool.or_eq_true, decide_eq_true_eq, not_or] at h3
          omega
  · cases h

theorem tmod_lt1 {n m : Int} (h : 1 ≤ m) : -m < n.tmod m ∧ n.tmod m < m := by
  have h1 := Int.tmod_lt_of_pos n (show 0 < m by omega)
  have h2 := Int.lt_tmod_of_pos n (show 0 < m by omega)
  omega
theorem chk_zero {x : Inv} {vars : Int} (h : chk x vars = 0) : 1 ≤ vars ∧ vars ≤ 8 ∧ kindB x.kind = true ∧ placeB x vars = true ∧ numE x = 0 ∧ sameB x (bareI x) = true := by
  unfold chk at h
  split at h
  · cases h
  · split at h
    · cases h
    · split at h
      · cases h
      · split at h
        · cases h
        · rename_i h1 h2 h3 h4
          split at h
          · rename_i h5
            split at h
            · rename_i h6
              exact ⟨by omega, by omega, by simpa using h3, by simpa using h4, h5, h6⟩
            · cases h
          · contradiction

theorem chk_in {x : Inv} {vars : Int} (h : chk x vars = 0) : 0 ≤ x.a ∧ x.a < vars ∧ 0 ≤ x.b ∧ x.b < vars := by
  obtain ⟨h1, h2, h3, h4, h5, h6⟩ := chk_zero h
  simp only [placeB, outB, Bool.and_eq_true, Bool.not_eq_true', Bool.or_eq_false_iff, decide_eq_false_iff_not] at h4
  obtain ⟨⟨⟨ha, hb⟩, hc⟩, _⟩ := h4
  cases ht : twoB x.kind
  · rw [sameB_bare] at h6
    simp only [strayB, ht, Bool.not_eq_true', Bool.or_eq_false_iff] at h6
    have := h6.1.1.1
    simp only [Bool.not_false, Bool.true_and, decide_eq_false_iff_not, Decidable.not_not] at this
    omega
  · simp only [ht, Bool.true_and, Bool.or_eq_false_iff, decide_eq_false_iff_not] at hc
    omega

/-- What the code of 'holds' needs of a claim. -/
def Safe (x : Inv) : Prop := smallB x.k = true ∧ smallB x.m = true ∧ (x.kind = 6 → 2 ≤ x.m)
theorem chk_safe {x : Inv} {vars : Int} (h : chk x vars = 0) : Safe x := by
  obtain ⟨h1, h2, h3, h4, h5, h6⟩ := chk_zero h
  obtain ⟨a, b, _, _, c⟩ := numE_zero h5
  exact ⟨a, b, fun k => (c k).1⟩

theorem allSmall_get {l : List Int} (h : allSmallB l = true) {j : Nat} (hj : j < l.length) : smallB (l.getD j 0) = true := by
  simp only [allSmallB, List.all_eq_true] at h
  have := h l[j] (List.getElem_mem hj)
  simpa [List.getD, hj] using this
theorem allSmall_no {l : List Int} {j : Nat} (hj : j < l.length) (h : smallB (l.getD j 0) = false) : allSmallB l = false := by
  cases h1 : allSmallB l
  · rfl
  · rw [allSmall_get h1 hj] at h; cases h
theorem allSmall_yes {l : List Int} (h : ∀ j, j < l.length → smallB (l.getD j 0) = true) : allSmallB l = true := by
  simp only [allSmallB, List.all_eq_true]
  intro x hx
  obtain ⟨j, hj, rfl⟩ := List.getElem_of_mem hx
  simpa [List.getD, hj] using h j hj

/-- Equal lists of claims. -/
def sameAllB : List Inv → List Inv → Bool
  | [], [] => true
  | x :: l, y :: m => sameB x y && sameAllB l m
  | _, _ => false
theorem sameAllB_len : ∀ {l m : List Inv}, l.length ≠ m.length → sameAllB l m = false
  | [], [], h => absurd rfl h
  | [], _ :: _, _ => rfl
  | _ :: _, [], _ => rfl
  | x :: l, y :: m, h => by rw [sameAllB, sameAllB_len (fun e => h (by simp [e])), Bool.and_false]
theorem sameB_refl (x : Inv) : sameB x x = true := by simp [sameB]
/-- Too many to be asked. -/
def wideB (l : List Inv) (rows : List (List Int)) (names : List (List UInt8)) : Bool :=
  ((decide ((40 : Int) < l.length) || decide ((40 : Int) < rows.length)) || decide ((20 : Int) < names.length)) || (l.any (fun x => decide ((20 : Int) < x.set.length)) || rows.any (fun r => decide ((20 : Int) < r.length)) || names.any (fun s => decide ((40 : Int) < s.length)))
theorem wideB_claim {l : List Inv} {rows : List (List Int)} {names : List (List UInt8)} {x : Inv} (h : x ∈ l) (h2 : (20 : Int) < x.set.length) : wideB l rows names = true := by
  have : l.any (fun x => decide ((20 : Int) < x.set.length)) = true := List.any_eq_true.2 ⟨x, h, decide_eq_true h2⟩
  simp only [wideB, this, Bool.true_or, Bool.or_true]
theorem wideB_row {l : List Inv} {rows : List (List Int)} {names : List (List UInt8)} {x : List Int} (h : x ∈ rows) (h2 : (20 : Int) < x.length) : wideB l rows names = true := by
  have : rows.any (fun r => decide ((20 : Int) < r.length)) = true := List.any_eq_true.2 ⟨x, h, decide_eq_true h2⟩
  simp only [wideB, this, Bool.true_or, Bool.or_true]
theorem wideB_name {l : List Inv} {rows : List (List Int)} {names : List (List UInt8)} {x : List UInt8} (h : x ∈ names) (h2 : (40 : Int) < x.length) : wideB l rows names = true := by
  have : names.any (fun s => decide ((40 : Int) < s.length)) = true := List.any_eq_true.2 ⟨x, h, decide_eq_true h2⟩
  simp only [wideB, this, Bool.or_true]
theorem wideB_no {l : List Inv} {rows : List (List Int)} {names : List (List UInt8)} (h1 : ¬ (40 : Int) < l.length) (h2 : ¬ (40 : Int) < rows.length) (h3 : ¬ (20 : Int) < names.length) (h4 : ∀ x ∈ l, ¬ (20 : Int) < x.set.length) (h5 : ∀ x ∈ rows, ¬ (20 : Int) < x.length)
    (h6 : ∀ x ∈ names, ¬ (40 : Int) < x.length) : wideB l rows names = false := by
  have a : l.any (fun x => decide ((20 : Int) < x.set.length)) = false := List.any_eq_false.2 fun x hx => by simpa using h4 x hx
  have b : rows.any (fun r => decide ((20 : Int) < r.length)) = false := List.any_eq_false.2 fun x hx => by simpa using h5 x hx
  have c : names.any (fun s => decide ((40 : Int) < s.length)) = false := List.any_eq_false.2 fun x hx => by simpa using h6 x hx
  simp only [wideB, a, b, c, decide_eq_false h1, decide_eq_false h2, decide_eq_false h3, Bool.or_false]
end Go.Proofs.YtgbgddmbooaddaaGreatDoor

namespace Go.Proofs.YtgbgddmbooaddaaGreatDoor
open Go.RowKit

set_option maxRecDepth 100000 in
theorem check_any (vars : Int) (x : Inv) (sv : Value) (w0 : World) (hl : x.set.length ≤ 4611686018427387904) (hv : IsInts w0 sv x.set) : Calls Tryz.prog 28 #[(.agg [.int .u8 x.kind, .int .i64 x.a, .int .i64 x.b, .int .i64 x.k, .int .i64 x.m, sv].toArray), .int .i64 vars] w0 fun e w' => e = .returned (.int .i64 (chk x vars)) ∧ Ext w0 w' := by
  obtain ⟨ad, cap, b, o, rfl, hcap, hs⟩ := ints_open hv
  refine enterA 162 Tryz.func28 rfl Tryz.ntmps28 rfl (Hp w0 [] [] []) (Hp.init _) ?_
  refine H.seq ?_
  refine H.region ?_
  refine H.boxA rfl (by decide) (fun b2 hb2 => ?_)
  refine H.q (yl_assign rfl) rfl rfl (by decide) ?_
  refine HN.done ?_
  refine HN.keep [(1, _), (2, _)] ⟨rfl, rfl, trivial⟩ ?_
  refine HN.then ?_
  refine H.seq ?_
  refine H.block ?_
  refine H.seq ?_
  refine H.region ?_
  refine H.q (yl_move rfl) rfl rfl (by decide) ?_
  refine H.q (yl_lss rfl rfl) rfl rfl (by decide) ?_
  refine H.q (yl_assign rfl) rfl rfl (by decide) ?_
  refine HN.done ?_
  refine HN.keep [(1, _), (2, _), (10, _)] ⟨rfl, rfl, rfl, trivial⟩ ?_
  refine HN.then ?_
  refine H.cond _ rfl (fun t0 => ?_) (fun t0 => ?_)
  · refine H.keep [] trivial ?_
    refine H.seq ?_
    refine H.region ?_
    refine H.q (yl_assign rfl) rfl rfl (by decide) ?_
    refine HN.done ?_
    refine HN.keep [(4, _)] ⟨rfl, trivial⟩ ?_
    refine HN.then ?_
    refine HR.ret ?_
    refine HR.block ?_
    refine HR.then ?_
    refine HR.ret1 _ Tryz.results28 rfl (fun w hw => ?_)
    exact ⟨by rw [chk_low t0], hw.ext⟩
  · refine H.keep [(1, _), (2, _)] ⟨rfl, rfl, trivial⟩ ?_
    refine H.seq ?_
    refine H.region ?_
    refine H.q (yl_move rfl) rfl rfl (by decide) ?_
    refine H.q (yl_gtr rfl rfl) rfl rfl (by decide) ?_
    refine H.q (yl_assign rfl) rfl rfl (by decide) ?_
    refine HN.done ?_
    refine HN.keep [(1, _), (2, _), (13, _)] ⟨rfl, rfl, rfl, trivial⟩ ?_
    refine HN.then ?_
    refine H.cond _ rfl (fun t1 => ?_) (fun t1 => ?_)
    · refine H.keep [] trivial ?_
      refine H.seq ?_
      refine H.region ?_
      refine H.q (yl_assign rfl) rfl rfl (by decide) ?_
      refine HN.done ?_
      refine HN.keep [(4, _)] ⟨rfl, trivial⟩ ?_
      refine HN.then ?_
      refine HR.ret ?_
      refine HR.block ?_
      refine HR.then ?_
      refine HR.ret1 _ Tryz.results28 rfl (fun w hw => ?_)
      exact ⟨by rw [chk_high t0 t1], hw.ext⟩
    · refine H.keep [(1, _), (2, _)] ⟨rfl, rfl, trivial⟩ ?_
      refine HN.skip ?_
      refine HN.block ?_
      refine HN.then ?_
      refine H.seq ?_
      refine H.region ?_
      refine H.q (yl_loadAgg _ Tryz.isAgg25 Tryz.sizeOf25 rfl (fun w hw => cells_of_blk (hw.blk 0 rfl)) rfl) rfl rfl (by decide) ?_
      refine H.q (yl_call (xs := [.tmp 16]) Tryz.call39 (stab_hp _ _ _ _) rfl (fun w hw => claimOf_any x ad x.set.length cap w)) rfl rfl (by decide) ?_
      refine H.q (yl_assign rfl) rfl rfl (by decide) ?_
      refine HN.done ?_
      refine HN.keep [(1, _), (2, _), (5, _)] ⟨rfl, rfl, rfl, trivial⟩ ?_
      refine HN.then ?_
      refine H.seq ?_
      refine H.seq ?_
      refine H.region ?_
      refine H.q (yl_move rfl) rfl rfl (by decide) ?_
      refine H.q (yl_ifaceNil (T := claimT x.kind) (v := claimA x (.slice ad x.set.length cap)) Tryz.underlying68 rfl) rfl rfl (by decide) ?_
      refine HN.done ?_
      refine HN.keep [(1, _), (2, _), (5, _), (19, _)] ⟨rfl, rfl, rfl, rfl, trivial⟩ ?_
      refine HN.then ?_
      refine H.cond _ rfl (fun t2 => ?_) (fun t2 => ?_)
      · refine H.keep [] trivial ?_
        refine H.seq ?_
        refine H.region ?_
        refine H.q (yl_assign rfl) rfl rfl (by decide) ?_
        refine HN.done ?_
        refine HN.keep [(4, _)] ⟨rfl, trivial⟩ ?_
        refine HN.then ?_
        refine HR.ret ?_
        refine HR.then ?_
        refine HR.ret1 _ Tryz.results28 rfl (fun w hw => ?_)
        exact ⟨by rw [chk_kind t0 t1 (claimT_none (by simpa using t2))], hw.ext⟩
      · have hk := claimT_some (show ¬ claimT x.kind = 0 by simpa using t2)
        refine H.keep [(1, _), (2, _), (5, .iface (claimT x.kind) (claimA x (.slice ad x.set.length cap)))] ⟨rfl, rfl, congrArg some (if_neg (by simpa using t2)), trivial⟩ ?_
        refine H.keep [(1, _), (2, _), (5, _)] ⟨rfl, rfl, rfl, trivial⟩ ?_
        refine HN.skip ?_
        refine HN.then ?_
        refine H.seq ?_
        refine H.region ?_
        refine H.q (yl_move rfl) rfl rfl (by decide) ?_
        refine H.q (yl_call (xs := [.tmp 21]) Tryz.call62 (stab_hp _ _ _ _) rfl (fun w hw => fields_any x.kind _ w hk)) rfl rfl (by decide) ?_
        refine H.q (yl_move rfl) rfl rfl (by decide) ?_
        refine H.q (yl_extract _ rfl rfl) rfl rfl (by decide) ?_
        refine H.q (yl_extract _ rfl rfl) rfl rfl (by decide) ?_
        refine H.q (yl_extract _ rfl rfl) rfl rfl (by decide) ?_
        refine H.q (yl_extract _ rfl rfl) rfl rfl (by decide) ?_
        refine H.q (yl_assign rfl) rfl rfl (by decide) ?_
        refine H.q (yl_assign rfl) rfl rfl (by decide) ?_
        refine H.q (yl_assign rfl) rfl rfl (by decide) ?_
        refine H.q (yl_assign rfl) rfl rfl (by decide) ?_
        refine HN.done ?_
        refine HN.keep [(1, _), (2, _), (6, _), (7, _), (8, _), (9, _)] ⟨rfl, rfl, rfl, rfl, rfl, rfl, trivial⟩ ?_
        refine HN.then ?_
        refine H.seq ?_
        refine H.seq ?_
        refine H.region ?_
        refine H.q (yl_fieldAddr _ fa25_1 rfl) rfl rfl (by decide) ?_
        refine H.q (yl_load Tryz.isAgg3 rfl (fun w hw => hw.cell 0 rfl rfl)) rfl rfl (by decide) ?_
        refine H.q (yl_lss rfl rfl) rfl rfl (by decide) ?_
        refine H.q (yl_move rfl) rfl rfl (by decide) ?_
        refine H.qg (wn_f rfl rfl (by decide) rfl) (fun hg => yl_sub [(2, _)] ⟨rfl, trivial⟩ (yl_fieldAddr _ fa25_1 rfl)) rfl (by decide) ?_
        refine H.qg (wn_f rfl rfl (by decide) rfl) (fun hg => yl_sub [(31, _)] ⟨slT rfl hg, trivial⟩ (yl_load Tryz.isAgg3 rfl (fun w hw => hw.cell 0 rfl rfl))) rfl (by decide) ?_
        refine H.qg (wn_f rfl rfl (by decide) rfl) (fun hg => yl_sub [(1, _)] ⟨rfl, trivial⟩ (yl_move rfl)) rfl (by decide) ?_
        refine H.qg (wn_f rfl rfl (by decide) rfl) (fun hg => yl_sub [(32, _), (33, _)] ⟨slT rfl hg, slT rfl hg, trivial⟩ (yl_geq rfl rfl)) rfl (by decide) ?_
        refine H.q (yl_or rfl rfl) rfl rfl (by decide) ?_
        refine H.q (yl_move rfl) rfl rfl (by decide) ?_
        refine H.qg (wn_f rfl rfl (by decide) rfl) (fun hg => yl_sub [(6, _)] ⟨rfl, trivial⟩ (yl_move rfl)) rfl (by decide) ?_
        refine H.qg (wn_f rfl rfl (by decide) rfl) (fun hg => yl_sub [(37, _)] ⟨slT rfl hg, trivial⟩ (yl_move rfl)) rfl (by decide) ?_
        refine H.qg (wn_gt rfl rfl (by decide) rfl) (fun hg => yl_sub [(2, _)] ⟨rfl, trivial⟩ (yl_fieldAddr _ fa25_2 rfl)) rfl (by decide) ?_
        refine H.qg (wn_gt rfl rfl (by decide) rfl) (fun hg => yl_sub [(39, _)] ⟨slT rfl hg, trivial⟩ (yl_load Tryz.isAgg3 rfl (fun w hw => hw.cell 0 rfl rfl))) rfl (by decide) ?_
        refine H.qg (wn_gt rfl rfl (by decide) rfl) (fun hg => yl_sub [(40, _)] ⟨slT rfl hg, trivial⟩ (yl_lss rfl rfl)) rfl (by decide) ?_
        refine H.qg (wn_gt rfl rfl (by decide) rfl) (fun hg => yl_sub [(41, _)] ⟨slT rfl hg, trivial⟩ (yl_move rfl)) rfl (by decide) ?_
        refine H.qg (wn_gf rfl rfl (by decide) rfl) (fun hg => yl_sub [(2, _)] ⟨rfl, trivial⟩ (yl_fieldAddr _ fa25_2 rfl)) rfl (by decide) ?_
        refine H.qg (wn_gf rfl rfl (by decide) rfl) (fun hg => yl_sub [(43, _)] ⟨slT rfl hg, trivial⟩ (yl_load Tryz.isAgg3 rfl (fun w hw => hw.cell 0 rfl rfl))) rfl (by decide) ?_
        refine H.qg (wn_gf rfl rfl (by decide) rfl) (fun hg => yl_sub [(1, _)] ⟨rfl, trivial⟩ (yl_move rfl)) rfl (by decide) ?_
        refine H.qg (wn_gf rfl rfl (by decide) rfl) (fun hg => yl_sub [(44, _), (45, _)] ⟨slT rfl hg, slT rfl hg, trivial⟩ (yl_geq rfl rfl)) rfl (by decide) ?_
        refine H.qg (wn_gt rfl rfl (by decide) rfl) (fun hg => yl_sub [(42, _), (46, _)] ⟨slT rfl hg, slA rfl hg, trivial⟩ (yl_or rfl rfl)) rfl (by decide) ?_
        refine H.qg (wn_gt rfl rfl (by decide) rfl) (fun hg => yl_sub [(47, _)] ⟨slT rfl hg, trivial⟩ (yl_move rfl)) rfl (by decide) ?_
        refine H.qg (wn_gf rfl rfl (by decide) rfl) (fun hg => yl_sub [(2, _)] ⟨rfl, trivial⟩ (yl_fieldAddr _ fa25_1 rfl)) rfl (by decide) ?_
        refine H.qg (wn_gf rfl rfl (by decide) rfl) (fun hg => yl_sub [(49, _)] ⟨slT rfl hg, trivial⟩ (yl_load Tryz.isAgg3 rfl (fun w hw => hw.cell 0 rfl rfl))) rfl (by decide) ?_
        refine H.qg (wn_gf rfl rfl (by decide) rfl) (fun hg => yl_sub [(2, _)] ⟨rfl, trivial⟩ (yl_fieldAddr _ fa25_2 rfl)) rfl (by decide) ?_
        refine H.qg (wn_gf rfl rfl (by decide) rfl) (fun hg => yl_sub [(51, _)] ⟨slT rfl hg, trivial⟩ (yl_load Tryz.isAgg3 rfl (fun w hw => hw.cell 0 rfl rfl))) rfl (by decide) ?_
        refine H.qg (wn_gf rfl rfl (by decide) rfl) (fun hg => yl_sub [(50, _), (52, _)] ⟨slT rfl hg, slT rfl hg, trivial⟩ (yl_eql rfl rfl)) rfl (by decide) ?_
        refine H.qg (wn_gt rfl rfl (by decide) rfl) (fun hg => yl_sub [(48, _), (53, _)] ⟨slT rfl hg, slA rfl hg, trivial⟩ (yl_or rfl rfl)) rfl (by decide) ?_
        refine H.qg (wn_f rfl rfl (by decide) rfl) (fun hg => yl_sub [(38, _), (54, _)] ⟨slT rfl hg, slA rfl hg, trivial⟩ (yl_and rfl rfl)) rfl (by decide) ?_
        refine H.q (yl_or rfl rfl) rfl rfl (by decide) ?_
        refine HN.done ?_
        refine HN.keep [(2, _), (6, _), (7, _), (8, _), (9, _), (56, _)] ⟨rfl, rfl, rfl, rfl, rfl, rfl, trivial⟩ ?_
        refine HN.then ?_
        refine H.cond _ rfl (fun t3 => ?_) (fun t3 => ?_)
        · have hp : placeB x vars = false := place_out t3
          refine H.keep [] trivial ?_
          refine H.seq ?_
          refine H.region ?_
          refine H.q (yl_assign rfl) rfl rfl (by decide) ?_
          refine HN.done ?_
          refine HN.keep [(4, _)] ⟨rfl, trivial⟩ ?_
          refine HN.then ?_
          refine HR.ret ?_
          refine HR.then ?_
          refine HR.ret1 _ Tryz.results28 rfl (fun w hw => ?_)
          exact ⟨by rw [chk_place t0 t1 hk hp], hw.ext⟩
        · refine H.keep [(2, _), (6, _), (7, _), (8, _), (9, _)] ⟨rfl, rfl, rfl, rfl, rfl, trivial⟩ ?_
          refine HN.skip ?_
          refine HN.then ?_
          refine H.seq ?_
          refine H.seq ?_
          refine H.region ?_
          refine H.q (yl_fieldAddr _ fa25_0 rfl) rfl rfl (by decide) ?_
          refine H.q (yl_load Tryz.isAgg22 rfl (fun w hw => hw.cell 0 rfl rfl)) rfl rfl (by decide) ?_
          refine H.q (yl_eql rfl rfl) rfl rfl (by decide) ?_
          refine H.q (yl_move rfl) rfl rfl (by decide) ?_
          refine H.qg (wn_f rfl rfl (by decide) rfl) (fun hg => yl_sub [(2, _)] ⟨rfl, trivial⟩ (yl_fieldAddr _ fa25_0 rfl)) rfl (by decide) ?_
          refine H.qg (wn_f rfl rfl (by decide) rfl) (fun hg => yl_sub [(61, _)] ⟨slT rfl hg, trivial⟩ (yl_load Tryz.isAgg22 rfl (fun w hw => hw.cell 0 rfl rfl))) rfl (by decide) ?_
          refine H.qg (wn_f rfl rfl (by decide) rfl) (fun hg => yl_sub [(62, _)] ⟨slT rfl hg, trivial⟩ (yl_eql rfl rfl)) rfl (by decide) ?_
          refine H.q (yl_or rfl rfl) rfl rfl (by decide) ?_
          refine H.q (yl_move rfl) rfl rfl (by decide) ?_
          refine H.qg (wn_t rfl rfl (by decide) rfl) (fun hg => yl_sub [(2, _)] ⟨rfl, trivial⟩ (yl_fieldAddr _ fa25_1 rfl)) rfl (by decide) ?_
          refine H.qg (wn_t rfl rfl (by decide) rfl) (fun hg => yl_sub [(66, _)] ⟨slT rfl hg, trivial⟩ (yl_load Tryz.isAgg3 rfl (fun w hw => hw.cell 0 rfl rfl))) rfl (by decide) ?_
          refine H.qg (wn_t rfl rfl (by decide) rfl) (fun hg => yl_sub [(2, _)] ⟨rfl, trivial⟩ (yl_fieldAddr _ fa25_2 rfl)) rfl (by decide) ?_
          refine H.qg (wn_t rfl rfl (by decide) rfl) (fun hg => yl_sub [(68, _)] ⟨slT rfl hg, trivial⟩ (yl_load Tryz.isAgg3 rfl (fun w hw => hw.cell 0 rfl rfl))) rfl (by decide) ?_
          refine H.qg (wn_t rfl rfl (by decide) rfl) (fun hg => yl_sub [(67, _), (69, _)] ⟨slT rfl hg, slT rfl hg, trivial⟩ (yl_geq rfl rfl)) rfl (by decide) ?_
          refine H.q (yl_and rfl rfl) rfl rfl (by decide) ?_
          refine HN.done ?_
          refine HN.keep [(2, _), (6, _), (7, _), (8, _), (9, _), (71, _)] ⟨rfl, rfl, rfl, rfl, rfl, rfl, trivial⟩ ?_
          refine HN.then ?_
          refine H.cond _ rfl (fun t4 => ?_) (fun t4 => ?_)
          · have hp : placeB x vars = false := place_turn t4
            refine H.keep [] trivial ?_
            refine H.seq ?_
            refine H.region ?_
            refine H.q (yl_assign rfl) rfl rfl (by decide) ?_
            refine HN.done ?_
            refine HN.keep [(4, _)] ⟨rfl, trivial⟩ ?_
            refine HN.then ?_
            refine HR.ret ?_
            refine HR.then ?_
            refine HR.ret1 _ Tryz.results28 rfl (fun w hw => ?_)
            exact ⟨by rw [chk_place t0 t1 hk hp], hw.ext⟩
          · have hp : placeB x vars = true := place_in t3 t4
            refine H.keep [(2, _), (6, _), (7, _), (8, _), (9, _)] ⟨rfl, rfl, rfl, rfl, rfl, trivial⟩ ?_
            refine HN.skip ?_
            refine HN.then ?_
            refine H.seq ?_
            refine H.seq ?_
            refine H.region ?_
            refine H.q (yl_fieldAddr _ fa25_3 rfl) rfl rfl (by decide) ?_
            refine H.q (yl_load Tryz.isAgg2 rfl (fun w hw => hw.cell 0 rfl rfl)) rfl rfl (by decide) ?_
            refine H.q (yl_call (xs := [.tmp 73]) Tryz.call63 (stab_hp _ _ _ _) rfl (fun w hw => small_any _ w)) rfl rfl (by decide) ?_
            refine H.q (yl_not rfl) rfl rfl (by decide) ?_
            refine H.q (yl_move rfl) rfl rfl (by decide) ?_
            refine H.qg (wn_f rfl rfl (by decide) rfl) (fun hg => yl_sub [(2, _)] ⟨rfl, trivial⟩ (yl_fieldAddr _ fa25_4 rfl)) rfl (by decide) ?_
            refine H.qg (wn_f rfl rfl (by decide) rfl) (fun hg => yl_sub [(77, _)] ⟨slT rfl hg, trivial⟩ (yl_load Tryz.isAgg2 rfl (fun w hw => hw.cell 0 rfl rfl))) rfl (by decide) ?_
            refine H.qg (wn_f rfl rfl (by decide) rfl) (fun hg => yl_sub [(78, _)] ⟨slT rfl hg, trivial⟩ (yl_call (xs := [.tmp 78]) Tryz.call63 (stab_hp _ _ _ _) rfl (fun w hw => small_any _ w))) rfl (by decide) ?_
            refine H.qg (wn_f rfl rfl (by decide) rfl) (fun hg => yl_sub [(79, _)] ⟨slT rfl hg, trivial⟩ (yl_not rfl)) rfl (by decide) ?_
            refine H.q (yl_or rfl rfl) rfl rfl (by decide) ?_
            refine H.q (yl_move rfl) rfl rfl (by decide) ?_
            refine H.qg (wn_f rfl rfl (by decide) rfl) (fun hg => yl_sub [(2, _)] ⟨rfl, trivial⟩ (yl_fieldAddr _ fa25_5 rfl)) rfl (by decide) ?_
            refine H.qg (wn_f rfl rfl (by decide) rfl) (fun hg => yl_sub [(83, _)] ⟨slT rfl hg, trivial⟩ (yl_load Tryz.isAgg23 rfl (fun w hw => hw.cell 0 rfl rfl))) rfl (by decide) ?_
            refine H.qg (wn_f rfl rfl (by decide) rfl) (fun hg => yl_sub [(84, _)] ⟨slT rfl hg, trivial⟩ (yl_call (xs := [.tmp 84]) Tryz.call50 (stab_hp _ _ _ _) rfl (fun w hw => allSmall_any x.set (.slice ad x.set.length cap) w hl (hv.ext hw.ext)))) rfl (by decide) ?_
            refine H.qg (wn_f rfl rfl (by decide) rfl) (fun hg => yl_sub [(85, _)] ⟨slT rfl hg, trivial⟩ (yl_not rfl)) rfl (by decide) ?_
            refine H.q (yl_or rfl rfl) rfl rfl (by decide) ?_
            refine HN.done ?_
            refine HN.keep [(2, _), (6, _), (7, _), (8, _), (9, _), (87, _)] ⟨rfl, rfl, rfl, rfl, rfl, rfl, trivial⟩ ?_
            refine HN.then ?_
            refine H.cond _ rfl (fun t5 => ?_) (fun t5 => ?_)
            · have hn : numE x = 3 := numE_small (by simp only [Bool.or_eq_true, Bool.not_eq_true'] at t5; rcases t5 with (h | h) | h <;> simp [h])
              refine H.keep [] trivial ?_
              refine H.seq ?_
              refine H.region ?_
              refine H.q (yl_assign rfl) rfl rfl (by decide) ?_
              refine HN.done ?_
              refine HN.keep [(4, _)] ⟨rfl, trivial⟩ ?_
              refine HN.then ?_
              refine HR.ret ?_
              refine HR.then ?_
              refine HR.ret1 _ Tryz.results28 rfl (fun w hw => ?_)
              exact ⟨by rw [chk_num t0 t1 hk hp (by rw [hn]; decide), hn], hw.ext⟩
            · have hs5 : (smallB x.k && smallB x.m && allSmallB x.set) = true := by simp only [Bool.or_eq_false_iff, Bool.not_eq_false'] at t5; simp [t5]
              refine H.keep [(2, _), (6, _), (7, _), (8, _), (9, _)] ⟨rfl, rfl, rfl, rfl, rfl, trivial⟩ ?_
              refine HN.skip ?_
              refine HN.then ?_
              refine H.seq ?_
              refine H.seq ?_
              refine H.region ?_
              refine H.q (yl_move rfl) rfl rfl (by decide) ?_
              refine H.q (yl_move rfl) rfl rfl (by decide) ?_
              refine H.qg (wn_t rfl rfl (by decide) rfl) (fun hg => yl_sub [(2, _)] ⟨rfl, trivial⟩ (yl_fieldAddr _ fa25_5 rfl)) rfl (by decide) ?_
              refine H.qg (wn_t rfl rfl (by decide) rfl) (fun hg => yl_sub [(90, _)] ⟨slT rfl hg, trivial⟩ (yl_load Tryz.isAgg23 rfl (fun w hw => hw.cell 0 rfl rfl))) rfl (by decide) ?_
              refine H.qg (wn_t rfl rfl (by decide) rfl) (fun hg => yl_sub [(91, _)] ⟨slT rfl hg, trivial⟩ (yl_len rfl Tryz.underlying23 rfl)) rfl (by decide) ?_
              refine H.qg (wn_t rfl rfl (by decide) rfl) (fun hg => yl_sub [(92, _)] ⟨slT rfl hg, trivial⟩ (yl_lss rfl rfl)) rfl (by decide) ?_
              refine H.qg (wn_t rfl rfl (by decide) rfl) (fun hg => yl_sub [(93, _)] ⟨slT rfl hg, trivial⟩ (yl_move rfl)) rfl (by decide) ?_
              refine H.qg (wn_gf rfl rfl (by decide) rfl) (fun hg => yl_sub [(2, _)] ⟨rfl, trivial⟩ (yl_fieldAddr _ fa25_5 rfl)) rfl (by decide) ?_
              refine H.qg (wn_gf rfl rfl (by decide) rfl) (fun hg => yl_sub [(95, _)] ⟨slT rfl hg, trivial⟩ (yl_load Tryz.isAgg23 rfl (fun w hw => hw.cell 0 rfl rfl))) rfl (by decide) ?_
              refine H.qg (wn_gf rfl rfl (by decide) rfl) (fun hg => yl_sub [(96, _)] ⟨slT rfl hg, trivial⟩ (yl_len rfl Tryz.underlying23 rfl)) rfl (by decide) ?_
              refine H.qg (wn_gf rfl rfl (by decide) rfl) (fun hg => yl_sub [(97, _)] ⟨slT rfl hg, trivial⟩ (yl_gtr rfl rfl)) rfl (by decide) ?_
              refine H.qg (wn_t rfl rfl (by decide) rfl) (fun hg => yl_sub [(94, _), (98, _)] ⟨slT rfl hg, slA rfl hg, trivial⟩ (yl_or rfl rfl)) rfl (by decide) ?_
              refine H.qg (wn_t rfl rfl (by decide) rfl) (fun hg => yl_sub [(99, _)] ⟨slT rfl hg, trivial⟩ (yl_move rfl)) rfl (by decide) ?_
              refine H.qg (wn_gf rfl rfl (by decide) rfl) (fun hg => yl_sub [(2, _)] ⟨rfl, trivial⟩ (yl_fieldAddr _ fa25_5 rfl)) rfl (by decide) ?_
              refine H.qg (wn_gf rfl rfl (by decide) rfl) (fun hg => yl_sub [(101, _)] ⟨slT rfl hg, trivial⟩ (yl_load Tryz.isAgg23 rfl (fun w hw => hw.cell 0 rfl rfl))) rfl (by decide) ?_
              refine H.qg (wn_gf rfl rfl (by decide) rfl) (fun hg => yl_sub [(102, _)] ⟨slT rfl hg, trivial⟩ (yl_call (xs := [.tmp 102]) Tryz.call64 (stab_hp _ _ _ _) rfl (fun w hw => rising_any x.set (.slice ad x.set.length cap) w hl (hv.ext hw.ext)))) rfl (by decide) ?_
              refine H.qg (wn_gf rfl rfl (by decide) rfl) (fun hg => yl_sub [(103, _)] ⟨slT rfl hg, trivial⟩ (yl_not rfl)) rfl (by decide) ?_
              refine H.qg (wn_t rfl rfl (by decide) rfl) (fun hg => yl_sub [(100, _), (104, _)] ⟨slT rfl hg, slA rfl hg, trivial⟩ (yl_or rfl rfl)) rfl (by decide) ?_
              refine H.q (yl_and rfl rfl) rfl rfl (by decide) ?_
              refine HN.done ?_
              refine HN.keep [(2, _), (6, _), (7, _), (8, _), (9, _), (106, _)] ⟨rfl, rfl, rfl, rfl, rfl, rfl, trivial⟩ ?_
              refine HN.then ?_
              refine H.cond _ rfl (fun t6 => ?_) (fun t6 => ?_)
              · have hn : numE x = 1 := numE_set hs5 t6
                refine H.keep [] trivial ?_
                refine H.seq ?_
                refine H.region ?_
                refine H.q (yl_assign rfl) rfl rfl (by decide) ?_
                refine HN.done ?_
                refine HN.keep [(4, _)] ⟨rfl, trivial⟩ ?_
                refine HN.then ?_
                refine HR.ret ?_
                refine HR.then ?_
                refine HR.ret1 _ Tryz.results28 rfl (fun w hw => ?_)
                exact ⟨by rw [chk_num t0 t1 hk hp (by rw [hn]; decide), hn], hw.ext⟩
              · refine H.keep [(2, _), (6, _), (7, _), (8, _), (9, _)] ⟨rfl, rfl, rfl, rfl, rfl, trivial⟩ ?_
                refine HN.skip ?_
                refine HN.then ?_
                refine H.seq ?_
                refine H.seq ?_
                refine H.region ?_
                refine H.q (yl_fieldAddr _ fa25_0 rfl) rfl rfl (by decide) ?_
                refine H.q (yl_load Tryz.isAgg22 rfl (fun w hw => hw.cell 0 rfl rfl)) rfl rfl (by decide) ?_
                refine H.q (yl_eql rfl rfl) rfl rfl (by decide) ?_
                refine H.q (yl_move rfl) rfl rfl (by decide) ?_
                refine H.qg (wn_t rfl rfl (by decide) rfl) (fun hg => yl_sub [(2, _)] ⟨rfl, trivial⟩ (yl_fieldAddr _ fa25_4 rfl)) rfl (by decide) ?_
                refine H.qg (wn_t rfl rfl (by decide) rfl) (fun hg => yl_sub [(111, _)] ⟨slT rfl hg, trivial⟩ (yl_load Tryz.isAgg2 rfl (fun w hw => hw.cell 0 rfl rfl))) rfl (by decide) ?_
                refine H.qg (wn_t rfl rfl (by decide) rfl) (fun hg => yl_sub [(112, _)] ⟨slT rfl hg, trivial⟩ (yl_lss rfl rfl)) rfl (by decide) ?_
                refine H.qg (wn_t rfl rfl (by decide) rfl) (fun hg => yl_sub [(113, _)] ⟨slT rfl hg, trivial⟩ (yl_move rfl)) rfl (by decide) ?_
                refine H.qg (wn_gf rfl rfl (by decide) rfl) (fun hg => yl_sub [(2, _)] ⟨rfl, trivial⟩ (yl_fieldAddr _ fa25_3 rfl)) rfl (by decide) ?_
                refine H.qg (wn_gf rfl rfl (by decide) rfl) (fun hg => yl_sub [(115, _)] ⟨slT rfl hg, trivial⟩ (yl_load Tryz.isAgg2 rfl (fun w hw => hw.cell 0 rfl rfl))) rfl (by decide) ?_
                refine H.qg (wn_gf rfl rfl (by decide) rfl) (fun hg => yl_sub [(116, _)] ⟨slT rfl hg, trivial⟩ (yl_lss rfl rfl)) rfl (by decide) ?_
                refine H.qg (wn_t rfl rfl (by decide) rfl) (fun hg => yl_sub [(114, _), (117, _)] ⟨slT rfl hg, slA rfl hg, trivial⟩ (yl_or rfl rfl)) rfl (by decide) ?_
                refine H.qg (wn_t rfl rfl (by decide) rfl) (fun hg => yl_sub [(118, _)] ⟨slT rfl hg, trivial⟩ (yl_move rfl)) rfl (by decide) ?_
                refine H.qg (wn_gf rfl rfl (by decide) rfl) (fun hg => yl_sub [(2, _)] ⟨rfl, trivial⟩ (yl_fieldAddr _ fa25_3 rfl)) rfl (by decide) ?_
                refine H.qg (wn_gf rfl rfl (by decide) rfl) (fun hg => yl_sub [(120, _)] ⟨slT rfl hg, trivial⟩ (yl_load Tryz.isAgg2 rfl (fun w hw => hw.cell 0 rfl rfl))) rfl (by decide) ?_
                refine H.qg (wn_gf rfl rfl (by decide) rfl) (fun hg => yl_sub [(2, _)] ⟨rfl, trivial⟩ (yl_fieldAddr _ fa25_4 rfl)) rfl (by decide) ?_
                refine H.qg (wn_gf rfl rfl (by decide) rfl) (fun hg => yl_sub [(122, _)] ⟨slT rfl hg, trivial⟩ (yl_load Tryz.isAgg2 rfl (fun w hw => hw.cell 0 rfl rfl))) rfl (by decide) ?_
                refine H.qg (wn_gf rfl rfl (by decide) rfl) (fun hg => yl_sub [(121, _), (123, _)] ⟨slT rfl hg, slT rfl hg, trivial⟩ (yl_geq rfl rfl)) rfl (by decide) ?_
                refine H.qg (wn_t rfl rfl (by decide) rfl) (fun hg => yl_sub [(119, _), (124, _)] ⟨slT rfl hg, slA rfl hg, trivial⟩ (yl_or rfl rfl)) rfl (by decide) ?_
                refine H.q (yl_and rfl rfl) rfl rfl (by decide) ?_
                refine HN.done ?_
                refine HN.keep [(2, _), (6, _), (7, _), (8, _), (9, _), (126, _)] ⟨rfl, rfl, rfl, rfl, rfl, rfl, trivial⟩ ?_
                refine HN.then ?_
                refine H.cond _ rfl (fun t7 => ?_) (fun t7 => ?_)
                · have hn : numE x = 1 := numE_mod hs5 t6 t7
                  refine H.keep [] trivial ?_
                  refine H.seq ?_
                  refine H.region ?_
                  refine H.q (yl_assign rfl) rfl rfl (by decide) ?_
                  refine HN.done ?_
                  refine HN.keep [(4, _)] ⟨rfl, trivial⟩ ?_
                  refine HN.then ?_
                  refine HR.ret ?_
                  refine HR.then ?_
                  refine HR.ret1 _ Tryz.results28 rfl (fun w hw => ?_)
                  exact ⟨by rw [chk_num t0 t1 hk hp (by rw [hn]; decide), hn], hw.ext⟩
                · have hn : numE x = 0 := numE_ok hs5 t6 t7
                  refine H.keep [(2, _), (6, _), (7, _), (8, _), (9, _)] ⟨rfl, rfl, rfl, rfl, rfl, trivial⟩ ?_
                  refine HN.skip ?_
                  refine HN.then ?_
                  refine H.seq ?_
                  refine H.seq ?_
                  refine H.region ?_
                  refine H.q (yl_move rfl) rfl rfl (by decide) ?_
                  refine H.q (yl_not rfl) rfl rfl (by decide) ?_
                  refine H.q (yl_move rfl) rfl rfl (by decide) ?_
                  refine H.qg (wn_t rfl rfl (by decide) rfl) (fun hg => yl_sub [(2, _)] ⟨rfl, trivial⟩ (yl_fieldAddr _ fa25_2 rfl)) rfl (by decide) ?_
                  refine H.qg (wn_t rfl rfl (by decide) rfl) (fun hg => yl_sub [(130, _)] ⟨slT rfl hg, trivial⟩ (yl_load Tryz.isAgg3 rfl (fun w hw => hw.cell 0 rfl rfl))) rfl (by decide) ?_
                  refine H.qg (wn_t rfl rfl (by decide) rfl) (fun hg => yl_sub [(131, _)] ⟨slT rfl hg, trivial⟩ (yl_neq rfl rfl)) rfl (by decide) ?_
                  refine H.q (yl_and rfl rfl) rfl rfl (by decide) ?_
                  refine H.q (yl_move rfl) rfl rfl (by decide) ?_
                  refine H.qg (wn_f rfl rfl (by decide) rfl) (fun hg => yl_sub [(7, _)] ⟨rfl, trivial⟩ (yl_move rfl)) rfl (by decide) ?_
                  refine H.qg (wn_f rfl rfl (by decide) rfl) (fun hg => yl_sub [(135, _)] ⟨slT rfl hg, trivial⟩ (yl_not rfl)) rfl (by decide) ?_
                  refine H.qg (wn_f rfl rfl (by decide) rfl) (fun hg => yl_sub [(136, _)] ⟨slT rfl hg, trivial⟩ (yl_move rfl)) rfl (by decide) ?_
                  refine H.qg (wn_gt rfl rfl (by decide) rfl) (fun hg => yl_sub [(2, _)] ⟨rfl, trivial⟩ (yl_fieldAddr _ fa25_3 rfl)) rfl (by decide) ?_
                  refine H.qg (wn_gt rfl rfl (by decide) rfl) (fun hg => yl_sub [(138, _)] ⟨slT rfl hg, trivial⟩ (yl_load Tryz.isAgg2 rfl (fun w hw => hw.cell 0 rfl rfl))) rfl (by decide) ?_
                  refine H.qg (wn_gt rfl rfl (by decide) rfl) (fun hg => yl_sub [(139, _)] ⟨slT rfl hg, trivial⟩ (yl_neq rfl rfl)) rfl (by decide) ?_
                  refine H.qg (wn_f rfl rfl (by decide) rfl) (fun hg => yl_sub [(137, _), (140, _)] ⟨slT rfl hg, slA rfl hg, trivial⟩ (yl_and rfl rfl)) rfl (by decide) ?_
                  refine H.q (yl_or rfl rfl) rfl rfl (by decide) ?_
                  refine H.q (yl_move rfl) rfl rfl (by decide) ?_
                  refine H.qg (wn_f rfl rfl (by decide) rfl) (fun hg => yl_sub [(8, _)] ⟨rfl, trivial⟩ (yl_move rfl)) rfl (by decide) ?_
                  refine H.qg (wn_f rfl rfl (by decide) rfl) (fun hg => yl_sub [(144, _)] ⟨slT rfl hg, trivial⟩ (yl_not rfl)) rfl (by decide) ?_
                  refine H.qg (wn_f rfl rfl (by decide) rfl) (fun hg => yl_sub [(145, _)] ⟨slT rfl hg, trivial⟩ (yl_move rfl)) rfl (by decide) ?_
                  refine H.qg (wn_gt rfl rfl (by decide) rfl) (fun hg => yl_sub [(2, _)] ⟨rfl, trivial⟩ (yl_fieldAddr _ fa25_4 rfl)) rfl (by decide) ?_
                  refine H.qg (wn_gt rfl rfl (by decide) rfl) (fun hg => yl_sub [(147, _)] ⟨slT rfl hg, trivial⟩ (yl_load Tryz.isAgg2 rfl (fun w hw => hw.cell 0 rfl rfl))) rfl (by decide) ?_
                  refine H.qg (wn_gt rfl rfl (by decide) rfl) (fun hg => yl_sub [(148, _)] ⟨slT rfl hg, trivial⟩ (yl_neq rfl rfl)) rfl (by decide) ?_
                  refine H.qg (wn_f rfl rfl (by decide) rfl) (fun hg => yl_sub [(146, _), (149, _)] ⟨slT rfl hg, slA rfl hg, trivial⟩ (yl_and rfl rfl)) rfl (by decide) ?_
                  refine H.q (yl_or rfl rfl) rfl rfl (by decide) ?_
                  refine H.q (yl_move rfl) rfl rfl (by decide) ?_
                  refine H.qg (wn_f rfl rfl (by decide) rfl) (fun hg => yl_sub [(9, _)] ⟨rfl, trivial⟩ (yl_move rfl)) rfl (by decide) ?_
                  refine H.qg (wn_f rfl rfl (by decide) rfl) (fun hg => yl_sub [(153, _)] ⟨slT rfl hg, trivial⟩ (yl_not rfl)) rfl (by decide) ?_
                  refine H.qg (wn_f rfl rfl (by decide) rfl) (fun hg => yl_sub [(154, _)] ⟨slT rfl hg, trivial⟩ (yl_move rfl)) rfl (by decide) ?_
                  refine H.qg (wn_gt rfl rfl (by decide) rfl) (fun hg => yl_sub [(2, _)] ⟨rfl, trivial⟩ (yl_fieldAddr _ fa25_5 rfl)) rfl (by decide) ?_
                  refine H.qg (wn_gt rfl rfl (by decide) rfl) (fun hg => yl_sub [(156, _)] ⟨slT rfl hg, trivial⟩ (yl_load Tryz.isAgg23 rfl (fun w hw => hw.cell 0 rfl rfl))) rfl (by decide) ?_
                  refine H.qg (wn_gt rfl rfl (by decide) rfl) (fun hg => yl_sub [(157, _)] ⟨slT rfl hg, trivial⟩ (yl_len rfl Tryz.underlying23 rfl)) rfl (by decide) ?_
                  refine H.qg (wn_gt rfl rfl (by decide) rfl) (fun hg => yl_sub [(158, _)] ⟨slT rfl hg, trivial⟩ (yl_gtr rfl rfl)) rfl (by decide) ?_
                  refine H.qg (wn_f rfl rfl (by decide) rfl) (fun hg => yl_sub [(155, _), (159, _)] ⟨slT rfl hg, slA rfl hg, trivial⟩ (yl_and rfl rfl)) rfl (by decide) ?_
                  refine H.q (yl_or rfl rfl) rfl rfl (by decide) ?_
                  refine HN.done ?_
                  refine HN.keep [(161, _)] ⟨rfl, trivial⟩ ?_
                  refine HN.then ?_
                  refine H.cond _ rfl (fun t8 => ?_) (fun t8 => ?_)
                  · refine H.keep [] trivial ?_
                    refine H.seq ?_
                    refine H.region ?_
                    refine H.q (yl_assign rfl) rfl rfl (by decide) ?_
                    refine HN.done ?_
                    refine HN.keep [(4, _)] ⟨rfl, trivial⟩ ?_
                    refine HN.then ?_
                    refine HR.ret ?_
                    refine HR.then ?_
                    refine HR.ret1 _ Tryz.results28 rfl (fun w hw => ?_)
                    exact ⟨by rw [chk_same t0 t1 hk hp hn, sameB_bare, show strayB x = true from t8]; rfl, hw.ext⟩
                  · refine H.keep [] trivial ?_
                    refine HN.skip ?_
                    refine HN.then ?_
                    refine H.seq ?_
                    refine H.region ?_
                    refine H.q (yl_assign rfl) rfl rfl (by decide) ?_
                    refine HN.done ?_
                    refine HN.keep [(4, _)] ⟨rfl, trivial⟩ ?_
                    refine HN.then ?_
                    refine HR.ret ?_
                    refine HR.ret1 _ Tryz.results28 rfl (fun w hw => ?_)
                    exact ⟨by rw [chk_same t0 t1 hk hp hn, sameB_bare, show strayB x = false from t8]; rfl, hw.ext⟩

set_option maxRecDepth 100000 in
theorem refCheck_any (vars : Int) (x : Inv) (sv : Value) (w0 : World) (hl : x.set.length ≤ 4611686018427387904) (hv : IsInts w0 sv x.set) : Calls Tryz.prog 30 #[(.agg [.int .u8 x.kind, .int .i64 x.a, .int .i64 x.b, .int .i64 x.k, .int .i64 x.m, sv].toArray), .int .i64 vars] w0 fun e w' => e = .returned (.int .i64 (chk x vars)) ∧ Ext w0 w' := by
  obtain ⟨ad, cap, b, o, rfl, hcap, hs⟩ := ints_open hv
  refine enterA 79 Tryz.func30 rfl Tryz.ntmps30 rfl (Hp w0 [] [] []) (Hp.init _) ?_
  refine H.seq ?_
  refine H.region ?_
  refine H.boxA rfl (by decide) (fun b2 hb2 => ?_)
  refine H.q (yl_assign rfl) rfl rfl (by decide) ?_
  refine HN.done ?_
  refine HN.keep [(1, _), (2, _)] ⟨rfl, rfl, trivial⟩ ?_
  refine HN.then ?_
  refine H.seq ?_
  refine H.block ?_
  refine H.seq ?_
  refine H.region ?_
  refine H.q (yl_move rfl) rfl rfl (by decide) ?_
  refine H.q (yl_lss rfl rfl) rfl rfl (by decide) ?_
  refine H.q (yl_assign rfl) rfl rfl (by decide) ?_
  refine HN.done ?_
  refine HN.keep [(1, _), (2, _), (6, _)] ⟨rfl, rfl, rfl, trivial⟩ ?_
  refine HN.then ?_
  refine H.cond _ rfl (fun t0 => ?_) (fun t0 => ?_)
  · refine H.keep [] trivial ?_
    refine H.seq ?_
    refine H.region ?_
    refine H.q (yl_assign rfl) rfl rfl (by decide) ?_
    refine HN.done ?_
    refine HN.keep [(4, _)] ⟨rfl, trivial⟩ ?_
    refine HN.then ?_
    refine HR.ret ?_
    refine HR.block ?_
    refine HR.then ?_
    refine HR.ret1 _ Tryz.results30 rfl (fun w hw => ?_)
    exact ⟨by rw [chk_low t0], hw.ext⟩
  · refine H.keep [(1, _), (2, _)] ⟨rfl, rfl, trivial⟩ ?_
    refine H.seq ?_
    refine H.region ?_
    refine H.q (yl_move rfl) rfl rfl (by decide) ?_
    refine H.q (yl_gtr rfl rfl) rfl rfl (by decide) ?_
    refine H.q (yl_assign rfl) rfl rfl (by decide) ?_
    refine HN.done ?_
    refine HN.keep [(1, _), (2, _), (9, _)] ⟨rfl, rfl, rfl, trivial⟩ ?_
    refine HN.then ?_
    refine H.cond _ rfl (fun t1 => ?_) (fun t1 => ?_)
    · refine H.keep [] trivial ?_
      refine H.seq ?_
      refine H.region ?_
      refine H.q (yl_assign rfl) rfl rfl (by decide) ?_
      refine HN.done ?_
      refine HN.keep [(4, _)] ⟨rfl, trivial⟩ ?_
      refine HN.then ?_
      refine HR.ret ?_
      refine HR.block ?_
      refine HR.then ?_
      refine HR.ret1 _ Tryz.results30 rfl (fun w hw => ?_)
      exact ⟨by rw [chk_high t0 t1], hw.ext⟩
    · refine H.keep [(1, _), (2, _)] ⟨rfl, rfl, trivial⟩ ?_
      refine H.seq ?_
      refine H.region ?_
      refine H.q (yl_fieldAddr _ fa25_0 rfl) rfl rfl (by decide) ?_
      refine H.q (yl_load Tryz.isAgg22 rfl (fun w hw => hw.cell 0 rfl rfl)) rfl rfl (by decide) ?_
      refine H.q (yl_lss rfl rfl) rfl rfl (by decide) ?_
      refine H.q (yl_move rfl) rfl rfl (by decide) ?_
      refine H.qg (wn_f rfl rfl (by decide) rfl) (fun hg => yl_sub [(2, _)] ⟨rfl, trivial⟩ (yl_fieldAddr _ fa25_0 rfl)) rfl (by decide) ?_
      refine H.qg (wn_f rfl rfl (by decide) rfl) (fun hg => yl_sub [(17, _)] ⟨slT rfl hg, trivial⟩ (yl_load Tryz.isAgg22 rfl (fun w hw => hw.cell 0 rfl rfl))) rfl (by decide) ?_
      refine H.qg (wn_f rfl rfl (by decide) rfl) (fun hg => yl_sub [(18, _)] ⟨slT rfl hg, trivial⟩ (yl_gtr rfl rfl)) rfl (by decide) ?_
      refine H.q (yl_or rfl rfl) rfl rfl (by decide) ?_
      refine H.q (yl_assign rfl) rfl rfl (by decide) ?_
      refine HN.done ?_
      refine HN.keep [(1, _), (2, _), (12, _)] ⟨rfl, rfl, rfl, trivial⟩ ?_
      refine HN.then ?_
      refine H.cond _ rfl (fun t2 => ?_) (fun t2 => ?_)
      · have hk : kindB x.kind = false := by simp only [Bool.or_eq_true, decide_eq_true_eq] at t2; simp only [kindB, Bool.and_eq_false_iff, decide_eq_false_iff_not]; omega
        refine H.keep [] trivial ?_
        refine H.seq ?_
        refine H.region ?_
        refine H.q (yl_assign rfl) rfl rfl (by decide) ?_
        refine HN.done ?_
        refine HN.keep [(4, _)] ⟨rfl, trivial⟩ ?_
        refine HN.then ?_
        refine HR.ret ?_
        refine HR.block ?_
        refine HR.then ?_
        refine HR.ret1 _ Tryz.results30 rfl (fun w hw => ?_)
        exact ⟨by rw [chk_kind t0 t1 hk], hw.ext⟩
      · have hk : kindB x.kind = true := by simp only [Bool.or_eq_false_iff, decide_eq_false_iff_not] at t2; simp only [kindB, Bool.and_eq_true, decide_eq_true_eq]; omega
        refine H.keep [(1, _), (2, _)] ⟨rfl, rfl, trivial⟩ ?_
        refine H.seq ?_
        refine H.region ?_
        refine H.q (yl_fieldAddr _ fa25_1 rfl) rfl rfl (by decide) ?_
        refine H.q (yl_load Tryz.isAgg3 rfl (fun w hw => hw.cell 0 rfl rfl)) rfl rfl (by decide) ?_
        refine H.q (yl_lss rfl rfl) rfl rfl (by decide) ?_
        refine H.q (yl_move rfl) rfl rfl (by decide) ?_
        refine H.qg (wn_f rfl rfl (by decide) rfl) (fun hg => yl_sub [(2, _)] ⟨rfl, trivial⟩ (yl_fieldAddr _ fa25_1 rfl)) rfl (by decide) ?_
        refine H.qg (wn_f rfl rfl (by decide) rfl) (fun hg => yl_sub [(26, _)] ⟨slT rfl hg, trivial⟩ (yl_load Tryz.isAgg3 rfl (fun w hw => hw.cell 0 rfl rfl))) rfl (by decide) ?_
        refine H.qg (wn_f rfl rfl (by decide) rfl) (fun hg => yl_sub [(1, _)] ⟨rfl, trivial⟩ (yl_move rfl)) rfl (by decide) ?_
        refine H.qg (wn_f rfl rfl (by decide) rfl) (fun hg => yl_sub [(27, _), (28, _)] ⟨slT rfl hg, slT rfl hg, trivial⟩ (yl_geq rfl rfl)) rfl (by decide) ?_
        refine H.q (yl_or rfl rfl) rfl rfl (by decide) ?_
        refine H.q (yl_assign rfl) rfl rfl (by decide) ?_
        refine HN.done ?_
        refine HN.keep [(1, _), (2, _), (21, _)] ⟨rfl, rfl, rfl, trivial⟩ ?_
        refine HN.then ?_
        refine H.cond _ rfl (fun t3 => ?_) (fun t3 => ?_)
        · have hp : placeB x vars = false := place_out (by unfold outB; rw [t3]; rfl)
          refine H.keep [] trivial ?_
          refine H.seq ?_
          refine H.region ?_
          refine H.q (yl_assign rfl) rfl rfl (by decide) ?_
          refine HN.done ?_
          refine HN.keep [(4, _)] ⟨rfl, trivial⟩ ?_
          refine HN.then ?_
          refine HR.ret ?_
          refine HR.block ?_
          refine HR.then ?_
          refine HR.ret1 _ Tryz.results30 rfl (fun w hw => ?_)
          exact ⟨by rw [chk_place t0 t1 hk hp], hw.ext⟩
        · refine H.keep [(1, _), (2, _)] ⟨rfl, rfl, trivial⟩ ?_
          refine H.seq ?_
          refine H.region ?_
          refine H.q (yl_fieldAddr _ fa25_0 rfl) rfl rfl (by decide) ?_
          refine H.q (yl_load Tryz.isAgg22 rfl (fun w hw => hw.cell 0 rfl rfl)) rfl rfl (by decide) ?_
          refine H.q (yl_call (xs := [.tmp 33]) Tryz.call65 (stab_hp _ _ _ _) rfl (fun w hw => two_any _ w)) rfl rfl (by decide) ?_
          refine H.q (yl_move rfl) rfl rfl (by decide) ?_
          refine H.qg (wn_t rfl rfl (by decide) rfl) (fun hg => yl_sub [(2, _)] ⟨rfl, trivial⟩ (yl_fieldAddr _ fa25_2 rfl)) rfl (by decide) ?_
          refine H.qg (wn_t rfl rfl (by decide) rfl) (fun hg => yl_sub [(36, _)] ⟨slT rfl hg, trivial⟩ (yl_load Tryz.isAgg3 rfl (fun w hw => hw.cell 0 rfl rfl))) rfl (by decide) ?_
          refine H.qg (wn_t rfl rfl (by decide) rfl) (fun hg => yl_sub [(37, _)] ⟨slT rfl hg, trivial⟩ (yl_lss rfl rfl)) rfl (by decide) ?_
          refine H.qg (wn_t rfl rfl (by decide) rfl) (fun hg => yl_sub [(38, _)] ⟨slT rfl hg, trivial⟩ (yl_move rfl)) rfl (by decide) ?_
          refine H.qg (wn_gf rfl rfl (by decide) rfl) (fun hg => yl_sub [(2, _)] ⟨rfl, trivial⟩ (yl_fieldAddr _ fa25_2 rfl)) rfl (by decide) ?_
          refine H.qg (wn_gf rfl rfl (by decide) rfl) (fun hg => yl_sub [(40, _)] ⟨slT rfl hg, trivial⟩ (yl_load Tryz.isAgg3 rfl (fun w hw => hw.cell 0 rfl rfl))) rfl (by decide) ?_
          refine H.qg (wn_gf rfl rfl (by decide) rfl) (fun hg => yl_sub [(1, _)] ⟨rfl, trivial⟩ (yl_move rfl)) rfl (by decide) ?_
          refine H.qg (wn_gf rfl rfl (by decide) rfl) (fun hg => yl_sub [(41, _), (42, _)] ⟨slT rfl hg, slT rfl hg, trivial⟩ (yl_geq rfl rfl)) rfl (by decide) ?_
          refine H.qg (wn_t rfl rfl (by decide) rfl) (fun hg => yl_sub [(39, _), (43, _)] ⟨slT rfl hg, slA rfl hg, trivial⟩ (yl_or rfl rfl)) rfl (by decide) ?_
          refine H.qg (wn_t rfl rfl (by decide) rfl) (fun hg => yl_sub [(44, _)] ⟨slT rfl hg, trivial⟩ (yl_move rfl)) rfl (by decide) ?_
          refine H.qg (wn_gf rfl rfl (by decide) rfl) (fun hg => yl_sub [(2, _)] ⟨rfl, trivial⟩ (yl_fieldAddr _ fa25_1 rfl)) rfl (by decide) ?_
          refine H.qg (wn_gf rfl rfl (by decide) rfl) (fun hg => yl_sub [(46, _)] ⟨slT rfl hg, trivial⟩ (yl_load Tryz.isAgg3 rfl (fun w hw => hw.cell 0 rfl rfl))) rfl (by decide) ?_
          refine H.qg (wn_gf rfl rfl (by decide) rfl) (fun hg => yl_sub [(2, _)] ⟨rfl, trivial⟩ (yl_fieldAddr _ fa25_2 rfl)) rfl (by decide) ?_
          refine H.qg (wn_gf rfl rfl (by decide) rfl) (fun hg => yl_sub [(48, _)] ⟨slT rfl hg, trivial⟩ (yl_load Tryz.isAgg3 rfl (fun w hw => hw.cell 0 rfl rfl))) rfl (by decide) ?_
          refine H.qg (wn_gf rfl rfl (by decide) rfl) (fun hg => yl_sub [(47, _), (49, _)] ⟨slT rfl hg, slT rfl hg, trivial⟩ (yl_eql rfl rfl)) rfl (by decide) ?_
          refine H.qg (wn_t rfl rfl (by decide) rfl) (fun hg => yl_sub [(45, _), (50, _)] ⟨slT rfl hg, slA rfl hg, trivial⟩ (yl_or rfl rfl)) rfl (by decide) ?_
          refine H.q (yl_and rfl rfl) rfl rfl (by decide) ?_
          refine H.q (yl_assign rfl) rfl rfl (by decide) ?_
          refine HN.done ?_
          refine HN.keep [(2, _), (31, _)] ⟨rfl, rfl, trivial⟩ ?_
          refine HN.then ?_
          refine H.cond _ rfl (fun t4 => ?_) (fun t4 => ?_)
          · have hp : placeB x vars = false := place_out (by unfold outB; rw [t4, Bool.or_true])
            refine H.keep [] trivial ?_
            refine H.seq ?_
            refine H.region ?_
            refine H.q (yl_assign rfl) rfl rfl (by decide) ?_
            refine HN.done ?_
            refine HN.keep [(4, _)] ⟨rfl, trivial⟩ ?_
            refine HN.then ?_
            refine HR.ret ?_
            refine HR.block ?_
            refine HR.then ?_
            refine HR.ret1 _ Tryz.results30 rfl (fun w hw => ?_)
            exact ⟨by rw [chk_place t0 t1 hk hp], hw.ext⟩
          · have ho : outB x vars = false := by unfold outB; rw [t3, t4]; rfl
            refine H.keep [(2, _)] ⟨rfl, trivial⟩ ?_
            refine H.seq ?_
            refine H.region ?_
            refine H.q (yl_fieldAddr _ fa25_0 rfl) rfl rfl (by decide) ?_
            refine H.q (yl_load Tryz.isAgg22 rfl (fun w hw => hw.cell 0 rfl rfl)) rfl rfl (by decide) ?_
            refine H.q (yl_eql rfl rfl) rfl rfl (by decide) ?_
            refine H.q (yl_move rfl) rfl rfl (by decide) ?_
            refine H.qg (wn_f rfl rfl (by decide) rfl) (fun hg => yl_sub [(2, _)] ⟨rfl, trivial⟩ (yl_fieldAddr _ fa25_0 rfl)) rfl (by decide) ?_
            refine H.qg (wn_f rfl rfl (by decide) rfl) (fun hg => yl_sub [(58, _)] ⟨slT rfl hg, trivial⟩ (yl_load Tryz.isAgg22 rfl (fun w hw => hw.cell 0 rfl rfl))) rfl (by decide) ?_
            refine H.qg (wn_f rfl rfl (by decide) rfl) (fun hg => yl_sub [(59, _)] ⟨slT rfl hg, trivial⟩ (yl_eql rfl rfl)) rfl (by decide) ?_
            refine H.q (yl_or rfl rfl) rfl rfl (by decide) ?_
            refine H.q (yl_move rfl) rfl rfl (by decide) ?_
            refine H.qg (wn_t rfl rfl (by decide) rfl) (fun hg => yl_sub [(2, _)] ⟨rfl, trivial⟩ (yl_fieldAddr _ fa25_1 rfl)) rfl (by decide) ?_
            refine H.qg (wn_t rfl rfl (by decide) rfl) (fun hg => yl_sub [(63, _)] ⟨slT rfl hg, trivial⟩ (yl_load Tryz.isAgg3 rfl (fun w hw => hw.cell 0 rfl rfl))) rfl (by decide) ?_
            refine H.qg (wn_t rfl rfl (by decide) rfl) (fun hg => yl_sub [(2, _)] ⟨rfl, trivial⟩ (yl_fieldAddr _ fa25_2 rfl)) rfl (by decide) ?_
            refine H.qg (wn_t rfl rfl (by decide) rfl) (fun hg => yl_sub [(65, _)] ⟨slT rfl hg, trivial⟩ (yl_load Tryz.isAgg3 rfl (fun w hw => hw.cell 0 rfl rfl))) rfl (by decide) ?_
            refine H.qg (wn_t rfl rfl (by decide) rfl) (fun hg => yl_sub [(64, _), (66, _)] ⟨slT rfl hg, slT rfl hg, trivial⟩ (yl_gtr rfl rfl)) rfl (by decide) ?_
            refine H.q (yl_and rfl rfl) rfl rfl (by decide) ?_
            refine H.q (yl_assign rfl) rfl rfl (by decide) ?_
            refine HN.done ?_
            refine HN.keep [(2, _), (53, _)] ⟨rfl, rfl, trivial⟩ ?_
            refine HN.then ?_
            refine H.cond _ rfl (fun t5 => ?_) (fun t5 => ?_)
            · have hp : placeB x vars = false := place_turn (by simp only [turnB, Bool.and_eq_true, decide_eq_true_eq] at t5 ⊢; exact ⟨t5.1, by omega⟩)
              refine H.keep [] trivial ?_
              refine H.seq ?_
              refine H.region ?_
              refine H.q (yl_assign rfl) rfl rfl (by decide) ?_
              refine HN.done ?_
              refine HN.keep [(4, _)] ⟨rfl, trivial⟩ ?_
              refine HN.then ?_
              refine HR.ret ?_
              refine HR.block ?_
              refine HR.then ?_
              refine HR.ret1 _ Tryz.results30 rfl (fun w hw => ?_)
              exact ⟨by rw [chk_place t0 t1 hk hp], hw.ext⟩
            · have hp : placeB x vars = true := place_in ho (by
                cases hq : (decide (x.kind = 7) || decide (x.kind = 8))
                · simp [turnB, hq]
                · rw [hq] at t5
                  have h2 : twoB x.kind = true := by simp only [Bool.or_eq_true, decide_eq_true_eq] at hq; simp only [twoB, Bool.and_eq_true, decide_eq_true_eq]; omega
                  simp only [h2, Bool.true_and, Bool.or_eq_false_iff, decide_eq_false_iff_not] at t4 t5
                  simp only [turnB, hq, Bool.true_and, decide_eq_false_iff_not]
                  omega)
              refine H.keep [(2, _)] ⟨rfl, trivial⟩ ?_
              refine HN.skip ?_
              refine HN.block ?_
              refine HN.then ?_
              refine H.seq ?_
              refine H.region ?_
              refine H.q (yl_loadAgg _ Tryz.isAgg25 Tryz.sizeOf25 rfl (fun w hw => cells_of_blk (hw.blk 0 rfl)) rfl) rfl rfl (by decide) ?_
              refine H.q (yl_call (xs := [.tmp 69]) Tryz.call66 (stab_hp _ _ _ _) rfl (fun w hw => numbers_any x (.slice ad x.set.length cap) w hl (hv.ext hw.ext))) rfl rfl (by decide) ?_
              refine H.q (yl_assign rfl) rfl rfl (by decide) ?_
              refine HN.done ?_
              refine HN.keep [(2, _), (5, _)] ⟨rfl, rfl, trivial⟩ ?_
              refine HN.then ?_
              refine H.seq ?_
              refine H.seq ?_
              refine H.region ?_
              refine H.q (yl_move rfl) rfl rfl (by decide) ?_
              refine H.q (yl_neq rfl rfl) rfl rfl (by decide) ?_
              refine HN.done ?_
              refine HN.keep [(2, _), (5, _), (72, _)] ⟨rfl, rfl, rfl, trivial⟩ ?_
              refine HN.then ?_
              refine H.cond _ rfl (fun t6 => ?_) (fun t6 => ?_)
              · have hn : numE x ≠ 0 := by simpa using t6
                refine H.keep [(5, _)] ⟨rfl, trivial⟩ ?_
                refine H.seq ?_
                refine H.region ?_
                refine H.q (yl_move rfl) rfl rfl (by decide) ?_
                refine H.q (yl_assign rfl) rfl rfl (by decide) ?_
                refine HN.done ?_
                refine HN.keep [(4, _)] ⟨rfl, trivial⟩ ?_
                refine HN.then ?_
                refine HR.ret ?_
                refine HR.then ?_
                refine HR.ret1 _ Tryz.results30 rfl (fun w hw => ?_)
                exact ⟨by rw [chk_num t0 t1 hk hp hn], hw.ext⟩
              · have hn : numE x = 0 := by simpa using t6
                refine H.keep [(2, _)] ⟨rfl, trivial⟩ ?_
                refine HN.skip ?_
                refine HN.then ?_
                refine H.seq ?_
                refine H.seq ?_
                refine H.regionQ Tryz.mixed (by kernel_rfl) (stab_hp _ _ _ _) ?_
                refine G.q (yl_loadAgg _ Tryz.isAgg25 Tryz.sizeOf25 rfl (fun w hw => cells_of_blk (hw.blk 0 rfl)) rfl) rfl rfl (by decide) ?_
                refine G.q (yl_loadAgg _ Tryz.isAgg25 Tryz.sizeOf25 rfl (fun w hw => cells_of_blk (hw.blk 0 rfl)) rfl) rfl rfl (by decide) ?_
                refine G.q (yl_call (xs := [.tmp 75]) Tryz.call67 (stab_hp _ _ _ _) rfl (fun w hw => bare_any x ad x.set.length cap w)) rfl rfl (by decide) ?_
                refine G.q (yl_call (xs := [.tmp 74, .tmp 76]) Tryz.call16 (stab_hp _ _ _ _) rfl (fun w hw => same_any x (bareI x) (.slice ad x.set.length cap) (.slice (if hasSB x.kind = true then ad else none) (if hasSB x.kind = true then x.set.length else 0) (if hasSB x.kind = true then cap else 0)) w hl (by unfold bareI; cases hasSB x.kind <;> simp [hl]) (hv.ext hw.ext) (ints_bare (hasSB x.kind) (hv.ext hw.ext)))) rfl rfl (by decide) ?_
                refine G.q (yl_not rfl) rfl rfl (by decide) ?_
                refine HN.doneG ?_
                refine HN.keep [(78, _)] ⟨rfl, trivial⟩ ?_
                refine HN.then ?_
                refine H.cond _ rfl (fun t7 => ?_) (fun t7 => ?_)
                · refine H.keep [] trivial ?_
                  refine H.seq ?_
                  refine H.region ?_
                  refine H.q (yl_assign rfl) rfl rfl (by decide) ?_
                  refine HN.done ?_
                  refine HN.keep [(4, _)] ⟨rfl, trivial⟩ ?_
                  refine HN.then ?_
                  refine HR.ret ?_
                  refine HR.then ?_
                  refine HR.ret1 _ Tryz.results30 rfl (fun w hw => ?_)
                  exact ⟨by rw [chk_same t0 t1 hk hp hn, show sameB x (bareI x) = false by simpa using t7]; rfl, hw.ext⟩
                · refine H.keep [] trivial ?_
                  refine HN.skip ?_
                  refine HN.then ?_
                  refine H.seq ?_
                  refine H.region ?_
                  refine H.q (yl_assign rfl) rfl rfl (by decide) ?_
                  refine HN.done ?_
                  refine HN.keep [(4, _)] ⟨rfl, trivial⟩ ?_
                  refine HN.then ?_
                  refine HR.ret ?_
                  refine HR.ret1 _ Tryz.results30 rfl (fun w hw => ?_)
                  exact ⟨by rw [chk_same t0 t1 hk hp hn, show sameB x (bareI x) = true by simpa using t7]; rfl, hw.ext⟩

set_option maxRecDepth 100000 in
theorem index_any (l : List Int) (sv : Value) (n : Int) (w0 : World) (hl : l.length ≤ 4611686018427387904) (hv : IsInts w0 sv l) : Calls Tryz.prog 112 #[sv, .int .i64 n] w0 fun e w' => e = .returned (.int .i64 (idxP (fun y => decide (n = y)) l)) ∧ Ext w0 w' := by
  obtain ⟨ad, cap, b, o, rfl, hcap, hs⟩ := ints_open hv
  refine enterA 19 Tryz.func112 rfl Tryz.ntmps112 rfl (Hp w0 [] [] []) (Hp.init _) ?_
  refine H.seq ?_
  refine H.region ?_
  refine H.q (yl_assign rfl) rfl rfl (by decide) ?_
  refine HN.done ?_
  refine HN.keep [(0, _), (1, _)] ⟨rfl, rfl, trivial⟩ ?_
  refine HN.then ?_
  refine H.seq ?_
  refine H.seq ?_
  refine H.region ?_
  refine H.q (yl_move rfl) rfl rfl (by decide) ?_
  refine H.q (yl_len rfl Tryz.underlying23 rfl) rfl rfl (by decide) ?_
  refine H.q (yl_move rfl) rfl rfl (by decide) ?_
  refine HN.done ?_
  refine HN.keep [(0, _), (1, _), (7, _), (8, _)] ⟨rfl, rfl, rfl, rfl, trivial⟩ ?_
  refine HN.then ?_
  refine H.block ?_
  refine H.loop (fun k : Nat => [(0, .slice ad l.length cap), (1, .int .i64 n), (7, .int .i64 (l.length : Int)), (8, .int .i64 (k : Int))]) (fun k => k ≤ l.length ∧ ∀ j (hj : j < k) (hj2 : j < l.length), ¬ n = l[j]) (fun _ => Hp w0 [] [] []) (fun k => l.length - k) 0 ⟨Nat.zero_le _, fun j hj => by omega⟩ ⟨rfl, rfl, rfl, rfl, trivial⟩ (fun w hw => hw) (fun k hI => ?_)
  obtain ⟨hk0, hk1⟩ := hI
  refine H.seq ?_
  refine H.region ?_
  refine H.q (yl_lss rfl rfl) rfl rfl (by decide) ?_
  refine HN.done ?_
  refine HN.keep [(0, _), (1, _), (7, _), (8, _), (9, _)] ⟨rfl, rfl, rfl, rfl, rfl, trivial⟩ ?_
  refine HN.then ?_
  refine H.seq ?_
  refine H.cond _ rfl (fun t0 => ?_) (fun t0 => ?_)
  · simp only [decide_eq_true_eq] at t0; have hk : k < l.length := by omega
    have hgd : l.getD k 0 = l[k] := by simp [List.getD, hk]
    refine H.keep [(0, _), (1, _), (7, _), (8, _)] ⟨rfl, rfl, rfl, rfl, trivial⟩ ?_
    refine HN.skip ?_
    refine HN.then ?_
    refine H.seq ?_
    refine H.block ?_
    refine H.seq ?_
    refine H.region ?_
    refine H.q (yl_move rfl) rfl rfl (by decide) ?_
    refine H.q (yl_assign rfl) rfl rfl (by decide) ?_
    refine HN.done ?_
    refine HN.keep [(0, _), (1, _), (5, _), (7, _), (8, _)] ⟨rfl, rfl, rfl, rfl, rfl, trivial⟩ ?_
    refine HN.then ?_
    refine H.seq ?_
    refine H.region ?_
    refine H.q (yl_move rfl) rfl rfl (by decide) ?_
    refine H.q (yl_move rfl) rfl rfl (by decide) ?_
    refine H.q (yl_move rfl) rfl rfl (by decide) ?_
    refine H.q (yl_ix k Tryz.underlying23 Tryz.sizeOf2 (hs k hk).1 rfl rfl rfl hk) rfl rfl (by decide) ?_
    refine H.q (yl_load (v := .int .i64 l[k]) Tryz.isAgg2 rfl (fun w hw => by rw [← hgd]; exact cell_ext hw.ext (hs k hk).2)) rfl rfl (by decide) ?_
    refine H.q (yl_eql rfl rfl) rfl rfl (by decide) ?_
    refine HN.done ?_
    refine HN.keep [(0, _), (1, _), (5, _), (7, _), (8, _), (16, _)] ⟨rfl, rfl, rfl, rfl, rfl, rfl, trivial⟩ ?_
    refine HN.then ?_
    refine H.cond _ rfl (fun t1 => ?_) (fun t1 => ?_)
    · simp only [decide_eq_true_eq] at t1
      refine H.keep [(5, _)] ⟨rfl, trivial⟩ ?_
      refine H.seq ?_
      refine H.region ?_
      refine H.q (yl_move rfl) rfl rfl (by decide) ?_
      refine H.q (yl_assign rfl) rfl rfl (by decide) ?_
      refine HN.done ?_
      refine HN.keep [(4, _)] ⟨rfl, trivial⟩ ?_
      refine HN.then ?_
      refine HR.ret ?_
      refine HR.block ?_
      refine HR.then ?_
      refine HR.then ?_
      refine HR.block ?_
      refine HR.then ?_
      refine HR.ret1 _ Tryz.results112 rfl (fun w hw => ?_)
      exact ⟨by rw [idxP_hit k hk (decide_eq_true t1) fun j hj => decide_eq_false (hk1 j hj (by omega))], hw.ext⟩
    · simp only [decide_eq_false_iff_not] at t1
      refine H.keep [(0, _), (1, _), (7, _), (8, _)] ⟨rfl, rfl, rfl, rfl, trivial⟩ ?_
      refine HN.skip ?_
      refine HN.block ?_
      refine HN.then ?_
      refine H.region ?_
      refine H.q (yl_add rfl rfl _ rfl (by omega)) rfl rfl (by decide) ?_
      refine H.q (yl_move rfl) rfl rfl (by decide) ?_
      refine HN.done ?_
      refine HN.keep [(0, _), (1, _), (7, _), (8, _)] ⟨rfl, rfl, rfl, rfl, trivial⟩ ?_
      refine HN.then ?_
      have hn : ∀ j (hj : j < k + 1) (hj2 : j < l.length), ¬ n = l[j] := fun j hj hj2 => by
        by_cases h : j < k
        · exact hk1 j h hj2
        · obtain rfl : j = k := by omega
          exact t1
      exact H.at (k + 1) ⟨⟨by omega, hn⟩, by omega⟩ ⟨rfl, rfl, rfl, rfl, trivial⟩ (fun w hw => hw)
  · simp only [decide_eq_false_iff_not] at t0
    refine H.keep [] trivial ?_
    refine HX.exit ?_
    refine HX.then ?_
    refine HX.then ?_
    refine HX.hit ?_
    refine HN.then ?_
    refine H.seq ?_
    refine H.region ?_
    refine H.q (yl_assign rfl) rfl rfl (by decide) ?_
    refine HN.done ?_
    refine HN.keep [(4, _)] ⟨rfl, trivial⟩ ?_
    refine HN.then ?_
    refine HR.ret ?_
    refine HR.ret1 _ Tryz.results112 rfl (fun w hw => ?_)
    exact ⟨by rw [idxP_miss (p := fun y => decide (n = y)) fun j hj => decide_eq_false (hk1 j (by omega) hj)], hw.ext⟩

set_option maxRecDepth 100000 in
theorem contains_any (l : List Int) (sv : Value) (n : Int) (w0 : World) (hl : l.length ≤ 4611686018427387904) (hv : IsInts w0 sv l) : Calls Tryz.prog 86 #[sv, .int .i64 n] w0 fun e w' => e = .returned (.bool (l.any fun y => decide (n = y))) ∧ Ext w0 w' := by
  refine enterA 9 Tryz.func86 rfl Tryz.ntmps86 rfl (Hp w0 [] [] []) (Hp.init _) ?_
  refine H.seq ?_
  refine H.region ?_
  refine H.q (yl_assign rfl) rfl rfl (by decide) ?_
  refine HN.done ?_
  refine HN.keep [(0, _), (1, _)] ⟨rfl, rfl, trivial⟩ ?_
  refine HN.then ?_
  refine H.seq ?_
  refine H.region ?_
  refine H.q (yl_move rfl) rfl rfl (by decide) ?_
  refine H.q (yl_move rfl) rfl rfl (by decide) ?_
  refine H.q (yl_call (xs := [.tmp 5, .tmp 6]) Tryz.call112 (stab_hp _ _ _ _) rfl (fun w hw => index_any l sv n w hl (hv.ext hw.ext))) rfl rfl (by decide) ?_
  refine H.q (yl_geq rfl rfl) rfl rfl (by decide) ?_
  refine H.q (yl_assign rfl) rfl rfl (by decide) ?_
  refine HN.done ?_
  refine HN.keep [(4, _)] ⟨rfl, trivial⟩ ?_
  refine HN.then ?_
  refine HR.ret ?_
  refine HR.ret1 _ Tryz.results86 rfl (fun w hw => ?_)
  exact ⟨by rw [← idxP_any], hw.ext⟩

set_option maxRecDepth 100000 in
theorem modulo_any (n m : Int) (w0 : World) (hm : 1 ≤ m) (hm2 : m ≤ 2147483647) : Calls Tryz.prog 88 #[.int .i64 n, .int .i64 m] w0 fun e w' => e = .returned (.int .i64 (modI n m)) ∧ Ext w0 w' := by
  have hb := tmod_lt1 (n := n) hm
  refine enterA 12 Tryz.func88 rfl Tryz.ntmps88 rfl (Hp w0 [] [] []) (Hp.init _) ?_
  refine H.seq ?_
  refine H.region ?_
  refine H.q (yl_assign rfl) rfl rfl (by decide) ?_
  refine HN.done ?_
  refine HN.keep [(0, _), (1, _)] ⟨rfl, rfl, trivial⟩ ?_
  refine HN.then ?_
  refine H.seq ?_
  refine H.region ?_
  refine H.q (yl_move rfl) rfl rfl (by decide) ?_
  refine H.q (yl_move rfl) rfl rfl (by decide) ?_
  refine H.q (yl_rem rfl rfl (by omega)) rfl rfl (by decide) ?_
  refine H.q (yl_move rfl) rfl rfl (by decide) ?_
  refine H.q (yl_add rfl rfl _ rfl (by omega)) rfl rfl (by decide) ?_
  refine H.q (yl_move rfl) rfl rfl (by decide) ?_
  refine H.q (yl_rem rfl rfl (by omega)) rfl rfl (by decide) ?_
  refine H.q (yl_assign rfl) rfl rfl (by decide) ?_
  refine HN.done ?_
  refine HN.keep [(4, _)] ⟨rfl, trivial⟩ ?_
  refine HN.then ?_
  refine HR.ret ?_
  refine HR.ret1 _ Tryz.results88 rfl (fun w hw => ?_)
  exact ⟨rfl, hw.ext⟩

set_option maxRecDepth 100000 in
theorem Modulo_any (n m : Int) (w0 : World) (hm : 1 ≤ m) (hm2 : m ≤ 2147483647) : Calls Tryz.prog 81 #[.int .i64 n, .int .i64 m] w0 fun e w' => e = .returned (.int .i64 (modI n m)) ∧ Ext w0 w' := by
  have hb := tmod_lt1 (n := n) hm
  refine enterA 12 Tryz.func81 rfl Tryz.ntmps81 rfl (Hp w0 [] [] []) (Hp.init _) ?_
  refine H.seq ?_
  refine H.region ?_
  refine H.q (yl_assign rfl) rfl rfl (by decide) ?_
  refine HN.done ?_
  refine HN.keep [(0, _), (1, _)] ⟨rfl, rfl, trivial⟩ ?_
  refine HN.then ?_
  refine H.seq ?_
  refine H.region ?_
  refine H.q (yl_move rfl) rfl rfl (by decide) ?_
  refine H.q (yl_move rfl) rfl rfl (by decide) ?_
  refine H.q (yl_rem rfl rfl (by omega)) rfl rfl (by decide) ?_
  refine H.q (yl_move rfl) rfl rfl (by decide) ?_
  refine H.q (yl_add rfl rfl _ rfl (by omega)) rfl rfl (by decide) ?_
  refine H.q (yl_move rfl) rfl rfl (by decide) ?_
  refine H.q (yl_rem rfl rfl (by omega)) rfl rfl (by decide) ?_
  refine H.q (yl_assign rfl) rfl rfl (by decide) ?_
  refine HN.done ?_
  refine HN.keep [(4, _)] ⟨rfl, trivial⟩ ?_
  refine HN.then ?_
  refine HR.ret ?_
  refine HR.ret1 _ Tryz.results81 rfl (fun w hw => ?_)
  exact ⟨rfl, hw.ext⟩

set_option maxRecDepth 100000 in
theorem m177_any (x : Inv) (a b : Int) (sv : Value) (w0 : World) (_hl : x.set.length ≤ 4611686018427387904) (_hv : IsInts w0 sv x.set) (_hx : Safe x) (_ha : smallB a = true) (hk : x.kind = 1) : Calls Tryz.prog 177 #[.agg [.int .i64 x.k].toArray, .int .i64 a, .int .i64 b] w0 fun e w' => e = .returned (.bool (holdsB x a b)) ∧ Ext w0 w' := by
  refine enterA 11 Tryz.func177 rfl Tryz.ntmps177 rfl (Hp w0 [] [] []) (Hp.init _) ?_
  refine H.seq ?_
  refine H.region ?_
  refine H.boxA rfl (by decide) (fun b3 hb3 => ?_)
  refine H.q (yl_assign rfl) rfl rfl (by decide) ?_
  refine HN.done ?_
  refine HN.keep [(1, _), (3, _)] ⟨rfl, rfl, trivial⟩ ?_
  refine HN.then ?_
  refine H.seq ?_
  refine H.region ?_
  refine H.q (yl_move rfl) rfl rfl (by decide) ?_
  refine H.q (yl_fieldAddr _ fa71_0 rfl) rfl rfl (by decide) ?_
  refine H.q (yl_load Tryz.isAgg2 rfl (fun w hw => hw.cell 0 rfl rfl)) rfl rfl (by decide) ?_
  refine H.q (yl_eql rfl rfl) rfl rfl (by decide) ?_
  refine H.q (yl_assign rfl) rfl rfl (by decide) ?_
  refine HN.done ?_
  refine HN.keep [(6, _)] ⟨rfl, trivial⟩ ?_
  refine HN.then ?_
  refine HR.ret ?_
  refine HR.ret1 _ Tryz.results177 rfl (fun w hw => ?_)
  refine ⟨?_, hw.ext⟩
  simp [holdsB, hk]

set_option maxRecDepth 100000 in
theorem m178_any (x : Inv) (a b : Int) (sv : Value) (w0 : World) (hl : x.set.length ≤ 4611686018427387904) (hv : IsInts w0 sv x.set) (_hx : Safe x) (_ha : smallB a = true) (hk : x.kind = 2) : Calls Tryz.prog 178 #[.agg [sv].toArray, .int .i64 a, .int .i64 b] w0 fun e w' => e = .returned (.bool (holdsB x a b)) ∧ Ext w0 w' := by
  obtain ⟨ad, cap, b0, o, rfl, hcap, hs⟩ := ints_open hv
  refine enterA 11 Tryz.func178 rfl Tryz.ntmps178 rfl (Hp w0 [] [] []) (Hp.init _) ?_
  refine H.seq ?_
  refine H.region ?_
  refine H.boxA rfl (by decide) (fun b3 hb3 => ?_)
  refine H.q (yl_assign rfl) rfl rfl (by decide) ?_
  refine HN.done ?_
  refine HN.keep [(1, _), (3, _)] ⟨rfl, rfl, trivial⟩ ?_
  refine HN.then ?_
  refine H.seq ?_
  refine H.region ?_
  refine H.q (yl_fieldAddr _ fa73_0 rfl) rfl rfl (by decide) ?_
  refine H.q (yl_load Tryz.isAgg23 rfl (fun w hw => hw.cell 0 rfl rfl)) rfl rfl (by decide) ?_
  refine H.q (yl_move rfl) rfl rfl (by decide) ?_
  refine H.q (yl_call (xs := [.tmp 8, .tmp 9]) Tryz.call86 (stab_hp _ _ _ _) rfl (fun w hw => contains_any x.set (.slice ad x.set.length cap) a w hl (hv.ext hw.ext))) rfl rfl (by decide) ?_
  refine H.q (yl_assign rfl) rfl rfl (by decide) ?_
  refine HN.done ?_
  refine HN.keep [(6, _)] ⟨rfl, trivial⟩ ?_
  refine HN.then ?_
  refine HR.ret ?_
  refine HR.ret1 _ Tryz.results178 rfl (fun w hw => ?_)
  refine ⟨?_, hw.ext⟩
  simp [holdsB, hk]

set_option maxRecDepth 100000 in
theorem m179_any (x : Inv) (a b : Int) (sv : Value) (w0 : World) (_hl : x.set.length ≤ 4611686018427387904) (_hv : IsInts w0 sv x.set) (_hx : Safe x) (_ha : smallB a = true) (hk : x.kind = 3) : Calls Tryz.prog 179 #[.agg [.int .i64 x.k].toArray, .int .i64 a, .int .i64 b] w0 fun e w' => e = .returned (.bool (holdsB x a b)) ∧ Ext w0 w' := by
  refine enterA 11 Tryz.func179 rfl Tryz.ntmps179 rfl (Hp w0 [] [] []) (Hp.init _) ?_
  refine H.seq ?_
  refine H.region ?_
  refine H.boxA rfl (by decide) (fun b3 hb3 => ?_)
  refine H.q (yl_assign rfl) rfl rfl (by decide) ?_
  refine HN.done ?_
  refine HN.keep [(1, _), (3, _)] ⟨rfl, rfl, trivial⟩ ?_
  refine HN.then ?_
  refine H.seq ?_
  refine H.region ?_
  refine H.q (yl_move rfl) rfl rfl (by decide) ?_
  refine H.q (yl_fieldAddr _ fa74_0 rfl) rfl rfl (by decide) ?_
  refine H.q (yl_load Tryz.isAgg2 rfl (fun w hw => hw.cell 0 rfl rfl)) rfl rfl (by decide) ?_
  refine H.q (yl_geq rfl rfl) rfl rfl (by decide) ?_
  refine H.q (yl_assign rfl) rfl rfl (by decide) ?_
  refine HN.done ?_
  refine HN.keep [(6, _)] ⟨rfl, trivial⟩ ?_
  refine HN.then ?_
  refine HR.ret ?_
  refine HR.ret1 _ Tryz.results179 rfl (fun w hw => ?_)
  refine ⟨?_, hw.ext⟩
  simp [holdsB, hk]

set_option maxRecDepth 100000 in
theorem m180_any (x : Inv) (a b : Int) (sv : Value) (w0 : World) (_hl : x.set.length ≤ 4611686018427387904) (_hv : IsInts w0 sv x.set) (_hx : Safe x) (_ha : smallB a = true) (hk : x.kind = 4) : Calls Tryz.prog 180 #[.agg [.int .i64 x.k].toArray, .int .i64 a, .int .i64 b] w0 fun e w' => e = .returned (.bool (holdsB x a b)) ∧ Ext w0 w' := by
  refine enterA 11 Tryz.func180 rfl Tryz.ntmps180 rfl (Hp w0 [] [] []) (Hp.init _) ?_
  refine H.seq ?_
  refine H.region ?_
  refine H.boxA rfl (by decide) (fun b3 hb3 => ?_)
  refine H.q (yl_assign rfl) rfl rfl (by decide) ?_
  refine HN.done ?_
  refine HN.keep [(1, _), (3, _)] ⟨rfl, rfl, trivial⟩ ?_
  refine HN.then ?_
  refine H.seq ?_
  refine H.region ?_
  refine H.q (yl_move rfl) rfl rfl (by decide) ?_
  refine H.q (yl_fieldAddr _ fa75_0 rfl) rfl rfl (by decide) ?_
  refine H.q (yl_load Tryz.isAgg2 rfl (fun w hw => hw.cell 0 rfl rfl)) rfl rfl (by decide) ?_
  refine H.q (yl_leq rfl rfl) rfl rfl (by decide) ?_
  refine H.q (yl_assign rfl) rfl rfl (by decide) ?_
  refine HN.done ?_
  refine HN.keep [(6, _)] ⟨rfl, trivial⟩ ?_
  refine HN.then ?_
  refine HR.ret ?_
  refine HR.ret1 _ Tryz.results180 rfl (fun w hw => ?_)
  refine ⟨?_, hw.ext⟩
  simp [holdsB, hk]

set_option maxRecDepth 100000 in
theorem m181_any (x : Inv) (a b : Int) (sv : Value) (w0 : World) (_hl : x.set.length ≤ 4611686018427387904) (_hv : IsInts w0 sv x.set) (_hx : Safe x) (_ha : smallB a = true) (hk : x.kind = 5) : Calls Tryz.prog 181 #[.agg [].toArray, .int .i64 a, .int .i64 b] w0 fun e w' => e = .returned (.bool (holdsB x a b)) ∧ Ext w0 w' := by
  refine enterA 9 Tryz.func181 rfl Tryz.ntmps181 rfl (Hp w0 [] [] []) (Hp.init _) ?_
  refine H.seq ?_
  refine H.region ?_
  refine H.boxA rfl (by decide) (fun b3 hb3 => ?_)
  refine H.q (yl_assign rfl) rfl rfl (by decide) ?_
  refine HN.done ?_
  refine HN.keep [(1, _)] ⟨rfl, trivial⟩ ?_
  refine HN.then ?_
  refine H.seq ?_
  refine H.region ?_
  refine H.q (yl_move rfl) rfl rfl (by decide) ?_
  refine H.q (yl_neq rfl rfl) rfl rfl (by decide) ?_
  refine H.q (yl_assign rfl) rfl rfl (by decide) ?_
  refine HN.done ?_
  refine HN.keep [(6, _)] ⟨rfl, trivial⟩ ?_
  refine HN.then ?_
  refine HR.ret ?_
  refine HR.ret1 _ Tryz.results181 rfl (fun w hw => ?_)
  refine ⟨?_, hw.ext⟩
  simp [holdsB, hk]

set_option maxRecDepth 100000 in
theorem m182_any (x : Inv) (a b : Int) (sv : Value) (w0 : World) (_hl : x.set.length ≤ 4611686018427387904) (_hv : IsInts w0 sv x.set) (hx : Safe x) (_ha : smallB a = true) (hk : x.kind = 6) : Calls Tryz.prog 182 #[.agg [.int .i64 x.k, .int .i64 x.m].toArray, .int .i64 a, .int .i64 b] w0 fun e w' => e = .returned (.bool (holdsB x a b)) ∧ Ext w0 w' := by
  refine enterA 14 Tryz.func182 rfl Tryz.ntmps182 rfl (Hp w0 [] [] []) (Hp.init _) ?_
  refine H.seq ?_
  refine H.region ?_
  refine H.boxA rfl (by decide) (fun b3 hb3 => ?_)
  refine H.q (yl_assign rfl) rfl rfl (by decide) ?_
  refine HN.done ?_
  refine HN.keep [(1, _), (3, _)] ⟨rfl, rfl, trivial⟩ ?_
  refine HN.then ?_
  refine H.seq ?_
  refine H.regionQ Tryz.mixed (by kernel_rfl) (stab_hp _ _ _ _) ?_
  refine G.q (yl_move rfl) rfl rfl (by decide) ?_
  refine G.q (yl_fieldAddr _ fa79_1 rfl) rfl rfl (by decide) ?_
  refine G.q (yl_load Tryz.isAgg2 rfl (fun w hw => hw.cell 0 rfl rfl)) rfl rfl (by decide) ?_
  refine G.q (yl_call (xs := [.tmp 7, .tmp 9]) Tryz.call88 (stab_hp _ _ _ _) rfl (fun w hw => modulo_any a x.m w (by have := hx.2.2 hk; omega) (small_le hx.2.1).2)) rfl rfl (by decide) ?_
  refine G.q (yl_fieldAddr _ fa79_0 rfl) rfl rfl (by decide) ?_
  refine G.q (yl_load Tryz.isAgg2 rfl (fun w hw => hw.cell 0 rfl rfl)) rfl rfl (by decide) ?_
  refine G.q (yl_eql rfl rfl) rfl rfl (by decide) ?_
  refine G.q (yl_assign rfl) rfl rfl (by decide) ?_
  refine HN.doneG ?_
  refine HN.keep [(6, _)] ⟨rfl, trivial⟩ ?_
  refine HN.then ?_
  refine HR.ret ?_
  refine HR.ret1 _ Tryz.results182 rfl (fun w hw => ?_)
  refine ⟨?_, hw.ext⟩
  simp [holdsB, hk]

set_option maxRecDepth 100000 in
theorem m183_any (x : Inv) (a b : Int) (sv : Value) (w0 : World) (_hl : x.set.length ≤ 4611686018427387904) (_hv : IsInts w0 sv x.set) (_hx : Safe x) (_ha : smallB a = true) (hk : x.kind = 7) : Calls Tryz.prog 183 #[.agg [].toArray, .int .i64 a, .int .i64 b] w0 fun e w' => e = .returned (.bool (holdsB x a b)) ∧ Ext w0 w' := by
  refine enterA 10 Tryz.func183 rfl Tryz.ntmps183 rfl (Hp w0 [] [] []) (Hp.init _) ?_
  refine H.seq ?_
  refine H.region ?_
  refine H.boxA rfl (by decide) (fun b3 hb3 => ?_)
  refine H.q (yl_assign rfl) rfl rfl (by decide) ?_
  refine HN.done ?_
  refine HN.keep [(1, _), (2, _)] ⟨rfl, rfl, trivial⟩ ?_
  refine HN.then ?_
  refine H.seq ?_
  refine H.region ?_
  refine H.q (yl_move rfl) rfl rfl (by decide) ?_
  refine H.q (yl_move rfl) rfl rfl (by decide) ?_
  refine H.q (yl_eql rfl rfl) rfl rfl (by decide) ?_
  refine H.q (yl_assign rfl) rfl rfl (by decide) ?_
  refine HN.done ?_
  refine HN.keep [(6, _)] ⟨rfl, trivial⟩ ?_
  refine HN.then ?_
  refine HR.ret ?_
  refine HR.ret1 _ Tryz.results183 rfl (fun w hw => ?_)
  refine ⟨?_, hw.ext⟩
  simp [holdsB, hk]

set_option maxRecDepth 100000 in
theorem m184_any (x : Inv) (a b : Int) (sv : Value) (w0 : World) (_hl : x.set.length ≤ 4611686018427387904) (_hv : IsInts w0 sv x.set) (_hx : Safe x) (_ha : smallB a = true) (hk : x.kind = 8) : Calls Tryz.prog 184 #[.agg [].toArray, .int .i64 a, .int .i64 b] w0 fun e w' => e = .returned (.bool (holdsB x a b)) ∧ Ext w0 w' := by
  refine enterA 10 Tryz.func184 rfl Tryz.ntmps184 rfl (Hp w0 [] [] []) (Hp.init _) ?_
  refine H.seq ?_
  refine H.region ?_
  refine H.boxA rfl (by decide) (fun b3 hb3 => ?_)
  refine H.q (yl_assign rfl) rfl rfl (by decide) ?_
  refine HN.done ?_
  refine HN.keep [(1, _), (2, _)] ⟨rfl, rfl, trivial⟩ ?_
  refine HN.then ?_
  refine H.seq ?_
  refine H.region ?_
  refine H.q (yl_move rfl) rfl rfl (by decide) ?_
  refine H.q (yl_move rfl) rfl rfl (by decide) ?_
  refine H.q (yl_neq rfl rfl) rfl rfl (by decide) ?_
  refine H.q (yl_assign rfl) rfl rfl (by decide) ?_
  refine HN.done ?_
  refine HN.keep [(6, _)] ⟨rfl, trivial⟩ ?_
  refine HN.then ?_
  refine HR.ret ?_
  refine HR.ret1 _ Tryz.results184 rfl (fun w hw => ?_)
  refine ⟨?_, hw.ext⟩
  simp [holdsB, hk]

set_option maxRecDepth 100000 in
theorem m185_any (x : Inv) (a b : Int) (sv : Value) (w0 : World) (_hl : x.set.length ≤ 4611686018427387904) (_hv : IsInts w0 sv x.set) (_hx : Safe x) (_ha : smallB a = true) (hk : x.kind = 9) : Calls Tryz.prog 185 #[.agg [].toArray, .int .i64 a, .int .i64 b] w0 fun e w' => e = .returned (.bool (holdsB x a b)) ∧ Ext w0 w' := by
  refine enterA 10 Tryz.func185 rfl Tryz.ntmps185 rfl (Hp w0 [] [] []) (Hp.init _) ?_
  refine H.seq ?_
  refine H.region ?_
  refine H.boxA rfl (by decide) (fun b3 hb3 => ?_)
  refine H.q (yl_assign rfl) rfl rfl (by decide) ?_
  refine HN.done ?_
  refine HN.keep [(1, _), (2, _)] ⟨rfl, rfl, trivial⟩ ?_
  refine HN.then ?_
  refine H.seq ?_
  refine H.region ?_
  refine H.q (yl_move rfl) rfl rfl (by decide) ?_
  refine H.q (yl_move rfl) rfl rfl (by decide) ?_
  refine H.q (yl_lss rfl rfl) rfl rfl (by decide) ?_
  refine H.q (yl_assign rfl) rfl rfl (by decide) ?_
  refine HN.done ?_
  refine HN.keep [(6, _)] ⟨rfl, trivial⟩ ?_
  refine HN.then ?_
  refine HR.ret ?_
  refine HR.ret1 _ Tryz.results185 rfl (fun w hw => ?_)
  refine ⟨?_, hw.ext⟩
  simp [holdsB, hk]

set_option maxRecDepth 100000 in
theorem m186_any (x : Inv) (a b : Int) (sv : Value) (w0 : World) (_hl : x.set.length ≤ 4611686018427387904) (_hv : IsInts w0 sv x.set) (_hx : Safe x) (_ha : smallB a = true) (hk : x.kind = 10) : Calls Tryz.prog 186 #[.agg [].toArray, .int .i64 a, .int .i64 b] w0 fun e w' => e = .returned (.bool (holdsB x a b)) ∧ Ext w0 w' := by
  refine enterA 10 Tryz.func186 rfl Tryz.ntmps186 rfl (Hp w0 [] [] []) (Hp.init _) ?_
  refine H.seq ?_
  refine H.region ?_
  refine H.boxA rfl (by decide) (fun b3 hb3 => ?_)
  refine H.q (yl_assign rfl) rfl rfl (by decide) ?_
  refine HN.done ?_
  refine HN.keep [(1, _), (2, _)] ⟨rfl, rfl, trivial⟩ ?_
  refine HN.then ?_
  refine H.seq ?_
  refine H.region ?_
  refine H.q (yl_move rfl) rfl rfl (by decide) ?_
  refine H.q (yl_move rfl) rfl rfl (by decide) ?_
  refine H.q (yl_leq rfl rfl) rfl rfl (by decide) ?_
  refine H.q (yl_assign rfl) rfl rfl (by decide) ?_
  refine HN.done ?_
  refine HN.keep [(6, _)] ⟨rfl, trivial⟩ ?_
  refine HN.then ?_
  refine HR.ret ?_
  refine HR.ret1 _ Tryz.results186 rfl (fun w hw => ?_)
  refine ⟨?_, hw.ext⟩
  simp [holdsB, hk]

set_option maxRecDepth 100000 in
theorem m187_any (x : Inv) (a b : Int) (sv : Value) (w0 : World) (_hl : x.set.length ≤ 4611686018427387904) (_hv : IsInts w0 sv x.set) (hx : Safe x) (ha : smallB a = true) (hk : x.kind = 11) : Calls Tryz.prog 187 #[.agg [.int .i64 x.k, .int .i64 x.m].toArray, .int .i64 a, .int .i64 b] w0 fun e w' => e = .returned (.bool (holdsB x a b)) ∧ Ext w0 w' := by
  have h1 := mul_small hx.1 ha
  have h2 := small_le hx.2.1
  refine enterA 16 Tryz.func187 rfl Tryz.ntmps187 rfl (Hp w0 [] [] []) (Hp.init _) ?_
  refine H.seq ?_
  refine H.region ?_
  refine H.boxA rfl (by decide) (fun b3 hb3 => ?_)
  refine H.q (yl_assign rfl) rfl rfl (by decide) ?_
  refine HN.done ?_
  refine HN.keep [(1, _), (2, _), (3, _)] ⟨rfl, rfl, rfl, trivial⟩ ?_
  refine HN.then ?_
  refine H.seq ?_
  refine H.region ?_
  refine H.q (yl_move rfl) rfl rfl (by decide) ?_
  refine H.q (yl_fieldAddr _ fa119_0 rfl) rfl rfl (by decide) ?_
  refine H.q (yl_load Tryz.isAgg2 rfl (fun w hw => hw.cell 0 rfl rfl)) rfl rfl (by decide) ?_
  refine H.q (yl_move rfl) rfl rfl (by decide) ?_
  refine H.q (yl_mul rfl rfl _ rfl (by omega)) rfl rfl (by decide) ?_
  refine H.q (yl_fieldAddr _ fa119_1 rfl) rfl rfl (by decide) ?_
  refine H.q (yl_load Tryz.isAgg2 rfl (fun w hw => hw.cell 0 rfl rfl)) rfl rfl (by decide) ?_
  refine H.q (yl_add rfl rfl _ rfl (by omega)) rfl rfl (by decide) ?_
  refine H.q (yl_eql rfl rfl) rfl rfl (by decide) ?_
  refine H.q (yl_assign rfl) rfl rfl (by decide) ?_
  refine HN.done ?_
  refine HN.keep [(6, _)] ⟨rfl, trivial⟩ ?_
  refine HN.then ?_
  refine HR.ret ?_
  refine HR.ret1 _ Tryz.results187 rfl (fun w hw => ?_)
  refine ⟨?_, hw.ext⟩
  simp [holdsB, hk]

end Go.Proofs.YtgbgddmbooaddaaGreatDoor

