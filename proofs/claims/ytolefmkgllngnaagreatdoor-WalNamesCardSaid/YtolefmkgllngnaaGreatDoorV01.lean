/-
  WalNames: every input answers true. Part 1 of its proof: VvDraw VvDen VvMem VvRules.
-/
import Derived.OrdersHeld
import Derived.Deep.RegionHeld3
import Derived.Tactics
import Derived.StillTail
import Derived.Scope
import Derived.Deep.LoopGhost
import Derived.WalkKit
import Derived.WalkLawsBesides
import Derived.WalkSpells
import Derived.Lib.AppendStr
import Derived.Laws.AppendOwnNone

/-
  REGIONS THAT DRAW THEIR ORDER, BY A PLAN: one canonical order serves every order, if what was read ahead of an operation that turns the world, and may come up behind it too, reads the same behind it.
  After Derived/OrdersHeld.lean, whose condition on the world is here a condition on each step ('B').
-/
namespace Vv
open Go
section
variable {P : Program} {ops : Array Oper} {Q : Exit → Act → World → Prop} {md : Region.Mode}

/-- Whatever order is picked from here on, and behind every operation i that is carried out 'B i w w'' holds of the worlds ahead of it and behind it. -/
def wpAnyB (P : Program) (md : Region.Mode) (ops : Array Oper) (Q : Exit → Act → World → Prop) (B : Nat → World → World → Prop) : Nat → Array Bool → Act → World → Prop
  | 0, listed, a, w => Region.ready md ops listed = [] ∧ Q .normal a w
  | fuel + 1, listed, a, w =>
    (Region.ready md ops listed = [] → Q .normal a w) ∧
    ∀ i ∈ Region.ready md ops listed, wpOp P ops Q i (fun a' w' => B i w w' ∧ wpAnyB P md ops Q B fuel (listed.setIfInBounds i true) a' w') a w

theorem wpAny_of_B {B : Nat → World → World → Prop} : ∀ (fuel : Nat) (listed : Array Bool) (a : Act) (w : World), wpAnyB P md ops Q B fuel listed a w → wpAny P md ops Q fuel listed a w
  | 0, _, _, _, h => h
  | fuel + 1, _, _, _, h => ⟨h.1, fun i hi => wpOp_mono (fun a' w' h' => wpAny_of_B fuel _ a' w' h'.2) (h.2 i hi)⟩

theorem wpAnyB_mono {B B' : Nat → World → World → Prop} (hB : ∀ i w w', B i w w' → B' i w w') : ∀ (fuel : Nat) (listed : Array Bool) (a : Act) (w : World), wpAnyB P md ops Q B fuel listed a w → wpAnyB P md ops Q B' fuel listed a w
  | 0, _, _, _, h => h
  | fuel + 1, _, _, _, h => ⟨h.1, fun i hi => wpOp_mono (fun a' w' h' => ⟨hB _ _ _ h'.1, wpAnyB_mono hB fuel _ a' w' h'.2⟩) (h.2 i hi)⟩

/-- listed operations have what they wait for among the listed ones -/
def Closed (md : Region.Mode) (ops : Array Oper) (listed : Array Bool) : Prop :=
  ∀ j o, ops[j]? = some o → listed.getD j false = true → ∀ e ∈ o.after, Region.binds md e = true → listed.getD e.on false = true

theorem Closed.step {listed : Array Bool} {i : Nat} (hc : Closed md ops listed) (hi : i ∈ Region.ready md ops listed) : Closed md ops (listed.setIfInBounds i true) := by
  intro j o ho hj e he hb
  by_cases h : i = j
  · subst h
    obtain ⟨_, o', ho', hall⟩ := mem_ready.1 hi
    rw [ho] at ho'
    cases ho'
    exact getD_set_true (hall e he hb)
  · rw [getD_set_ne false h] at hj
    exact getD_set_true (hc j o ho hj e he hb)

/-- An operation that may come up now may be taken first, if it yields its value in every world that meets S, and S is handed on by every operation that may come up ahead of it. -/
theorem wpAnyB_first {B : Nat → World → World → Prop} {S : World → Prop} {i : Nat} {oi : Oper} {v : Value} (hi : ops[i]? = some oi) (hsel : ∀ (j : Nat) (o : Oper) cs b, ops[j]? = some o → o.op ≠ .select cs b)
    (hQ : ∀ c a w, Q (.panic c) (a.put oi.dst v) w → Q (.panic c) a w)
    (hBi : ∀ w, S w → B i w w)
    (hS' : ∀ (listed : Array Bool) j w w', Closed md ops listed → listed.getD i true = false → j ∈ Region.ready md ops listed → S w → B j w w' → S w') :
    ∀ (fuel : Nat) (listed : Array Bool) (a : Act) (w : World),
      (∀ j oj, ops[j]? = some oj → j ≠ i → listed.getD j true = false → (∀ e ∈ oj.after, Region.binds md e = true → e.on ≠ i) → oi.apart ops oj = true) →
      Closed md ops listed → i ∈ Region.ready md ops listed → YieldsIf P ops S oi v a → S w →
      wpAnyB P md ops Q B fuel (listed.setIfInBounds i true) (a.put oi.dst v) w → wpAnyB P md ops Q B (fuel + 1) listed a w := by
  intro fuel
  induction fuel with
  | zero =>
    intro listed a w _ _ hr hy hS H
    refine ⟨fun h => (by rw [h] at hr; cases hr), fun j hj => ?_⟩
    by_cases hji : j = i
    · subst hji; exact hy.wpOp hi hS ⟨hBi _ hS, H⟩
    · have := ready_mono hj hji
      rw [H.1] at this
      cases this
  | succ fuel ih =>
    intro listed a w hfree hcl hr hy hS H
    refine ⟨fun h => (by rw [h] at hr; cases hr), fun j hj => ?_⟩
    by_cases hji : j = i
    · subst hji; exact hy.wpOp hi hS ⟨hBi _ hS, H⟩
    · have h1 := H.2 j (ready_mono hj hji)
      obtain ⟨hjun, oj, hoj, hall⟩ := mem_ready.1 hj
      have hnot : ∀ e ∈ oj.after, Region.binds md e = true → e.on ≠ i := fun e he hb heq => by
        have h1 := hall e he hb
        have h0 := (mem_ready.1 hr).1
        rw [heq] at h1
        rcases Nat.lt_or_ge i listed.size with h' | h'
        · simp [h'] at h0 h1; rw [h0] at h1; cases h1
        · simp [Array.getElem?_eq_none h'] at h1
      have h2 := wpOp_putIf hoj (hfree j oj hoj hji hjun hnot) (fun cs b => hsel i oi cs b hi) (fun cs b => hsel j oj cs b hoj) hQ hy h1
      have hfree' : ∀ k ok, ops[k]? = some ok → k ≠ i → (listed.setIfInBounds j true).getD k true = false →
          (∀ e ∈ ok.after, Region.binds md e = true → e.on ≠ i) → oi.apart ops ok = true := fun k ok hk hki hun hno => by
        refine hfree k ok hk hki ?_ hno
        by_cases hjk : j = k
        · subst hjk; exact hjun
        · rw [getD_set_ne true hjk] at hun; exact hun
      refine wpOp_mono (fun a' w' h3 => ⟨h3.2.1, ih (listed.setIfInBounds j true) a' w' hfree' (hcl.step hj) (ready_mono hr (Ne.symm hji)) h3.1 (hS' listed j w w' hcl (mem_ready.1 hr).1 hj hS h3.2.1) ?_⟩) h2
      rw [Array.setIfInBounds_comm _ _ hji]
      exact h3.2.2

/-- what operation l surely waits for: a list, each justified by an edge of l or of one that stands behind it in the list -/
def waitsB (md : Region.Mode) (ops : Array Oper) (l : Nat) : List Nat → Bool
  | [] => true
  | q :: r => (l :: r).any (fun x => match ops[x]? with
      | some o => o.after.any fun e => Region.binds md e && e.on == q
      | none => false) && waitsB md ops l r

theorem waitsB_listed {l : Nat} {listed : Array Bool} (hc : Closed md ops listed) (hl : l ∈ Region.ready md ops listed) : ∀ (D : List Nat), waitsB md ops l D = true → ∀ q ∈ D, listed.getD q false = true := by
  intro D
  induction D with
  | nil => intro _ q hq; cases hq
  | cons d r ih =>
    intro h q hq
    simp only [waitsB, Bool.and_eq_true] at h
    obtain ⟨h1, h2⟩ := h
    have ihr := ih h2
    cases hq with
    | tail _ hm => exact ihr q hm
    | head =>
      obtain ⟨x, hx, hxe⟩ := List.any_eq_true.1 h1
      cases hox : ops[x]? with
      | none => simp [hox] at hxe
      | some o =>
        simp only [hox] at hxe
        rw [Array.any_eq_true'] at hxe
        obtain ⟨e, hem, hee⟩ := hxe
        simp only [Bool.and_eq_true, beq_iff_eq] at hee
        obtain ⟨hb, he⟩ := hee
        subst he
        cases hx with
        | head =>
          obtain ⟨_, o', ho', hall⟩ := mem_ready.1 hl
          rw [hox] at ho'
          cases ho'
          exact hall e hem hb
        | tail _ hm => exact hc x o hox (ihr x hm) e hem hb

theorem getD_false_of {listed : Array Bool} {q : Nat} (h : listed.getD q true = false) : listed.getD q false = false := by
  rcases Nat.lt_or_ge q listed.size with h' | h'
  · simp [h'] at h ⊢; exact h
  · simp [Array.getElem?_eq_none h'] at h

end
end Vv

/-
  A WEAKEST PRECONDITION OVER CODE, WITH WHAT IS KNOWN OF THE SLOTS IN THE PLACE OF THE FRAME ('Know'); notes ('Note') say where ways are joined, which slots a loop carries, in which order a drawn region is gone through. 'den_sound': it gives the model's own 'Code.wp'.
-/
namespace Vv
open Go

/-- what is known of the slots -/
abbrev Know := Nat → Option Value
def upd (ρ : Know) (d : Nat) (v : Value) : Know := fun t => bif Nat.beq t d then some v else ρ t
def fgt (ρ : Know) (ws : List Nat) : Know := fun t => bif ws.elem t then none else ρ t
def sets (ρ : Know) : List Nat → List Value → Know
  | d :: ds, v :: vs => sets (upd ρ d v) ds vs
  | _, _ => ρ
def ev (ρ : Know) : Operand → Option Value
  | .tmp t => ρ t
  | .const v => some v
  | .global g => some (.pointer (some ⟨g, 0, none⟩))
  | .func f => some (.func (.func f) #[] #[])

structure Fits (n : Nat) (ρ : Know) (a : Act) : Prop where
  defers : a.defers = []
  size : a.tmps.size = n
  slot : ∀ t v, ρ t = some v → a.tmps.getD t undef = v

theorem Fits.ev {n : Nat} {ρ : Know} {a : Act} (h : Fits n ρ a) {x : Operand} {v : Value} (hv : ev ρ x = some v) : a.eval x = v := by
  cases x with
  | tmp t => exact h.slot t v hv
  | const u => exact Option.some.inj hv
  | global g => exact Option.some.inj hv
  | func f => exact Option.some.inj hv

theorem Fits.upd {n d : Nat} {ρ : Know} {a : Act} (h : Fits n ρ a) (hd : d < n) (v : Value) : Fits n (upd ρ d v) (a.put (some d) v) := by
  refine ⟨h.defers, by simp [Act.put, h.size], fun t u hu => ?_⟩
  simp only [Vv.upd] at hu
  by_cases e : t = d
  · subst e
    simp at hu
    subst hu
    simp [Act.put, h.size, hd]
  · have : Nat.beq t d = false := by rw [Bool.eq_false_iff]; intro hb; exact e (Nat.eq_of_beq_eq_true hb)
    simp only [this, cond_false] at hu
    have := h.slot t u hu
    simp only [Act.put, Array.getD_eq_getD_getElem?] at this ⊢
    rw [Array.getElem?_setIfInBounds_ne (Ne.symm e)]
    exact this

theorem Fits.fgt {n : Nat} {ρ : Know} {a : Act} (h : Fits n ρ a) (ws : List Nat) : Fits n (fgt ρ ws) a :=
  ⟨h.defers, h.size, fun t v hv => by
    simp only [Vv.fgt] at hv
    cases e : ws.elem t
    · rw [e] at hv; exact h.slot t v hv
    · rw [e] at hv; cases hv⟩

/-! ### one operation -/
/-- yields in whatever world -/
def Pu {α : Type} (P : Program) (m : Sem α) (K : α → Prop) : Prop := ∃ v, (∀ w, m.run P w = .ok v w) ∧ K v
/-- yields in this world, and leaves it -/
def Rd {α : Type} (P : Program) (m : Sem α) (w : World) (K : α → Prop) : Prop := ∃ v, m.run P w = .ok v w ∧ K v
/-- yields, whatever becomes of the world -/
def Do {α : Type} (P : Program) (m : Sem α) (w : World) (K : α → World → Prop) : Prop := ∃ v w', m.run P w = .ok v w' ∧ K v w'
/-- a call that returns -/
def Runs (P : Program) (f : FuncId) (args : Array Value) (w : World) (K : Value → World → Prop) : Prop :=
  Calls P f args w fun e w' => ∃ v, e = .returned v ∧ K v w'
/-- what an operation leaves that may be a call -/
def Upon (P : Program) (K : Value → World → Prop) : Result Next → Prop
  | .ok (.value v) w' => K v w'
  | .ok .skip w' => K undef w'
  | .ok (.enter f args) w' => Runs P f args w' K
  | .ok (.row r args) w' => Rows P r args w' K
  | _ => False
/-- a function value is called -/
def CallV (P : Program) (f : Value) (args : Array Value) (w : World) (K : Value → World → Prop) : Prop :=
  Upon P K ((do let d ← Deferred.ofValue f args; invoke d.target d.args : Sem Next).run P w)
/-- a function that is named is called -/
def CallF (P : Program) (f : FuncId) (args : Array Value) (w : World) (K : Value → World → Prop) : Prop := Upon P K ((callFunc f args).run P w)
def CallM (P : Program) (recv : Value) (name : String) (args : Array Value) (w : World) (K : Value → World → Prop) : Prop :=
  Upon P K ((callMethod recv name args).run P w)

def with1 (ρ : Know) (x : Operand) (k : Value → Prop) : Prop := match ev ρ x with | some v => k v | none => False
def withL (ρ : Know) : List Operand → (List Value → Prop) → Prop
  | [], k => k []
  | x :: r, k => with1 ρ x fun v => withL ρ r fun vs => k (v :: vs)
def withO (ρ : Know) : Option Operand → (Option Value → Prop) → Prop
  | none, k => k none
  | some x, k => with1 ρ x fun v => k (some v)
def withP (ρ : Know) : List (Nat × Operand) → (List (Nat × Value) → Prop) → Prop
  | [], k => k []
  | (i, x) :: r, k => with1 ρ x fun v => withP ρ r fun vs => k ((i, v) :: vs)

/-- the classes: whatever world; this world; a change -/
inductive Cls where | pu | rd | dx deriving DecidableEq
def clsB : Builtin → Cls
  | .len | .cap => .rd
  | .max | .min => .pu
  | _ => .dx
def cls : Op → Cls
  | .move _ | .assign _ | .pick .. | .nilCheck _ | .binOp .. | .unOp .. | .makeInterface .. | .makeFunc .. | .slice .. | .fieldAddr .. | .field .. | .indexAddr .. | .index .. | .extract .. | .build .. => .pu
  | .load .. | .lookup .. | .typeAssert .. => .rd
  | .call { callee := .builtin b, .. } => clsB b
  | _ => .dx

/-- how a value is got, by its class: K gets the value and the world behind -/
def by' {α : Type} (P : Program) (c : Cls) (m : Sem α) (K : α → World → Prop) (w : World) : Prop :=
  match c with
  | .pu => Pu P m fun v => K v w
  | .rd => Rd P m w fun v => K v w
  | .dx => Do P m w K

def nilOk : Value → Prop
  | .pointer (some _) | .iface _ _ => True
  | .func (.method _) _ _ => False
  | .func _ _ _ => True
  | _ => False

def isC : Operand → Bool
  | .const _ => true
  | _ => false
def opnd : Bool → Operand
  | true => .const undef
  | false => .tmp 0
/-- a binary operation -/
def Bin (P : Program) (op : BinOp) (t : TypeId) (cx cy : Bool) (a b : Value) (K : Value → Prop) : Prop :=
  Pu P (do eqGuard op t (opnd cx) (opnd cy) a b; binOp op t a b) K
theorem eqGuard_opnd (op : BinOp) (t : TypeId) (x y : Operand) (a b : Value) : eqGuard op t (opnd (isC x)) (opnd (isC y)) a b = eqGuard op t x y a b := by
  cases x <;> cases y <;> rfl
/-- which arguments are constants -/
def csOf (args : Array Operand) : Array Bool := (args.toList.map isC).toArray
theorem csOf_eq (args : Array Operand) : csOf args = args.map fun | .const _ => true | _ => false := by
  apply Array.ext'
  simp only [csOf, Array.toList_map]
  exact List.map_congr_left fun x _ => by cases x <;> rfl
/-- a builtin, by its class -/
def BltP (P : Program) (b : Builtin) (ats : Array TypeId) (ty : TypeId) (cs : Array Bool) (vs : Array Value) (K : Value → Prop) : Prop :=
  Pu P (builtin b ats ty cs vs) fun x => ∃ v, x = .value v ∧ K v
def BltR (P : Program) (b : Builtin) (ats : Array TypeId) (ty : TypeId) (cs : Array Bool) (vs : Array Value) (w : World) (K : Value → Prop) : Prop :=
  Rd P (builtin b ats ty cs vs) w fun x => ∃ v, x = .value v ∧ K v
def BltD (P : Program) (b : Builtin) (ats : Array TypeId) (ty : TypeId) (cs : Array Bool) (vs : Array Value) (w : World) (K : Value → World → Prop) : Prop :=
  Do P (builtin b ats ty cs vs) w fun x w' => ∃ v, x = .value v ∧ K v w'
def Pick (c a b : Value) (K : Value → Prop) : Prop := ∃ t, c = .bool t ∧ K (if t then a else b)

/-- one operation -/
def dop (P : Program) (ρ : Know) (o : Oper) (K : Value → World → Prop) (w : World) : Prop :=
  match o.op with
  | .move x => with1 ρ x fun v => K v w
  | .assign x => with1 ρ x fun v => K v w
  | .pick c a b => with1 ρ c fun c => with1 ρ a fun a => with1 ρ b fun b => Pick c a b (fun v => K v w)
  | .alloc t => Do P (Instr.alloc t true (.tuple #[])) w K
  | .box t x => with1 ρ x fun x => Do P (Instr.box t x) w K
  | .build t ps => withP ρ ps.toList fun ps => Pu P (Instr.build t ps.toArray) fun v => K v w
  | .buildSlice t n ps => withP ρ ps.toList fun ps => Do P (Instr.buildSlice t n ps.toArray) w K
  | .load t a => with1 ρ a fun a => Rd P (Instr.loadAt t a) w fun v => K v w
  | .store t a x => with1 ρ a fun a => with1 ρ x fun x => Do P (Instr.storeAt t a x) w fun _ => K undef
  | .nilCheck x => with1 ρ x fun x => nilOk x ∧ K x w
  | .binOp op t x y _ => with1 ρ x fun a => with1 ρ y fun b => Bin P op t (isC x) (isC y) a b fun v => K v w
  | .unOp op _ x => with1 ρ x fun x => Pu P (Op.unary op x) fun v => K v w
  | .convert s d x => with1 ρ x fun x => Do P (convert s d x) w K
  | .makeInterface t x => with1 ρ x fun x => Pu P (Instr.makeInterface t x) fun v => K v w
  | .makeFunc fn f c => withL ρ f.toList fun f => withL ρ c.toList fun c => K (.func fn f.toArray c.toArray) w
  | .makeMap t r => withO ρ r fun r => Do P (Instr.makeMap t r) w K
  | .makeSlice t l c => with1 ρ l fun l => with1 ρ c fun c => Do P (Instr.makeSlice t l c) w K
  | .slice t x lo hi mx => with1 ρ x fun x => withO ρ lo fun lo => withO ρ hi fun hi => withO ρ mx fun mx => Pu P (Instr.sliceAt t x lo hi mx) fun v => K v w
  | .fieldAddr s x f => with1 ρ x fun x => Pu P (Instr.fieldAt s x f) fun v => K v w
  | .field t x f => with1 ρ x fun x => Pu P (Instr.field t x f) fun v => K v w
  | .indexAddr t x i => with1 ρ x fun x => with1 ρ i fun i => Pu P (Instr.indexAt t x i) fun v => K v w
  | .index t x i => with1 ρ x fun x => with1 ρ i fun i => Pu P (Instr.index t x i) fun v => K v w
  | .lookup t x i ok => with1 ρ x fun x => with1 ρ i fun i => Rd P (Instr.lookup t x i ok) w fun v => K v w
  | .mapUpdate t m k x | .insert t m k x => with1 ρ m fun m => with1 ρ k fun k => with1 ρ x fun x => Do P (Instr.mapUpdate t m k x) w fun _ => K undef
  | .mapEntry t m k => with1 ρ m fun m => with1 ρ k fun k => Do P (Instr.mapEntry t m k) w K
  | .entryStore t m s x => with1 ρ m fun m => with1 ρ s fun s => with1 ρ x fun x => Do P (Instr.entryStore t m s x) w fun _ => K undef
  | .range t x => with1 ρ x fun x => Do P (Instr.range t x) w K
  | .next it s => with1 ρ it fun it => Do P (Instr.next it s o.type) w K
  | .entry it => with1 ρ it fun it => Do P (Instr.entry it) w K
  | .typeAssert x t as ok => with1 ρ x fun x => Rd P (Instr.typeAssert x t as ok) w fun v => K v w
  | .extract t i => with1 ρ t fun t => Pu P (Instr.extract t i) fun v => K v w
  | .call { callee := .builtin b, args, argTypes } => withL ρ args.toList fun vs =>
      (match clsB b with
      | .pu => BltP P b argTypes o.type (csOf args) vs.toArray fun v => K v w
      | .rd => BltR P b argTypes o.type (csOf args) vs.toArray w fun v => K v w
      | .dx => BltD P b argTypes o.type (csOf args) vs.toArray w K)
  | .call { callee := .value (.func f), args, .. } => withL ρ args.toList fun vs => CallF P f vs.toArray w K
  | .call { callee := .value (.tmp f), args, .. } => with1 ρ (.tmp f) fun f => withL ρ args.toList fun vs => CallV P f vs.toArray w K
  | .call { callee := .invoke r m, args, .. } => with1 ρ r fun r => withL ρ args.toList fun vs => CallM P r m vs.toArray w K
  | _ => False

/-- a result is laid into its slot -/
def dput (n : Nat) (ρ : Know) (dst : Option Tmp) (v : Value) (k : Know → Prop) : Prop :=
  match dst with
  | none => k ρ
  | some d => (bif Nat.blt d n then k (upd ρ d v) else False)

def Gate (v : Value) (want : Bool) (A B : Prop) : Prop := ∃ b, v = .bool b ∧ (b = want → A) ∧ (b = (!want) → B)

/-- what has been decided on the way: of a slot, that it holds this Bool, or that it holds none -/
abbrev Dec := List (Nat × Option Bool)
def dec? : Dec → Nat → Option (Option Bool)
  | [], _ => none
  | (e, r) :: D, d => bif Nat.beq e d then some r else dec? D d
def undec (D : Dec) (dst : Option Tmp) : Dec := match dst with
  | none => D
  | some d => D.filter fun x => !Nat.beq x.1 d
def decOf (D : Dec) : Operand → Option (Option Bool)
  | .const (.bool b) => some (some b)
  | .tmp t => dec? D t
  | _ => none
/-- an operation that hands on what an operand holds -/
def simple (D : Dec) : Op → Option Operand
  | .move x => some x
  | .assign x => some x
  | .pick c a b => match decOf D c with
    | some (some t) => some (bif t then a else b)
    | _ => none
  | _ => none
def dopD (P : Program) (ρ : Know) (D : Dec) (o : Oper) (K : Value → World → Prop) (w : World) : Prop :=
  match simple D o.op with
  | some y => with1 ρ y fun v => K v w
  | none => dop P ρ o K w
/-- the decisions behind an operation that was carried out, that was passed over -/
def decDo (D : Dec) (o : Oper) : Dec := match o.dst with
  | none => D
  | some d => match (simple D o.op).bind (decOf D) with
    | some r => (d, r) :: undec D (some d)
    | none => undec D (some d)
def decSkip (D : Dec) (o : Oper) : Dec := match o.dst with
  | none => D
  | some d => (d, none) :: undec D (some d)

def gate (ops : Array Oper) (ρ : Know) (D : Dec) (o : Oper) (A B : Dec → Prop) : Prop :=
  match o.guard with
  | none => A D
  | some (j, want) => match (ops[j]?).bind (·.dst) with
    | none => False
    | some d => match dec? D d with
      | some (some b) => bif b == want then A D else B D
      | some none => B D
      | none => match ρ d with
        | some v => Gate v want (A ((d, some want) :: D)) (B ((d, some (!want)) :: D))
        | none => False

def dops (P : Program) (n : Nat) (ops : Array Oper) (Q : Know → World → Prop) : List Oper → Dec → Know → World → Prop
  | [], _, ρ, w => Q ρ w
  | o :: r, D, ρ, w => gate ops ρ D o (fun D' => dopD P ρ D' o (fun v w' => dput n ρ o.dst v fun ρ' => dops P n ops Q r (decDo D' o) ρ' w') w)
      (fun D' => dput n ρ o.dst undef fun ρ' => dops P n ops Q r (decSkip D' o) ρ' w)

theorem with1_some {ρ : Know} {x : Operand} {k : Value → Prop} (h : with1 ρ x k) : ∃ v, ev ρ x = some v ∧ k v := by
  unfold with1 at h
  cases hx : ev ρ x with
  | none => simp [hx] at h
  | some v => simp only [hx] at h; exact ⟨v, rfl, h⟩

theorem withL_some {n : Nat} {ρ : Know} {a : Act} (hf : Fits n ρ a) : ∀ {xs : List Operand} {k : List Value → Prop}, withL ρ xs k → k (xs.map a.eval)
  | [], _, h => h
  | x :: r, k, h => by
    obtain ⟨v, hv, h⟩ := with1_some h
    have := withL_some hf (xs := r) h
    simp only [List.map_cons, hf.ev hv]
    exact this
theorem withO_some {n : Nat} {ρ : Know} {a : Act} (hf : Fits n ρ a) : ∀ {x : Option Operand} {k : Option Value → Prop}, withO ρ x k → k (x.map a.eval)
  | none, _, h => h
  | some x, k, h => by
    obtain ⟨v, hv, h⟩ := with1_some h
    simp only [Option.map_some, hf.ev hv]
    exact h
theorem withP_some {n : Nat} {ρ : Know} {a : Act} (hf : Fits n ρ a) : ∀ {xs : List (Nat × Operand)} {k : List (Nat × Value) → Prop}, withP ρ xs k → k (xs.map fun (i, x) => (i, a.eval x))
  | [], _, h => h
  | (i, x) :: r, k, h => by
    obtain ⟨v, hv, h⟩ := with1_some h
    have := withP_some hf (xs := r) h
    simp only [List.map_cons, hf.ev hv]
    exact this

section
variable {P : Program} {o : Oper} {a : Act} {w : World} {Q : Exit → Act → World → Prop} {next : Act → World → Prop}
theorem wp_of_Do {α : Type} {m : Sem α} {g : α → Next} {K : Value → World → Prop} (hr : ∀ w, (execOp a.eval o).run P w = (m.run P w).andThen fun x w' => .ok (g x) w')
    (h : Do P m w fun x w' => Upon P K (.ok (g x) w')) (hn : ∀ v w, K v w → next (a.put o.dst v) w) : o.wp P a w next Q := by
  obtain ⟨x, w', hx, hk⟩ := h
  unfold Oper.wp
  rw [hr, hx]
  simp only [Result.andThen_ok]
  generalize g x = y at hk
  cases y <;> simp only [Upon] at hk <;> simp only [Oper.upon]
  case value v => exact hn _ _ hk
  case skip => exact hn _ _ hk
  case enter f args =>
    refine Calls.mono hk fun e w'' he => ?_
    obtain ⟨v, rfl, hv⟩ := he
    exact hn _ _ hv
  case row r args => exact Rows.mono hk fun v w'' hv => hn _ _ hv
theorem wp_of_Upon {K : Value → World → Prop} (h : Upon P K ((execOp a.eval o).run P w)) (hn : ∀ v w, K v w → next (a.put o.dst v) w) : o.wp P a w next Q := by
  unfold Oper.wp
  generalize (execOp a.eval o).run P w = r at h
  cases r with
  | halt x w' => cases h
  | ok y w' =>
    cases y <;> simp only [Upon] at h <;> simp only [Oper.upon]
    case value v => exact hn _ _ h
    case skip => exact hn _ _ h
    case enter f args =>
      refine Calls.mono h fun e w'' he => ?_
      obtain ⟨v, rfl, hv⟩ := he
      exact hn _ _ hv
    case row r args => exact Rows.mono h fun v w'' hv => hn _ _ hv
end

theorem Upon_mono {P : Program} {K K' : Value → World → Prop} (h : ∀ v w, K v w → K' v w) : ∀ {r : Result Next}, Upon P K r → Upon P K' r := by
  intro r hr
  cases r with
  | halt x w' => cases hr
  | ok y w' =>
    cases y <;> simp only [Upon] at hr ⊢
    case value v => exact h _ _ hr
    case skip => exact h _ _ hr
    case enter f args =>
      refine Calls.mono hr fun e w'' he => ?_
      obtain ⟨v, rfl, hv⟩ := he
      exact ⟨v, rfl, h _ _ hv⟩
    case row r args => exact Rows.mono hr fun v w'' hv => h _ _ hv

/-- the run of the operation ends as 'dop' says -/
theorem dop_upon {P : Program} {n : Nat} {ρ : Know} {o : Oper} {K : Value → World → Prop} {w : World} {a : Act} (hf : Fits n ρ a) (h : dop P ρ o K w) : Upon P K ((execOp a.eval o).run P w) := by
  obtain ⟨dst, op, ty, pos, aft, gd⟩ := o
  cases op
  case move x => obtain ⟨v, hv, h⟩ := with1_some h; simpa [execOp, hf.ev hv, Upon] using h
  case assign x => obtain ⟨v, hv, h⟩ := with1_some h; simpa [execOp, hf.ev hv, Upon] using h
  case pick c x y =>
    obtain ⟨vc, hc, h1⟩ := with1_some h
    obtain ⟨vx, hx, h2⟩ := with1_some h1
    obtain ⟨vy, hy, t, ht, h3⟩ := with1_some h2
    have e : (execOp a.eval { dst := dst, op := .pick c x y, type := ty, pos := pos, after := aft, guard := gd }) = (do pure (.value (if ← asBool (a.eval c) then a.eval x else a.eval y))) := rfl
    rw [e, hf.ev hc, hf.ev hx, hf.ev hy, ht]
    cases t <;> exact h3
  case alloc t => obtain ⟨v, w', hr, h⟩ := h; simpa [execOp, hr, Upon] using h
  case box t x => obtain ⟨vx, hx, v, w', hr, h⟩ := with1_some h; simpa [execOp, hf.ev hx, hr, Upon] using h
  case build t ps =>
    obtain ⟨v, hr, h⟩ := withP_some hf h
    have e : (ps.map fun (i, x) => (i, a.eval x)) = (List.map (fun (i, x) => (i, a.eval x)) ps.toList).toArray := by rw [← Array.toList_map]
    simp only [execOp]
    rw [e]
    simpa [hr, Upon] using h
  case buildSlice t m ps =>
    obtain ⟨v, w', hr, h⟩ := withP_some hf h
    have e : (ps.map fun (i, x) => (i, a.eval x)) = (List.map (fun (i, x) => (i, a.eval x)) ps.toList).toArray := by rw [← Array.toList_map]
    simp only [execOp]
    rw [e]
    simpa [hr, Upon] using h
  case load t x => obtain ⟨vx, hx, v, hr, h⟩ := with1_some h; simpa [execOp, hf.ev hx, hr, Upon] using h
  case store t x y =>
    obtain ⟨vx, hx, h⟩ := with1_some h
    obtain ⟨vy, hy, v, w', hr, h⟩ := with1_some h
    simpa [execOp, hf.ev hx, hf.ev hy, hr, Upon] using h
  case nilCheck x =>
    obtain ⟨vx, hx, hn, h⟩ := with1_some h
    simp only [execOp, hf.ev hx]
    cases vx <;> simp only [nilOk] at hn
    case pointer p => cases p <;> simp_all [Upon]
    case func fn f c => cases fn <;> simp_all [Upon]
    case iface t v => simpa [Upon] using h
  case binOp op t x y yt =>
    obtain ⟨vx, hx, h⟩ := with1_some h
    obtain ⟨vy, hy, v, hr, h⟩ := with1_some h
    rw [eqGuard_opnd] at hr
    simp only [execOp, hf.ev hx, hf.ev hy]
    rw [Sem.run_bind, hr w]
    simpa [Upon] using h
  case unOp op t x => obtain ⟨vx, hx, v, hr, h⟩ := with1_some h; simpa [execOp, hf.ev hx, hr, Upon] using h
  case convert s d x => obtain ⟨vx, hx, v, w', hr, h⟩ := with1_some h; simpa [execOp, hf.ev hx, hr, Upon] using h
  case makeInterface t x => obtain ⟨vx, hx, v, hr, h⟩ := with1_some h; simpa [execOp, hf.ev hx, hr, Upon] using h
  case makeFunc fn f c =>
    have h := withL_some hf (withL_some hf h)
    have e1 : (List.map a.eval f.toList).toArray = f.map a.eval := by rw [← Array.toList_map]
    have e2 : (List.map a.eval c.toList).toArray = c.map a.eval := by rw [← Array.toList_map]
    rw [e1, e2] at h
    simpa [execOp, Instr.makeFunc, Upon] using h
  case makeMap t r => obtain ⟨v, w', hr, h⟩ := withO_some hf h; simpa [execOp, hr, Upon] using h
  case makeSlice t x y =>
    obtain ⟨vx, hx, h⟩ := with1_some h
    obtain ⟨vy, hy, v, w', hr, h⟩ := with1_some h
    simpa [execOp, hf.ev hx, hf.ev hy, hr, Upon] using h
  case slice t x lo hi mx =>
    obtain ⟨vx, hx, h⟩ := with1_some h
    obtain ⟨v, hr, h⟩ := withO_some hf (withO_some hf (withO_some hf h))
    simpa [execOp, hf.ev hx, hr, Upon] using h
  case fieldAddr s x f => obtain ⟨vx, hx, v, hr, h⟩ := with1_some h; simpa [execOp, hf.ev hx, hr, Upon] using h
  case field s x f => obtain ⟨vx, hx, v, hr, h⟩ := with1_some h; simpa [execOp, hf.ev hx, hr, Upon] using h
  case indexAddr t x y =>
    obtain ⟨vx, hx, h⟩ := with1_some h
    obtain ⟨vy, hy, v, hr, h⟩ := with1_some h
    simpa [execOp, hf.ev hx, hf.ev hy, hr, Upon] using h
  case index t x y =>
    obtain ⟨vx, hx, h⟩ := with1_some h
    obtain ⟨vy, hy, v, hr, h⟩ := with1_some h
    simpa [execOp, hf.ev hx, hf.ev hy, hr, Upon] using h
  case lookup t x y ok =>
    obtain ⟨vx, hx, h⟩ := with1_some h
    obtain ⟨vy, hy, v, hr, h⟩ := with1_some h
    simpa [execOp, hf.ev hx, hf.ev hy, hr, Upon] using h
  case mapUpdate t m k x =>
    obtain ⟨vx, hx, h⟩ := with1_some h
    obtain ⟨vy, hy, h⟩ := with1_some h
    obtain ⟨vz, hz, v, w', hr, h⟩ := with1_some h
    simpa [execOp, hf.ev hx, hf.ev hy, hf.ev hz, hr, Upon] using h
  case insert t m k x =>
    obtain ⟨vx, hx, h⟩ := with1_some h
    obtain ⟨vy, hy, h⟩ := with1_some h
    obtain ⟨vz, hz, v, w', hr, h⟩ := with1_some h
    simpa [execOp, hf.ev hx, hf.ev hy, hf.ev hz, hr, Upon] using h
  case mapEntry t m k =>
    obtain ⟨vx, hx, h⟩ := with1_some h
    obtain ⟨vy, hy, v, w', hr, h⟩ := with1_some h
    simpa [execOp, hf.ev hx, hf.ev hy, hr, Upon] using h
  case entryStore t m k x =>
    obtain ⟨vx, hx, h⟩ := with1_some h
    obtain ⟨vy, hy, h⟩ := with1_some h
    obtain ⟨vz, hz, v, w', hr, h⟩ := with1_some h
    simpa [execOp, hf.ev hx, hf.ev hy, hf.ev hz, hr, Upon] using h
  case range t x => obtain ⟨vx, hx, v, w', hr, h⟩ := with1_some h; simpa [execOp, hf.ev hx, hr, Upon] using h
  case next x s => obtain ⟨vx, hx, v, w', hr, h⟩ := with1_some h; simpa [execOp, hf.ev hx, hr, Upon] using h
  case entry x => obtain ⟨vx, hx, v, w', hr, h⟩ := with1_some h; simpa [execOp, hf.ev hx, hr, Upon] using h
  case typeAssert x t as ok => obtain ⟨vx, hx, v, hr, h⟩ := with1_some h; simpa [execOp, hf.ev hx, hr, Upon] using h
  case extract x i => obtain ⟨vx, hx, v, hr, h⟩ := with1_some h; simpa [execOp, hf.ev hx, hr, Upon] using h
  case call c =>
    obtain ⟨callee, args, ats⟩ := c
    cases callee with
    | builtin b =>
      have h := withL_some hf h
      have e : (List.map a.eval args.toList).toArray = args.map a.eval := by rw [← Array.toList_map]
      rw [e] at h
      have hx : (execOp a.eval { dst := dst, op := .call { callee := .builtin b, args := args, argTypes := ats }, type := ty, pos := pos, after := aft, guard := gd }) =
        builtin b ats ty (args.map fun | .const _ => true | _ => false) (args.map a.eval) := rfl
      rw [hx, ← csOf_eq]
      cases hb : clsB b <;> simp only [hb] at h
      · obtain ⟨x, hr, v, rfl, h⟩ := h; rw [hr w]; exact h
      · obtain ⟨x, hr, v, rfl, h⟩ := h; rw [hr]; exact h
      · obtain ⟨x, w', hr, v, rfl, h⟩ := h; rw [hr]; exact h
    | invoke r m =>
      obtain ⟨vr, hr, h⟩ := with1_some h
      have h := withL_some hf h
      have e : (List.map a.eval args.toList).toArray = args.map a.eval := by rw [← Array.toList_map]
      rw [e] at h
      have hx : (execOp a.eval { dst := dst, op := .call { callee := .invoke r m, args := args, argTypes := ats }, type := ty, pos := pos, after := aft, guard := gd }) =
        invoke (.fn (.method m) #[]) (#[a.eval r] ++ args.map a.eval) := rfl
      rw [hx, hf.ev hr]
      have e2 : (#[vr] ++ args.map a.eval).extract 1 (#[vr] ++ args.map a.eval).size = args.map a.eval := by
        apply Array.ext'
        simp only [Array.toList_extract, Array.size_append]
        simp
        exact List.take_of_length_le (by simp)
      have e3 : (#[vr] ++ args.map a.eval)[0]? = some vr := by rw [Array.getElem?_append_left (by simp)]; rfl
      unfold invoke
      rw [e3, e2]
      exact h
    | value f =>
      have e : (List.map a.eval args.toList).toArray = args.map a.eval := by rw [← Array.toList_map]
      cases f with
      | func f =>
        have h := withL_some hf h
        rw [e] at h
        simpa [execOp, resolve, invoke, Act.eval, Deferred.ofValue, CallF] using h
      | tmp t =>
        obtain ⟨vr, hr, h⟩ := with1_some h
        have h := withL_some hf h
        rw [e] at h
        simp only [execOp, resolve, hf.ev hr]
        exact h
      | const v => exact h.elim
      | global g => exact h.elim
  all_goals exact h.elim

theorem dop_pu {P : Program} {n : Nat} {ρ : Know} {o : Oper} {K : Value → World → Prop} {w : World} {a : Act} (hf : Fits n ρ a) (hc : cls o.op = .pu) (h : dop P ρ o K w) :
    ∃ v, (∀ w', (execOp a.eval o).run P w' = .ok (.value v) w') ∧ K v w := by
  obtain ⟨dst, op, ty, pos, aft, gd⟩ := o
  cases op <;> simp only [cls] at hc <;> try (cases hc; done)
  case move x => obtain ⟨v, hv, h⟩ := with1_some h; exact ⟨v, fun w' => by simp [execOp, hf.ev hv], h⟩
  case assign x => obtain ⟨v, hv, h⟩ := with1_some h; exact ⟨v, fun w' => by simp [execOp, hf.ev hv], h⟩
  case pick c x y =>
    obtain ⟨vc, hc, h1⟩ := with1_some h
    obtain ⟨vx, hx, h2⟩ := with1_some h1
    obtain ⟨vy, hy, t, ht, h3⟩ := with1_some h2
    have e : (execOp a.eval { dst := dst, op := .pick c x y, type := ty, pos := pos, after := aft, guard := gd }) = (do pure (.value (if ← asBool (a.eval c) then a.eval x else a.eval y))) := rfl
    refine ⟨_, fun w' => ?_, h3⟩
    rw [e, hf.ev hc, hf.ev hx, hf.ev hy, ht]
    cases t <;> rfl
  case build t ps =>
    obtain ⟨v, hr, h⟩ := withP_some hf h
    refine ⟨v, fun w' => ?_, h⟩
    have e : (ps.map fun (i, x) => (i, a.eval x)) = (List.map (fun (i, x) => (i, a.eval x)) ps.toList).toArray := by rw [← Array.toList_map]
    simp only [execOp]
    rw [e]
    simp [hr]
  case nilCheck x =>
    obtain ⟨vx, hx, hn, h⟩ := with1_some h
    refine ⟨vx, fun w' => ?_, h⟩
    simp only [execOp, hf.ev hx]
    cases vx <;> simp only [nilOk] at hn
    case pointer p => cases p <;> simp_all
    case func fn f c => cases fn <;> simp_all
    case iface t v => simp
  case binOp op t x y yt =>
    obtain ⟨vx, hx, h⟩ := with1_some h
    obtain ⟨vy, hy, v, hr, h⟩ := with1_some h
    rw [eqGuard_opnd] at hr
    refine ⟨v, fun w' => ?_, h⟩
    simp only [execOp, hf.ev hx, hf.ev hy]
    rw [Sem.run_bind, hr w']
    simp
  case unOp op t x => obtain ⟨vx, hx, v, hr, h⟩ := with1_some h; exact ⟨v, fun w' => by simp [execOp, hf.ev hx, hr], h⟩
  case makeInterface t x => obtain ⟨vx, hx, v, hr, h⟩ := with1_some h; exact ⟨v, fun w' => by simp [execOp, hf.ev hx, hr], h⟩
  case makeFunc fn f c =>
    have h := withL_some hf (withL_some hf h)
    have e1 : (List.map a.eval f.toList).toArray = f.map a.eval := by rw [← Array.toList_map]
    have e2 : (List.map a.eval c.toList).toArray = c.map a.eval := by rw [← Array.toList_map]
    rw [e1, e2] at h
    exact ⟨_, fun w' => by simp [execOp, Instr.makeFunc], h⟩
  case slice t x lo hi mx =>
    obtain ⟨vx, hx, h⟩ := with1_some h
    obtain ⟨v, hr, h⟩ := withO_some hf (withO_some hf (withO_some hf h))
    exact ⟨v, fun w' => by simp [execOp, hf.ev hx, hr], h⟩
  case fieldAddr s x f => obtain ⟨vx, hx, v, hr, h⟩ := with1_some h; exact ⟨v, fun w' => by simp [execOp, hf.ev hx, hr], h⟩
  case field s x f => obtain ⟨vx, hx, v, hr, h⟩ := with1_some h; exact ⟨v, fun w' => by simp [execOp, hf.ev hx, hr], h⟩
  case indexAddr t x y =>
    obtain ⟨vx, hx, h⟩ := with1_some h
    obtain ⟨vy, hy, v, hr, h⟩ := with1_some h
    exact ⟨v, fun w' => by simp [execOp, hf.ev hx, hf.ev hy, hr], h⟩
  case index t x y =>
    obtain ⟨vx, hx, h⟩ := with1_some h
    obtain ⟨vy, hy, v, hr, h⟩ := with1_some h
    exact ⟨v, fun w' => by simp [execOp, hf.ev hx, hf.ev hy, hr], h⟩
  case extract x i => obtain ⟨vx, hx, v, hr, h⟩ := with1_some h; exact ⟨v, fun w' => by simp [execOp, hf.ev hx, hr], h⟩
  case call c =>
    obtain ⟨callee, args, ats⟩ := c
    cases callee <;> try (cases hc; done)
    case builtin b =>
      have h := withL_some hf h
      have e : (List.map a.eval args.toList).toArray = args.map a.eval := by rw [← Array.toList_map]
      rw [e] at h
      simp only [hc] at h
      obtain ⟨x, hr, v, rfl, h⟩ := h
      rw [csOf_eq] at hr
      exact ⟨v, hr, h⟩

theorem dop_rd {P : Program} {n : Nat} {ρ : Know} {o : Oper} {K : Value → World → Prop} {w : World} {a : Act} (hf : Fits n ρ a) (hc : cls o.op = .rd) (h : dop P ρ o K w) :
    ∃ v, (execOp a.eval o).run P w = .ok (.value v) w ∧ K v w := by
  obtain ⟨dst, op, ty, pos, aft, gd⟩ := o
  cases op <;> simp only [cls] at hc <;> try (cases hc; done)
  case load t x => obtain ⟨vx, hx, v, hr, h⟩ := with1_some h; exact ⟨v, by simp [execOp, hf.ev hx, hr], h⟩
  case lookup t x y ok =>
    obtain ⟨vx, hx, h⟩ := with1_some h
    obtain ⟨vy, hy, v, hr, h⟩ := with1_some h
    exact ⟨v, by simp [execOp, hf.ev hx, hf.ev hy, hr], h⟩
  case typeAssert x t as ok => obtain ⟨vx, hx, v, hr, h⟩ := with1_some h; exact ⟨v, by simp [execOp, hf.ev hx, hr], h⟩
  case call c =>
    obtain ⟨callee, args, ats⟩ := c
    cases callee <;> try (cases hc; done)
    case builtin b =>
      have h := withL_some hf h
      have e : (List.map a.eval args.toList).toArray = args.map a.eval := by rw [← Array.toList_map]
      rw [e] at h
      simp only [hc] at h
      obtain ⟨x, hr, v, rfl, h⟩ := h
      rw [csOf_eq] at hr
      exact ⟨v, hr, h⟩

/-- a read reads the same in another world -/
def again (P : Program) (ρ : Know) (o : Oper) (v : Value) (w : World) : Prop :=
  match o.op with
  | .load t a => with1 ρ a fun a => (Instr.loadAt t a).run P w = .ok v w
  | .lookup t x i ok => with1 ρ x fun x => with1 ρ i fun i => (Instr.lookup t x i ok).run P w = .ok v w
  | .typeAssert x t as ok => with1 ρ x fun x => (Instr.typeAssert x t as ok).run P w = .ok v w
  | .convert s d x => with1 ρ x fun x => (convert s d x).run P w = .ok v w
  | .call { callee := .builtin b, args, argTypes } => withL ρ args.toList fun vs =>
      (builtin b argTypes o.type (csOf args) vs.toArray).run P w = .ok (.value v) w
  | _ => False

theorem again_run {P : Program} {n : Nat} {ρ : Know} {o : Oper} {v : Value} {w : World} {a : Act} (hf : Fits n ρ a) (h : again P ρ o v w) :
    (execOp a.eval o).run P w = .ok (.value v) w := by
  obtain ⟨dst, op, ty, pos, aft, gd⟩ := o
  cases op <;> try (exact h.elim)
  case load t x => obtain ⟨vx, hx, hr⟩ := with1_some h; simp [execOp, hf.ev hx, hr]
  case lookup t x y ok =>
    obtain ⟨vx, hx, h⟩ := with1_some h
    obtain ⟨vy, hy, hr⟩ := with1_some h
    simp [execOp, hf.ev hx, hf.ev hy, hr]
  case typeAssert x t as ok => obtain ⟨vx, hx, hr⟩ := with1_some h; simp [execOp, hf.ev hx, hr]
  case convert s d x => obtain ⟨vx, hx, hr⟩ := with1_some h; simp [execOp, hf.ev hx, hr]
  case call c =>
    obtain ⟨callee, args, ats⟩ := c
    cases callee <;> try (exact h.elim)
    case builtin b =>
      have h := withL_some hf h
      have e : (List.map a.eval args.toList).toArray = args.map a.eval := by rw [← Array.toList_map]
      rw [e, csOf_eq] at h
      exact h

/-! ### guards, regions in the text's order -/
def DecOk (D : Dec) (a : Act) : Prop := ∀ x ∈ D, match x.2 with
  | some b => a.tmps[x.1]? = some (.bool b)
  | none => ∀ b, a.tmps[x.1]? ≠ some (.bool b)

theorem dec?_mem : ∀ {D : Dec} {d : Nat} {r : Option Bool}, dec? D d = some r → (d, r) ∈ D
  | [], _, _, h => by cases h
  | (e, q) :: D, d, r, h => by
    simp only [dec?] at h
    cases hb : Nat.beq e d with
    | true =>
      rw [hb] at h
      have h1 := Nat.eq_of_beq_eq_true hb
      simp only [cond_true, Option.some.injEq] at h
      subst h1; subst h
      exact List.mem_cons_self ..
    | false =>
      rw [hb] at h
      exact List.mem_cons_of_mem _ (dec?_mem h)

theorem DecOk.put {D : Dec} {a : Act} (h : DecOk D a) (dst : Option Tmp) (v : Value) : DecOk (undec D dst) (a.put dst v) := by
  cases dst with
  | none => exact h
  | some d =>
    intro x hx
    simp only [undec, List.mem_filter] at hx
    have hne : x.1 ≠ d := fun e => by
      have := hx.2
      rw [e, Nat.beq_refl] at this
      cases this
    have := h x hx.1
    unfold Act.put
    simp only []
    rw [Array.getElem?_setIfInBounds_ne (Ne.symm hne)]
    exact this

theorem DecOk.eval {D : Dec} {a : Act} (h : DecOk D a) {x : Operand} {r : Option Bool} (hx : decOf D x = some r) : match r with
    | some b => a.eval x = .bool b
    | none => ∀ b, a.eval x ≠ .bool b := by
  cases x with
  | tmp t =>
    have := h _ (dec?_mem hx)
    simp only at this
    cases r with
    | some b => simp only [Act.eval, Array.getD_eq_getD_getElem?, this, Option.getD_some]
    | none =>
      intro b hb
      simp only [Act.eval, Array.getD_eq_getD_getElem?] at hb
      cases ht : a.tmps[t]? with
      | none => rw [ht] at hb; cases hb
      | some u => rw [ht] at hb; simp only [Option.getD_some] at hb; exact this b (by rw [ht, hb])
  | const u =>
    cases u with
    | bool b =>
      simp only [decOf, Option.some.injEq] at hx
      subst hx
      rfl
    | _ => cases hx
  | global g => cases hx
  | func f => cases hx

theorem simple_run {P : Program} {D : Dec} {o : Oper} {a : Act} {y : Operand} (hD : DecOk D a) (h : simple D o.op = some y) (w : World) : (execOp a.eval o).run P w = .ok (.value (a.eval y)) w := by
  obtain ⟨dst, op, ty, pos, aft, gd⟩ := o
  cases op <;> try (cases h; done)
  case move x => cases h; simp [execOp]
  case assign x => cases h; simp [execOp]
  case pick c x z =>
    simp only [simple] at h
    cases hc : decOf D c with
    | none => rw [hc] at h; cases h
    | some r =>
      cases r with
      | none => rw [hc] at h; cases h
      | some t =>
        rw [hc] at h
        cases h
        have e := hD.eval hc
        simp only at e
        have e2 : (execOp a.eval { dst := dst, op := .pick c x z, type := ty, pos := pos, after := aft, guard := gd }) = (do pure (.value (if ← asBool (a.eval c) then a.eval x else a.eval z))) := rfl
        rw [e2, e]
        cases t <;> rfl

theorem dopD_upon {P : Program} {n : Nat} {ρ : Know} {D : Dec} {o : Oper} {K : Value → World → Prop} {w : World} {a : Act} (hf : Fits n ρ a) (hD : DecOk D a) (h : dopD P ρ D o K w) :
    Upon P (fun v w' => K v w' ∧ ∀ y, simple D o.op = some y → v = a.eval y) ((execOp a.eval o).run P w) := by
  unfold dopD at h
  cases hs : simple D o.op with
  | some y =>
    rw [hs] at h
    obtain ⟨v, hv, h⟩ := with1_some h
    rw [simple_run hD hs, hf.ev hv]
    exact ⟨h, fun y' hy => by cases hy; exact (hf.ev hv).symm⟩
  | none =>
    rw [hs] at h
    exact Upon_mono (fun v w' hk => ⟨hk, fun y hy => by cases hy⟩) (dop_upon hf h)

theorem dopD_pu {P : Program} {n : Nat} {ρ : Know} {D : Dec} {o : Oper} {K : Value → World → Prop} {w : World} {a : Act} (hf : Fits n ρ a) (hD : DecOk D a) (hc : cls o.op = .pu) (h : dopD P ρ D o K w) :
    ∃ v, (∀ w', (execOp a.eval o).run P w' = .ok (.value v) w') ∧ K v w ∧ ∀ y, simple D o.op = some y → v = a.eval y := by
  unfold dopD at h
  cases hs : simple D o.op with
  | some y =>
    rw [hs] at h
    obtain ⟨v, hv, h⟩ := with1_some h
    exact ⟨v, fun w' => by rw [simple_run hD hs, hf.ev hv], h, fun y' hy => by cases hy; exact (hf.ev hv).symm⟩
  | none =>
    rw [hs] at h
    obtain ⟨v, h1, h2⟩ := dop_pu hf hc h
    exact ⟨v, h1, h2, fun y hy => by cases hy⟩

theorem DecOk.do' {n : Nat} {ρ : Know} {D : Dec} {a : Act} {o : Oper} {v : Value} (hf : Fits n ρ a) (hn : ∀ d, o.dst = some d → d < n) (h : DecOk D a) (hv : ∀ y, simple D o.op = some y → v = a.eval y) : DecOk (decDo D o) (a.put o.dst v) := by
  unfold decDo
  cases hd : o.dst with
  | none => exact h
  | some d =>
    have h0 := h.put (some d) v
    simp only []
    cases hs : (simple D o.op).bind (decOf D) with
    | none => exact h0
    | some r =>
      cases hy : simple D o.op with
      | none => rw [hy] at hs; cases hs
      | some y =>
        rw [hy] at hs
        have e := h.eval (x := y) hs
        rw [← hv y hy] at e
        intro x hx
        cases hx with
        | tail _ hm => exact h0 x hm
        | head =>
          have hlt : d < a.tmps.size := by rw [hf.size]; exact hn d hd
          have hg : (a.put (some d) v).tmps[d]? = some v := by
            unfold Act.put
            simp [hlt]
          simp only []
          cases r with
          | some b => simp only [] at e ⊢; rw [hg, e]
          | none => simp only [] at e ⊢; intro b hb; rw [hg] at hb; exact e b (Option.some.inj hb)

theorem DecOk.skip' {n : Nat} {ρ : Know} {D : Dec} {a : Act} {o : Oper} (hf : Fits n ρ a) (hn : ∀ d, o.dst = some d → d < n) (h : DecOk D a) : DecOk (decSkip D o) (a.put o.dst undef) := by
  unfold decSkip
  cases hd : o.dst with
  | none => exact h
  | some d =>
    have h0 := h.put (some d) undef
    intro x hx
    cases hx with
    | tail _ hm => exact h0 x hm
    | head =>
      have hlt : d < a.tmps.size := by rw [hf.size]; exact hn d hd
      have hg : (a.put (some d) undef).tmps[d]? = some undef := by
        unfold Act.put
        simp [hlt]
      simp only []
      intro b hb
      rw [hg] at hb
      cases hb

theorem gate_spec {n : Nat} {ops : Array Oper} {ρ : Know} {D : Dec} {o : Oper} {A B : Dec → Prop} {a : Act} (hf : Fits n ρ a) (hD : DecOk D a) (h : gate ops ρ D o A B) :
    ∃ D', DecOk D' a ∧ ((Region.wanted o (yielded ops a.tmps) = true ∧ A D') ∨ (Region.wanted o (yielded ops a.tmps) = false ∧ B D')) := by
  unfold gate at h
  cases hg : o.guard with
  | none => simp only [hg] at h; exact ⟨D, hD, .inl ⟨by simp [Region.wanted, hg], h⟩⟩
  | some g =>
    obtain ⟨j, want⟩ := g
    simp only [hg] at h
    cases hd : (ops[j]?).bind (·.dst) with
    | none => simp [hd] at h
    | some d =>
      simp only [hd] at h
      have hw : Region.wanted o (yielded ops a.tmps) = ((match a.tmps[d]? with | some (.bool b) => some b | _ => none) == some want) := by
        simp only [Region.wanted, hg, yielded, hd, Option.bind_some]
        rfl
      rw [hw]
      cases hq : dec? D d with
      | some r =>
        have := hD _ (dec?_mem hq)
        simp only [hq] at h
        cases r with
        | some b =>
          simp only [] at this h
          rw [this]
          cases hb : (b == want) with
          | true => rw [hb] at h; exact ⟨D, hD, .inl ⟨by simpa using hb, h⟩⟩
          | false => rw [hb] at h; exact ⟨D, hD, .inr ⟨by simpa using hb, h⟩⟩
        | none =>
          simp only [] at this h
          refine ⟨D, hD, .inr ⟨?_, h⟩⟩
          split
          · rename_i b hb; exact absurd hb (this b)
          · rfl
      | none =>
        simp only [hq] at h
        cases hv : ρ d with
        | none => simp [hv] at h
        | some v =>
          simp only [hv] at h
          obtain ⟨b, rfl, h1, h2⟩ := h
          have hs := hf.slot d _ hv
          rw [Array.getD_eq_getD_getElem?] at hs
          have ht : a.tmps[d]? = some (.bool b) := by
            cases hx : a.tmps[d]? with
            | none => rw [hx] at hs; cases hs
            | some x => rw [hx] at hs; exact congrArg some hs
          have hD' : DecOk ((d, some b) :: D) a := fun x hx => by
            cases hx with
            | head => exact ht
            | tail _ hm => exact hD x hm
          rw [ht]
          by_cases e : b = want
          · subst e
            exact ⟨_, hD', .inl ⟨by simp, h1 rfl⟩⟩
          · have e' : b = !want := by cases b <;> cases want <;> simp_all
            subst e'
            exact ⟨_, hD', .inr ⟨by cases want <;> rfl, h2 rfl⟩⟩

def Agree (ws : List Nat) (ρ ρ' : Know) : Prop := ∀ t, ws.elem t = false → ρ' t = ρ t
theorem Agree.refl (ws : List Nat) (ρ : Know) : Agree ws ρ ρ := fun _ _ => rfl
theorem Agree.trans {ws : List Nat} {a b c : Know} (h : Agree ws a b) (k : Agree ws b c) : Agree ws a c := fun t ht => (k t ht).trans (h t ht)
theorem Agree.mono {ws ws' : List Nat} {a b : Know} (h : Agree ws a b) (hs : ∀ t, ws.elem t = true → ws'.elem t = true) : Agree ws' a b := fun t ht => h t (by
  cases e : ws.elem t with
  | false => rfl
  | true => rw [hs t e] at ht; cases ht)
theorem Agree.upd {ws : List Nat} {d : Nat} (hd : ws.elem d = true) (ρ : Know) (v : Value) : Agree ws ρ (upd ρ d v) := by
  intro t ht
  unfold Vv.upd
  have : Nat.beq t d = false := by
    rw [Bool.eq_false_iff]; intro hb; rw [Nat.eq_of_beq_eq_true hb, hd] at ht; cases ht
  rw [this]; rfl
theorem Agree.fgt {ws : List Nat} (ρ : Know) : Agree ws ρ (fgt ρ ws) := by
  intro t ht
  unfold Vv.fgt
  rw [ht]; rfl
theorem elem_append {t : Nat} {a b : List Nat} : (a ++ b).elem t = (a.elem t || b.elem t) := by
  rw [Bool.eq_iff_iff]; simp

/-- the slots that operations write -/
def dsts : List Oper → List Nat
  | [] => []
  | o :: r => (match o.dst with | some d => [d] | none => []) ++ dsts r

theorem dput_spec {n : Nat} {ρ : Know} {a : Act} {dst : Option Tmp} {v : Value} {k : Know → Prop} (hf : Fits n ρ a) (h : dput n ρ dst v k) :
    ∃ ρ', Fits n ρ' (a.put dst v) ∧ k ρ' ∧ ∀ ws : List Nat, (∀ d, dst = some d → ws.elem d = true) → Agree ws ρ ρ' := by
  cases dst with
  | none => exact ⟨ρ, hf, h, fun ws _ => Agree.refl ws ρ⟩
  | some d =>
    simp only [dput] at h
    cases hb : Nat.blt d n with
    | false => simp [hb] at h
    | true =>
      simp only [hb, cond_true] at h
      exact ⟨_, hf.upd (Nat.blt_eq.mp hb) v, h, fun ws hw => Agree.upd (hw d rfl) ρ v⟩

theorem dput_lt {n : Nat} {ρ : Know} {dst : Option Tmp} {v : Value} {k : Know → Prop} (h : dput n ρ dst v k) : ∀ d, dst = some d → d < n := by
  intro d hd
  subst hd
  simp only [dput] at h
  cases hb : Nat.blt d n with
  | false => simp [hb] at h
  | true => exact Nat.blt_eq.mp hb

theorem dops_sound {P : Program} {n : Nat} {ops : Array Oper} {Q : Know → World → Prop} {Q' : Exit → Act → World → Prop} (ws : List Nat) : ∀ (l : List Oper) (D : Dec) (ρ : Know) (a : Act) (w : World),
    (∀ o ∈ l, ∀ d, o.dst = some d → ws.elem d = true) →
    (∀ ρ' a' w', Agree ws ρ ρ' → Fits n ρ' a' → Q ρ' w' → Q' .normal a' w') → Fits n ρ a → DecOk D a → dops P n ops Q l D ρ w → wpList P ops Q' l a w
  | [], _, ρ, a, w, _, hQ, hf, _, h => hQ ρ a w (Agree.refl ws ρ) hf h
  | o :: r, D, ρ, a, w, hws, hQ, hf, hD, h => by
    unfold wpList
    obtain ⟨D', hD', h⟩ := gate_spec hf hD h
    rcases h with ⟨hw, h⟩ | ⟨hw, h⟩
    · rw [if_pos hw]
      refine .inl (wp_of_Upon (dopD_upon hf hD' h) fun v w' ⟨hd, hv⟩ => ?_)
      obtain ⟨ρ', hf', hk, hag⟩ := dput_spec hf hd
      have hA := hag ws (hws o (List.mem_cons_self ..))
      exact dops_sound ws r _ ρ' _ w' (fun o ho => hws o (List.mem_cons_of_mem _ ho)) (fun ρ'' a' w' h1 h2 h3 => hQ ρ'' a' w' (hA.trans h1) h2 h3) hf' (hD'.do' hf (dput_lt hd) hv) hk
    · rw [if_neg (by rw [hw]; exact Bool.false_ne_true)]
      obtain ⟨ρ', hf', hk, hag⟩ := dput_spec hf h
      have hA := hag ws (hws o (List.mem_cons_self ..))
      exact dops_sound ws r _ ρ' _ w (fun o ho => hws o (List.mem_cons_of_mem _ ho)) (fun ρ'' a' w' h1 h2 h3 => hQ ρ'' a' w' (hA.trans h1) h2 h3) hf' (hD'.skip' hf (dput_lt h)) hk

/-! ### drawn regions -/
/-- the order in which a drawn region is gone through; where two loud operations may come up, both ways -/
inductive Plan where
  | nil
  | step (i : Nat) (r : Plan)
  | fork (i : Nat) (p : Plan) (j : Nat) (q : Plan)
def Plan.depth : Plan → Nat
  | .nil => 0
  | .step _ r => r.depth + 1
  | .fork _ p _ q => (bif Nat.ble p.depth q.depth then q.depth else p.depth) + 1
theorem Plan.fork_le (i j : Nat) (p q : Plan) : p.depth + 1 ≤ (Plan.fork i p j q).depth ∧ q.depth + 1 ≤ (Plan.fork i p j q).depth := by
  simp only [Plan.depth]
  cases h : Nat.ble p.depth q.depth with
  | true => have := Nat.le_of_ble_eq_true h; simp only [cond_true]; omega
  | false => have : ¬ p.depth ≤ q.depth := fun e => by rw [Nat.ble_eq_true_of_le e] at h; cases h
             simp only [cond_false]; omega

/-- the class in a drawn region: of the conversions that are named, a read -/
def clsAt (rds : List Nat) (i : Nat) (o : Oper) : Cls := bif rds.elem i then .rd else cls o.op
def isDx (rds : List Nat) (i : Nat) (o : Oper) : Bool := match clsAt rds i o with | .dx => true | _ => false
def dopR (P : Program) (ov : Bool) (ρ : Know) (o : Oper) (K : Value → World → Prop) (w : World) : Prop :=
  bif ov then (match o.op with
    | .convert s d x => with1 ρ x fun x => Rd P (convert s d x) w fun v => K v w
    | _ => False) else dop P ρ o K w

theorem dopR_rd {P : Program} {n : Nat} {rds : List Nat} {i : Nat} {ρ : Know} {o : Oper} {K : Value → World → Prop} {w : World} {a : Act} (hf : Fits n ρ a) (hc : clsAt rds i o = .rd) (h : dopR P (rds.elem i) ρ o K w) :
    ∃ v, (execOp a.eval o).run P w = .ok (.value v) w ∧ K v w := by
  unfold dopR at h
  unfold clsAt at hc
  cases he : rds.elem i with
  | false => rw [he] at h hc; exact dop_rd hf hc h
  | true =>
    rw [he] at h
    obtain ⟨dst, op, ty, pos, aft, gd⟩ := o
    cases op <;> try (exact h.elim)
    case convert s d x => obtain ⟨vx, hx, v, hr, h⟩ := with1_some h; exact ⟨v, by simp [execOp, hf.ev hx, hr], h⟩

/-- the plan can be gone through: each operation may come up in its turn, a loud one when nothing else may -/
def planOk (ops : Array Oper) (rds : List Nat) : Plan → Array Bool → Bool
  | .nil, listed => (Region.ready .any ops listed).isEmpty
  | .step i r, listed => (match ops[i]? with
    | none => false
    | some o => (bif isDx rds i o then Region.ready .any ops listed == [i] else (Region.ready .any ops listed).contains i && Region.free .any ops listed i)) && planOk ops rds r (listed.setIfInBounds i true)
  | .fork i p j q, listed => (Region.ready .any ops listed == [i, j]) && (match ops[i]?, ops[j]? with
    | some oi, some oj => isDx rds i oi && isDx rds j oj
    | _, _ => false) && planOk ops rds p (listed.setIfInBounds i true) && planOk ops rds q (listed.setIfInBounds j true)
def waitsOk (ops : Array Oper) (Ds : List (List Nat)) : Bool := (List.range ops.size).all fun j => waitsB .any ops j (Ds.getD j [])
def drawOk (ops : Array Oper) (Ds : List (List Nat)) (rds : List Nat) (plan : Plan) : Bool :=
  Region.noSelect ops && waitsOk ops Ds && Nat.ble plan.depth ops.size && planOk ops rds plan (Array.replicate ops.size false)

/-- what was read ahead of a loud operation, and may be read behind it, reads the same behind it -/
def still (D : List Nat) : List (Nat × (World → Prop)) → World → (Prop → Prop)
  | [], _, A => A
  | (q, S) :: r, w, A => bif D.elem q then still D r w A else S w ∧ still D r w A

abbrev Reads := List (Nat × (World → Prop))
def dstep (P : Program) (n : Nat) (ops : Array Oper) (Ds : List (List Nat)) (rds : List Nat) (i : Nat) (o : Oper) (T : Reads) (D : Dec) (ρ : Know) (w : World) (K : Reads → Dec → Know → World → Prop) : Prop :=
  match clsAt rds i o with
  | .pu => gate ops ρ D o (fun D' => dopD P ρ D' o (fun v w' => dput n ρ o.dst v fun ρ' => K T (decDo D' o) ρ' w') w) (fun D' => dput n ρ o.dst undef fun ρ' => K T (decSkip D' o) ρ' w)
  | .rd => gate ops ρ D o (fun D' => dopR P (rds.elem i) ρ o (fun v w' => dput n ρ o.dst v fun ρ' => K ((i, again P ρ o v) :: T) (undec D' o.dst) ρ' w') w) (fun D' => dput n ρ o.dst undef fun ρ' => K T (decSkip D' o) ρ' w)
  | .dx => gate ops ρ D o (fun D' => dopD P ρ D' o (fun v w' => still (Ds.getD i []) T w' (dput n ρ o.dst v fun ρ' => K T (decDo D' o) ρ' w')) w)
      (fun D' => still (Ds.getD i []) T w (dput n ρ o.dst undef fun ρ' => K T (decSkip D' o) ρ' w))

def dplan (P : Program) (n : Nat) (ops : Array Oper) (Ds : List (List Nat)) (rds : List Nat) (Q : Know → World → Prop) : Plan → Reads → Dec → Know → World → Prop
  | .nil, _, _, ρ, w => Q ρ w
  | .step i r, T, D, ρ, w => match ops[i]? with
    | none => False
    | some o => dstep P n ops Ds rds i o T D ρ w fun T' D' ρ' w' => dplan P n ops Ds rds Q r T' D' ρ' w'
  | .fork i p j q, T, D, ρ, w => match ops[i]?, ops[j]? with
    | some oi, some oj => (dstep P n ops Ds rds i oi T D ρ w fun T' D' ρ' w' => dplan P n ops Ds rds Q p T' D' ρ' w') ∧
        (dstep P n ops Ds rds j oj T D ρ w fun T' D' ρ' w' => dplan P n ops Ds rds Q q T' D' ρ' w')
    | _, _ => False

/-- the same, as a list of conditions -/
def stillL (D : List Nat) : Reads → World → Prop
  | [], _ => True
  | (q, S) :: r, w => (D.elem q = false → S w) ∧ stillL D r w

theorem still_spec {D : List Nat} : ∀ {T : Reads} {w : World} {A : Prop}, still D T w A → stillL D T w ∧ A
  | [], _, _, h => ⟨trivial, h⟩
  | (q, S) :: r, w, A, h => by
    simp only [still] at h
    cases hd : D.elem q with
    | true => rw [hd] at h; have := still_spec (T := r) h; exact ⟨⟨fun e => (by rw [hd] at e; cases e), this.1⟩, this.2⟩
    | false => rw [hd] at h; have := still_spec (T := r) h.2; exact ⟨⟨fun _ => h.1, this.1⟩, this.2⟩

/-- what is asked of the worlds ahead of and behind an operation -/
def BT (ops : Array Oper) (Ds : List (List Nat)) (rds : List Nat) (T : Reads) (k : Nat) (w w' : World) : Prop :=
  match ops[k]? with
  | none => True
  | some o => if isDx rds k o = true then stillL (Ds.getD k []) T w' else w' = w

section
variable {P : Program} {n : Nat} {ops : Array Oper} {Ds : List (List Nat)} {rds : List Nat} {Q : Know → World → Prop} {Q' : Exit → Act → World → Prop} {ws : List Nat}

/-- what holds of a plan that is gone through -/
def PlanGood (P : Program) (n : Nat) (ops : Array Oper) (Ds : List (List Nat)) (rds : List Nat) (Q : Know → World → Prop) (Q' : Exit → Act → World → Prop) (ws : List Nat) (plan : Plan) : Prop :=
    ∀ (fuel : Nat) (listed : Array Bool) (T T' : Reads) (D : Dec) (ρ : Know) (a : Act) (w : World),
    plan.depth ≤ fuel → planOk ops rds plan listed = true → Closed .any ops listed → (∀ D w, stillL D T w → stillL D T' w) →
    (∀ ρ' a' w', Agree ws ρ ρ' → Fits n ρ' a' → Q ρ' w' → Q' .normal a' w') → Fits n ρ a → DecOk D a → dplan P n ops Ds rds Q plan T D ρ w → wpAnyB P .any ops Q' (BT ops Ds rds T') fuel listed a w

theorem dx_step {i : Nat} {o : Oper} {r : Plan} (ih : PlanGood P n ops Ds rds Q Q' ws r) (hws : ∀ o ∈ ops.toList, ∀ d, o.dst = some d → ws.elem d = true)
    {f : Nat} {listed : Array Bool} {T T' : Reads} {D : Dec} {ρ : Know} {a : Act} {w : World}
    (hfu : r.depth ≤ f) (hok : planOk ops rds r (listed.setIfInBounds i true) = true) (hcl : Closed .any ops listed) (hT : ∀ D w, stillL D T w → stillL D T' w)
    (hQ : ∀ ρ' a' w', Agree ws ρ ρ' → Fits n ρ' a' → Q ρ' w' → Q' .normal a' w') (hf : Fits n ρ a) (hD : DecOk D a) (hi : ops[i]? = some o) (hdx : isDx rds i o = true) (hr : i ∈ Region.ready .any ops listed)
    (h : dstep P n ops Ds rds i o T D ρ w fun T' D' ρ' w' => dplan P n ops Ds rds Q r T' D' ρ' w') :
    wpOp P ops Q' i (fun a' w' => BT ops Ds rds T' i w w' ∧ wpAnyB P .any ops Q' (BT ops Ds rds T') f (listed.setIfInBounds i true) a' w') a w := by
  have hom : o ∈ ops.toList := by simpa using Array.mem_of_getElem? hi
  have hwo := hws o hom
  have hc : clsAt rds i o = .dx := by
    unfold isDx at hdx
    split at hdx
    · assumption
    · cases hdx
  unfold dstep at h
  simp only [hc] at h
  have hB : ∀ w w', stillL (Ds.getD i []) T w' → BT ops Ds rds T' i w w' := fun w w' hs => by
    unfold BT
    simp only [hi, hdx, if_true]
    exact hT _ _ hs
  unfold wpOp
  simp only [hi]
  obtain ⟨D', hD', h⟩ := gate_spec hf hD h
  rcases h with ⟨hw, h⟩ | ⟨hw, h⟩
  · rw [if_pos hw]
    refine .inl (wp_of_Upon (dopD_upon hf hD' h) fun v w' ⟨hd, hv⟩ => ?_)
    obtain ⟨h1, h2⟩ := still_spec hd
    obtain ⟨ρ', hf', hk, hag⟩ := dput_spec hf h2
    exact ⟨hB w w' h1, ih f (listed.setIfInBounds i true) T T' _ ρ' _ w' hfu hok (hcl.step hr) hT (fun ρ'' a' w' q1 q2 q3 => hQ ρ'' a' w' ((hag ws hwo).trans q1) q2 q3) hf' (hD'.do' hf (dput_lt h2) hv) hk⟩
  · rw [if_neg (by rw [hw]; exact Bool.false_ne_true)]
    obtain ⟨h1, h2⟩ := still_spec h
    obtain ⟨ρ', hf', hk, hag⟩ := dput_spec hf h2
    exact ⟨hB w w h1, ih f (listed.setIfInBounds i true) T T' _ ρ' _ w hfu hok (hcl.step hr) hT (fun ρ'' a' w' q1 q2 q3 => hQ ρ'' a' w' ((hag ws hwo).trans q1) q2 q3) hf' (hD'.skip' hf (dput_lt h2)) hk⟩

theorem dplan_sound (hpan : ∀ c a w, ¬ Q' (.panic c) a w) (hsel : Region.noSelect ops = true) (hwt : waitsOk ops Ds = true) (hws : ∀ o ∈ ops.toList, ∀ d, o.dst = some d → ws.elem d = true) :
    ∀ (plan : Plan), PlanGood P n ops Ds rds Q Q' ws plan := by
  intro plan
  induction plan with
  | nil =>
    intro fuel listed T T' D ρ a w hfu hok hcl hT hQ hf hD h
    simp only [planOk, List.isEmpty_iff] at hok
    have hq := hQ ρ a w (Agree.refl ws ρ) hf h
    cases fuel with
    | zero => exact ⟨hok, hq⟩
    | succ f => exact ⟨fun _ => hq, by rw [hok]; simp⟩
  | fork i p j q ihp ihq =>
    intro fuel listed T T' D ρ a w hfu hok hcl hT hQ hf hD h
    have hle := Plan.fork_le i j p q
    obtain ⟨f, rfl⟩ : ∃ f, fuel = f + 1 := ⟨fuel - 1, by omega⟩
    simp only [planOk, Bool.and_eq_true] at hok
    obtain ⟨⟨⟨hok1, hok2⟩, hok3⟩, hok4⟩ := hok
    have hrd : Region.ready .any ops listed = [i, j] := by simpa using hok1
    cases hi : ops[i]? with
    | none => simp [hi] at hok2
    | some oi =>
    cases hj : ops[j]? with
    | none => simp [hi, hj] at hok2
    | some oj =>
    simp only [hi, hj, Bool.and_eq_true] at hok2
    simp only [dplan, hi, hj] at h
    refine ⟨fun h0 => (by rw [h0] at hrd; cases hrd), fun k hk => ?_⟩
    rw [hrd] at hk
    simp only [List.mem_cons, List.not_mem_nil, or_false] at hk
    rcases hk with rfl | rfl
    · exact dx_step ihp hws (by omega) hok3 hcl hT hQ hf hD hi hok2.1 (by rw [hrd]; simp) h.1
    · exact dx_step ihq hws (by omega) hok4 hcl hT hQ hf hD hj hok2.2 (by rw [hrd]; simp) h.2
  | step i r ih =>
    intro fuel listed T T' D ρ a w hfu hok hcl hT hQ hf hD h
    simp only [Plan.depth] at hfu
    obtain ⟨f, rfl⟩ : ∃ f, fuel = f + 1 := ⟨fuel - 1, by omega⟩
    have hfu' : r.depth ≤ f := by omega
    simp only [planOk, Bool.and_eq_true] at hok
    obtain ⟨hok1, hok2⟩ := hok
    cases hi : ops[i]? with
    | none => simp [hi] at hok1
    | some o =>
      simp only [hi] at hok1
      simp only [dplan, hi] at h
      have hom : o ∈ ops.toList := by simpa using Array.mem_of_getElem? hi
      have hwo := hws o hom
      -- the quiet ones
      have quiet : isDx rds i o = false → ∀ (S : World → Prop) (v : Value) (T1 T1' : Reads),
          (∀ D w, stillL D T1 w → stillL D T1' w) → (∀ D w, stillL D T1' w → stillL D T' w) → (∀ D w, D.elem i = false → stillL D T1' w → S w) →
          YieldsIf P ops S o v a → S w → ∀ D', DecOk D' (a.put o.dst v) → (dput n ρ o.dst v fun ρ' => dplan P n ops Ds rds Q r T1 D' ρ' w) → wpAnyB P .any ops Q' (BT ops Ds rds T') (f + 1) listed a w := by
        intro hdx S v T1 T1' h1 h2 h3 hy hS D' hD' hd
        rw [hdx] at hok1
        simp only [cond_false, Bool.and_eq_true] at hok1
        have hr : i ∈ Region.ready .any ops listed := by simpa using hok1.1
        refine wpAnyB_mono (B := BT ops Ds rds T1') ?_ _ _ _ _ ?_
        · intro k w w' hb
          unfold BT at *
          cases hk : ops[k]? with
          | none => trivial
          | some ok =>
            simp only [hk] at hb ⊢
            by_cases e : isDx rds k ok = true
            · rw [if_pos e] at hb ⊢; exact h2 _ _ hb
            · rw [if_neg e] at hb ⊢; exact hb
        · obtain ⟨ρ', hf', hk, hag⟩ := dput_spec hf hd
          have hA := hag ws hwo
          refine wpAnyB_first hi (Region.noSelect_spec hsel) (fun c a w hp => absurd hp (hpan _ _ _)) ?_ ?_ f listed a w (Region.free_spec hi hok1.2) hcl hr hy hS ?_
          · intro w _
            unfold BT
            simp [hi, hdx]
          · intro listed' j w w' hc hun hj hSw hb
            obtain ⟨_, oj, hoj, _⟩ := mem_ready.1 hj
            unfold BT at hb
            simp only [hoj] at hb
            by_cases e : isDx rds j oj = true
            · rw [if_pos e] at hb
              refine h3 _ _ ?_ hb
              have hwj : waitsB .any ops j (Ds.getD j []) = true := List.all_eq_true.1 hwt j (List.mem_range.2 (Array.getElem?_eq_some_iff.1 hoj).1)
              cases hel : (Ds.getD j []).elem i with
              | false => rfl
              | true =>
                have := waitsB_listed hc hj _ hwj i (by simpa using hel)
                rw [getD_false_of hun] at this
                cases this
            · rw [if_neg e] at hb
              rw [hb]
              exact hSw
          · exact ih f (listed.setIfInBounds i true) T1 T1' D' ρ' _ w hfu' hok2 (hcl.step hr) h1 (fun ρ'' a' w' q1 q2 q3 => hQ ρ'' a' w' (hA.trans q1) q2 q3) hf' hD' hk
      cases hc : clsAt rds i o with
      | pu =>
        have hdx : isDx rds i o = false := by simp [isDx, hc]
        have hcl' : cls o.op = .pu := by
          unfold clsAt at hc
          cases he : rds.elem i with
          | true => rw [he] at hc; cases hc
          | false => rw [he] at hc; exact hc
        unfold dstep at h
        simp only [hc] at h
        obtain ⟨D', hD', h⟩ := gate_spec hf hD h
        rcases h with ⟨hw, h⟩ | ⟨hw, h⟩
        · obtain ⟨v, hv, h, hs⟩ := dopD_pu hf hD' hcl' h
          exact quiet hdx (fun _ => True) v T T' hT (fun _ _ x => x) (fun _ _ _ _ => trivial) (.inl ⟨hw, fun w _ => hv w⟩) trivial _ (hD'.do' hf (dput_lt h) hs) h
        · exact quiet hdx (fun _ => True) undef T T' hT (fun _ _ x => x) (fun _ _ _ _ => trivial) (.inr ⟨hw, rfl⟩) trivial _ (hD'.skip' hf (dput_lt h)) h
      | rd =>
        have hdx : isDx rds i o = false := by simp [isDx, hc]
        unfold dstep at h
        simp only [hc] at h
        obtain ⟨D', hD', h⟩ := gate_spec hf hD h
        rcases h with ⟨hw, h⟩ | ⟨hw, h⟩
        · obtain ⟨v, hv, h⟩ := dopR_rd hf hc h
          refine quiet hdx (fun w' => (execOp a.eval o).run P w' = .ok (.value v) w') v ((i, again P ρ o v) :: T) ((i, fun w' => (execOp a.eval o).run P w' = .ok (.value v) w') :: T') ?_ ?_ ?_ (.inl ⟨hw, fun w h => h⟩) hv _ (hD'.put o.dst v) h
          · intro D w hs
            exact ⟨fun e => again_run hf (hs.1 e), hT _ _ hs.2⟩
          · intro D w hs
            exact hs.2
          · intro D w hd hs
            exact hs.1 hd
        · exact quiet hdx (fun _ => True) undef T T' hT (fun _ _ x => x) (fun _ _ _ _ => trivial) (.inr ⟨hw, rfl⟩) trivial _ (hD'.skip' hf (dput_lt h)) h
      | dx =>
        have hdx : isDx rds i o = true := by simp [isDx, hc]
        rw [hdx] at hok1
        simp only [cond_true] at hok1
        have hrd : Region.ready .any ops listed = [i] := by simpa using hok1
        refine ⟨fun h0 => (by rw [h0] at hrd; cases hrd), fun j hj => ?_⟩
        rw [hrd] at hj
        obtain rfl : j = i := by simpa using hj
        exact dx_step ih hws hfu' hok2 hcl hT hQ hf hD hi hdx (by rw [hrd]; simp) h
end

def ddraw (P : Program) (n : Nat) (ops : Array Oper) (Ds : List (List Nat)) (rds : List Nat) (plan : Plan) (Q : Know → World → Prop) (ρ : Know) (w : World) : Prop :=
  bif drawOk ops Ds rds plan then dplan P n ops Ds rds Q plan [] [] ρ w.drew else False

theorem ddraw_sound {P : Program} {n : Nat} {id : Nat} {ops : Array Oper} {Ds : List (List Nat)} {rds : List Nat} {plan : Plan} {Q : Know → World → Prop} {Q' : Exit → Act → World → Prop} {ρ : Know} {a : Act} {w : World} (ws : List Nat)
    (hm : P.follows .mixedOrders = true) (hws : ∀ o ∈ ops.toList, ∀ d, o.dst = some d → ws.elem d = true)
    (hQ : ∀ ρ' a' w', Agree ws ρ ρ' → Fits n ρ' a' → Q ρ' w' → Q' .normal a' w') (hf : Fits n ρ a) (h : ddraw P n ops Ds rds plan Q ρ w) : (Code.region id ops true).wp P Q' a w := by
  unfold ddraw at h
  cases hd : drawOk ops Ds rds plan with
  | false => rw [hd] at h; exact h.elim
  | true =>
    rw [hd] at h
    simp only [cond_true] at h
    simp only [drawOk, Bool.and_eq_true] at hd
    obtain ⟨⟨⟨h1, h2⟩, h3⟩, h4⟩ := hd
    refine wp_region_noPanic (wp_region_any hm (wpAny_of_B (B := BT ops Ds rds []) _ _ _ _ ?_))
    refine dplan_sound (fun c a w hp => hp.elim) h1 h2 hws plan ops.size _ [] [] [] ρ a _ (Nat.le_of_ble_eq_true h3) h4 ?_ (fun _ _ x => x) (fun ρ' a' w' q1 q2 q3 => NoPanic.normal (hQ ρ' a' w' q1 q2 q3)) hf (fun x hx => by cases hx) h
    intro j o ho hj
    rw [getD_replicate_false] at hj
    cases hj

/-! ### notes -/
/-- where ways are joined, which slots a loop, a join carries, in which order a drawn region is gone through -/
inductive Note where
  | leaf
  | seq (l r : Note)
  | join (vars : List Nat) (l r : Note)
  | cond (x y : Note)
  | sub (b : Note)
  | loop (vars : List Nat) (b : Note)
  | draw (Ds : List (List Nat)) (rds : List Nat) (plan : Plan)

def writes : Code → List Nat
  | .region _ ops _ => dsts ops.toList
  | .seq a b => writes a ++ writes b
  | .cond _ x y => writes x ++ writes y
  | .block _ b => writes b
  | .loop b => writes b
  | .scope b => writes b
  | _ => []

/-! ### code -/
def Rel (T : Type) : List Nat → Type
  | [] => World → T
  | _ :: r => Value → Rel T r
/-- the relation at what is known -/
def ap {T : Type} : (vs : List Nat) → Rel T vs → Know → World → (T → Prop) → Prop
  | [], J, _, w, k => k (J w)
  | t :: r, J, ρ, w, k => match ρ t with
    | some v => ap r (J v) ρ w k
    | none => False
/-- for all values of the slots -/
def allR {T : Type} : (vs : List Nat) → Rel T vs → Know → (Know → World → T → Prop) → Prop
  | [], J, ρ, k => ∀ w, k ρ w (J w)
  | t :: r, J, ρ, k => ∀ v, allR r (J v) (upd ρ t v) k
def allR2 {T U : Type} : (vs : List Nat) → Rel T vs → Rel U vs → Know → (Know → World → T → U → Prop) → Prop
  | [], J, M, ρ, k => ∀ w, k ρ w (J w) (M w)
  | t :: r, J, M, ρ, k => ∀ v, allR2 r (J v) (M v) (upd ρ t v) k

def apL {T : Type} : (vs : List Nat) → Rel T vs → List Value → World → T → Prop
  | [], J, [], w, x => x = J w
  | _ :: r, J, v :: vs, w, x => apL r (J v) vs w x
  | _, _, _, _, _ => False

theorem ap_elim {T : Type} : ∀ {vs : List Nat} {J : Rel T vs} {ρ : Know} {w : World} {k : T → Prop}, ap vs J ρ w k →
    ∃ vals x, vals.length = vs.length ∧ (∀ p ∈ vs.zip vals, ρ p.1 = some p.2) ∧ apL vs J vals w x ∧ k x
  | [], J, ρ, w, k, h => ⟨[], J w, rfl, by simp, rfl, h⟩
  | t :: r, J, ρ, w, k, h => by
    simp only [ap] at h
    cases hv : ρ t with
    | none => simp [hv] at h
    | some v =>
      simp only [hv] at h
      obtain ⟨vals, x, h1, h2, h3, h4⟩ := ap_elim (vs := r) h
      refine ⟨v :: vals, x, by simp [h1], ?_, h3, h4⟩
      intro p hp
      simp only [List.zip_cons_cons, List.mem_cons] at hp
      rcases hp with rfl | hp
      · exact hv
      · exact h2 p hp

theorem apL_fun {T : Type} : ∀ {vs : List Nat} {J : Rel T vs} {vals : List Value} {w : World} {x y : T}, apL vs J vals w x → apL vs J vals w y → x = y
  | [], _, [], _, _, _, h, k => h.trans k.symm
  | _ :: r, _, _ :: _, _, _, _, h, k => apL_fun (vs := r) h k

theorem allR_inst {T : Type} : ∀ {vs : List Nat} {J : Rel T vs} {ρ : Know} {k : Know → World → T → Prop}, allR vs J ρ k → ∀ (vals : List Value) (w : World) (x : T), vals.length = vs.length → apL vs J vals w x → k (sets ρ vs vals) w x
  | [], _, _, _, h, [], w, _, _, hx => by cases hx; exact h w
  | _ :: r, _, _, _, h, v :: vals, w, x, hl, hx => allR_inst (vs := r) (h v) vals w x (by simpa using hl) hx

theorem allR2_inst {T U : Type} : ∀ {vs : List Nat} {J : Rel T vs} {M : Rel U vs} {ρ : Know} {k : Know → World → T → U → Prop}, allR2 vs J M ρ k → ∀ (vals : List Value) (w : World) (x : T) (y : U), vals.length = vs.length → apL vs J vals w x → apL vs M vals w y → k (sets ρ vs vals) w x y
  | [], _, _, _, _, h, [], w, _, _, _, hx, hy => by cases hx; cases hy; exact h w
  | _ :: r, _, _, _, _, h, v :: vals, w, x, y, hl, hx, hy => allR2_inst (vs := r) (h v) vals w x y (by simpa using hl) hx hy

theorem apL_some {T : Type} : ∀ {vs : List Nat} (J : Rel T vs) (vals : List Value) (w : World), vals.length = vs.length → ∃ x, apL vs J vals w x
  | [], J, [], w, _ => ⟨J w, rfl⟩
  | _ :: r, J, v :: vals, w, hl => apL_some (vs := r) (J v) vals w (by simpa using hl)

theorem apL_known {T : Type} : ∀ {vs : List Nat} {J : Rel T vs} {ρ : Know} {w : World} {k : T → Prop} {vals : List Value} {x : T}, vals.length = vs.length → (∀ p ∈ vs.zip vals, ρ p.1 = some p.2) → apL vs J vals w x → ap vs J ρ w k → k x
  | [], _, _, _, _, [], _, _, _, hx, h => by cases hx; exact h
  | t :: r, J, ρ, w, k, v :: vals, x, hl, hp, hx, h => by
    have hv : ρ t = some v := hp (t, v) (by simp)
    simp only [ap, hv] at h
    exact apL_known (vs := r) (by simpa using hl) (fun p hq => hp p (by simp [hq])) hx h

theorem sets_slot : ∀ {vs : List Nat} {vals : List Value} {base ρ : Know}, vals.length = vs.length → (∀ p ∈ vs.zip vals, ρ p.1 = some p.2) → (∀ t v, base t = some v → ρ t = some v) → ∀ t v, sets base vs vals t = some v → ρ t = some v
  | [], [], _, _, _, _, hb, t, v, h => hb t v h
  | d :: r, u :: vals, base, ρ, hl, hp, hb, t, v, h => by
    refine sets_slot (vs := r) (vals := vals) (base := upd base d u) (by simpa using hl) (fun p hq => hp p (by simp [hq])) ?_ t v h
    intro t v hu
    unfold upd at hu
    cases e : Nat.beq t d with
    | true =>
      rw [e] at hu
      rw [Nat.eq_of_beq_eq_true e]
      have := hp (d, u) (by simp)
      simp at hu
      rw [← hu]
      exact this
    | false => rw [e] at hu; exact hb t v hu

/-- what is known at a join, at a loop's head -/
theorem Fits.sets {n : Nat} {ρ ρ' : Know} {a : Act} {vs ws : List Nat} {vals : List Value} (hf : Fits n ρ' a) (hA : Agree ws ρ ρ') (hl : vals.length = vs.length) (hp : ∀ p ∈ vs.zip vals, ρ' p.1 = some p.2) :
    Fits n (Vv.sets (Vv.fgt ρ ws) vs vals) a := by
  refine ⟨hf.defers, hf.size, fun t v h => hf.slot t v (sets_slot hl hp ?_ t v h)⟩
  intro t v hb
  unfold Vv.fgt at hb
  cases e : ws.elem t with
  | true => rw [e] at hb; cases hb
  | false => rw [e] at hb; rw [hA t e]; exact hb

theorem sets_agree {vs ws : List Nat} : ∀ {vals : List Value} {base : Know}, (∀ t, vs.elem t = true → ws.elem t = true) → Agree ws base (sets base vs vals) := by
  induction vs with
  | nil => intro vals base _; cases vals <;> exact Agree.refl _ _
  | cons d r ih =>
    intro vals base hs
    cases vals with
    | nil => exact Agree.refl _ _
    | cons v vals =>
      have h1 : Agree ws base (upd base d v) := Agree.upd (hs d (by simp)) base v
      exact h1.trans (ih (fun t ht => hs t (by simp at ht ⊢; exact .inr ht)))

def exThen (A : Know → World → Prop) (Q : Exit → Know → World → Prop) : Exit → Know → World → Prop
  | .normal, ρ, w => A ρ w
  | e, ρ, w => Q e ρ w
def exBlock (id : Nat) (Q : Exit → Know → World → Prop) : Exit → Know → World → Prop
  | .exit i, ρ, w => bif Nat.beq i id then Q .normal ρ w else Q (.exit i) ρ w
  | e, ρ, w => Q e ρ w

def exNoGoto (Q : Exit → Know → World → Prop) : Exit → Know → World → Prop
  | .goto _, _, _ => False
  | e, ρ, w => Q e ρ w

/-- a test -/
def Cond (v : Value) (A B : Prop) : Prop := match v with
  | .bool b => (b = true → A) ∧ (b = false → B)
  | _ => False

def den (P : Program) (n : Nat) : Code → Note → (Exit → Know → World → Prop) → Know → World → Prop
  | .skip, _, Q, ρ, w => Q .normal ρ w
  | .region _ ops d, nt, Q, ρ, w => bif d then (match nt with
    | .draw Ds rds plan => ddraw P n ops Ds rds plan (Q .normal) ρ w
    | _ => False) else dops P n ops (Q .normal) ops.toList [] ρ w
  | .seq a b, nt, Q, ρ, w => match nt with
    | .seq l r => den P n a l (exThen (fun ρ' w' => den P n b r Q ρ' w') Q) ρ w
    | .join vs l r => bif !(vs.all fun t => (writes a).elem t) then False else ∀ J : Rel Prop vs, allR vs J (fgt ρ (writes a)) (fun ρ' w' Jw => den P n b r Q ρ' w' → Jw) →
        den P n a l (exThen (fun ρ' w' => ap vs J ρ' w' fun Jw => Jw) Q) ρ w
    | _ => False
  | .cond c x y, nt, Q, ρ, w => match nt with
    | .cond l r => with1 ρ c fun v => Cond v (den P n x l Q ρ w) (den P n y r Q ρ w)
    | _ => False
  | .block id b, nt, Q, ρ, w => match nt with
    | .sub l => den P n b l (exBlock id Q) ρ w
    | _ => False
  | .loop b, nt, Q, ρ, w => match nt with
    | .loop vs l => bif !(vs.all fun t => (writes b).elem t) then False else ∃ (J : Rel Prop vs) (M : Rel Nat vs), (ap vs J ρ w fun Jw => Jw) ∧
        allR2 vs J M (fgt ρ (writes b)) (fun ρ' w' Jw m => Jw → den P n b l (exThen (fun ρ'' w'' => (ap vs J ρ'' w'' fun Jw' => Jw') ∧ (ap vs M ρ'' w'' fun m' => m' < m)) Q) ρ' w')
    | _ => False
  | .exit id, _, Q, ρ, w => Q (.exit id) ρ w
  | .ret, _, Q, ρ, w => Q .ret ρ w
  | .rangeFunc .., _, _, _, _ => False
  | .scope b, nt, Q, ρ, w => match nt with
    | .sub l => den P n b l (exNoGoto Q) ρ w
    | _ => False
  | .label _, _, Q, ρ, w => Q .normal ρ w
  | .goto _, _, _, _, _ => False
  | .refuse _, _, _, _, _ => False

/-- a relation out of a predicate on lists -/
def ofL {T : Type} : (vs : List Nat) → (List Value → World → T) → Rel T vs
  | [], f => fun w => f [] w
  | _ :: r, f => fun v => ofL r fun vs => f (v :: vs)
theorem apL_ofL {T : Type} : ∀ {vs : List Nat} {f : List Value → World → T} {vals : List Value} {w : World} {x : T}, apL vs (ofL vs f) vals w x → x = f vals w
  | [], _, [], _, _, h => h
  | _ :: r, f, v :: vals, w, x, h => apL_ofL (vs := r) (f := fun vs => f (v :: vs)) h
theorem allR_ofL {T : Type} : ∀ {vs : List Nat} {f : List Value → World → T} {base : Know} {k : Know → World → T → Prop}, (∀ vals w, vals.length = vs.length → k (sets base vs vals) w (f vals w)) → allR vs (ofL vs f) base k
  | [], f, base, k, h => fun w => h [] w rfl
  | t :: r, f, base, k, h => fun v => allR_ofL (vs := r) (f := fun vs => f (v :: vs)) (fun vals w hl => h (v :: vals) w (by simp [hl]))

theorem mem_dsts : ∀ {l : List Oper} {o : Oper} {d : Nat}, o ∈ l → o.dst = some d → (dsts l).elem d = true
  | [], _, _, hm, _ => by cases hm
  | x :: r, o, d, hm, hd => by
    simp only [dsts, elem_append, Bool.or_eq_true]
    cases hm with
    | head => left; simp [hd]
    | tail _ hm => right; exact mem_dsts hm hd

theorem den_sound {P : Program} {n : Nat} (hm : P.follows .mixedOrders = true) : ∀ (c : Code) (nt : Note) (Q : Exit → Know → World → Prop) (ρ : Know) (a : Act) (w : World) (ws : List Nat),
    (∀ t, (writes c).elem t = true → ws.elem t = true) → Fits n ρ a → den P n c nt Q ρ w → c.wp P (fun e a' w' => ∃ ρ', Agree ws ρ ρ' ∧ Fits n ρ' a' ∧ Q e ρ' w') a w := by
  intro c
  induction c with
  | skip => intro nt Q ρ a w ws _ hf h; exact wp_skip ⟨ρ, Agree.refl _ _, hf, h⟩
  | region id ops d =>
    intro nt Q ρ a w ws hw hf h
    simp only [den] at h
    have hws : ∀ o ∈ ops.toList, ∀ d, o.dst = some d → ws.elem d = true := fun o ho d hd => hw d (mem_dsts ho hd)
    cases d with
    | false => exact wp_region_list (dops_sound ws ops.toList [] ρ a w hws (fun ρ' a' w' q1 q2 q3 => ⟨ρ', q1, q2, q3⟩) hf (fun x hx => by cases hx) h)
    | true =>
      cases nt with
      | draw Ds rds plan => exact ddraw_sound ws hm hws (fun ρ' a' w' q1 q2 q3 => ⟨ρ', q1, q2, q3⟩) hf h
      | _ => exact h.elim
  | seq x y ihx ihy =>
    intro nt Q ρ a w ws hw hf h
    have hwx : ∀ t, (writes x).elem t = true → ws.elem t = true := fun t ht => hw t (by simp only [writes, elem_append, ht, Bool.true_or])
    have hwy : ∀ t, (writes y).elem t = true → ws.elem t = true := fun t ht => hw t (by simp only [writes, elem_append, ht, Bool.or_true])
    refine wp_seq ?_
    cases nt with
    | seq l r =>
      simp only [den] at h
      refine wp_mono (ihx l _ ρ a w ws hwx hf h) ?_
      intro e a' w' ⟨ρ', q1, q2, q3⟩
      cases e with
      | normal =>
        refine wp_mono (ihy r Q ρ' a' w' ws hwy q2 q3) ?_
        intro e a'' w'' ⟨ρ'', r1, r2, r3⟩
        exact ⟨ρ'', q1.trans r1, r2, r3⟩
      | _ => exact ⟨ρ', q1, q2, q3⟩
    | join vs l r =>
      simp only [den] at h
      cases hvs : vs.all (fun t => (writes x).elem t) with
      | false => rw [hvs] at h; exact h.elim
      | true =>
      rw [hvs] at h
      simp only [Bool.not_true, cond_false] at h
      have hvs' : ∀ t, vs.elem t = true → (writes x).elem t = true := fun t ht => List.all_eq_true.1 hvs t (by simpa using ht)
      have h1 := h (ofL vs fun vals w' => ∀ a', Fits n (sets (fgt ρ (writes x)) vs vals) a' → y.wp P (fun e a'' w'' => ∃ ρ'', Agree ws (sets (fgt ρ (writes x)) vs vals) ρ'' ∧ Fits n ρ'' a'' ∧ Q e ρ'' w'') a' w') ?_
      · refine wp_mono (ihx l _ ρ a w (writes x) (fun _ ht => ht) hf h1) ?_
        intro e a' w' ⟨ρ', q1, q2, q3⟩
        have q1' : Agree ws ρ ρ' := q1.mono hwx
        cases e with
        | normal =>
          obtain ⟨vals, z, h2, h3, h4, h5⟩ := ap_elim q3
          have h6 := apL_ofL h4
          subst h6
          refine wp_mono (h5 a' (q2.sets q1 h2 h3)) ?_
          intro e a'' w'' ⟨ρ'', r1, r2, r3⟩
          exact ⟨ρ'', (((Agree.fgt ρ).trans (sets_agree hvs')).mono hwx).trans r1, r2, r3⟩
        | _ => exact ⟨ρ', q1', q2, q3⟩
      · refine allR_ofL fun _ w' _ hd a' hf' => ?_
        exact ihy r Q _ a' w' ws hwy hf' hd
    | _ => exact h.elim
  | cond c x y ihx ihy =>
    intro nt Q ρ a w ws hw hf h
    have hwx : ∀ t, (writes x).elem t = true → ws.elem t = true := fun t ht => hw t (by simp only [writes, elem_append, ht, Bool.true_or])
    have hwy : ∀ t, (writes y).elem t = true → ws.elem t = true := fun t ht => hw t (by simp only [writes, elem_append, ht, Bool.or_true])
    cases nt with
    | cond l r =>
      obtain ⟨v, hv, h⟩ := with1_some h
      unfold Cond at h
      split at h
      · rename_i b
        exact wp_cond_split (hf.ev hv) (fun e => ihx l Q ρ a w ws hwx hf (h.1 e)) (fun e => ihy r Q ρ a w ws hwy hf (h.2 e))
      · exact h.elim
    | _ => exact h.elim
  | block id b ih =>
    intro nt Q ρ a w ws hw hf h
    cases nt with
    | sub l =>
      refine wp_block (wp_mono (ih l (exBlock id Q) ρ a w ws hw hf h) ?_)
      intro e a' w' ⟨ρ', q1, q2, q3⟩
      cases e with
      | exit i =>
        simp only [exBlock] at q3
        simp only [Exit.inBlock]
        cases hb : Nat.beq i id with
        | true =>
          rw [hb] at q3
          rw [if_pos (Nat.eq_of_beq_eq_true hb)]
          exact ⟨ρ', q1, q2, q3⟩
        | false =>
          rw [hb] at q3
          rw [if_neg (fun e => by rw [e, Nat.beq_refl] at hb; cases hb)]
          exact ⟨ρ', q1, q2, q3⟩
      | _ => exact ⟨ρ', q1, q2, q3⟩
    | _ => exact h.elim
  | loop b ih =>
    intro nt Q ρ a w ws hw hf h
    cases nt with
    | loop vs l =>
      simp only [den] at h
      cases hvs : vs.all (fun t => (writes b).elem t) with
      | false => rw [hvs] at h; exact h.elim
      | true =>
      rw [hvs] at h
      simp only [Bool.not_true, cond_false] at h
      have hvs' : ∀ t, vs.elem t = true → (writes b).elem t = true := fun t ht => List.all_eq_true.1 hvs t (by simpa using ht)
      obtain ⟨J, M, h0, hr⟩ := h
      obtain ⟨vals0, x0, e1, e2, e3, e4⟩ := ap_elim h0
      obtain ⟨m0, em⟩ := apL_some M vals0 w e1
      refine wp_loop_ghost (fun m a w => ∃ vals x, vals.length = vs.length ∧ apL vs J vals w x ∧ x ∧ apL vs M vals w m ∧ Fits n (sets (fgt ρ (writes b)) vs vals) a) m0 ⟨vals0, x0, e1, e3, e4, em, hf.sets (Agree.refl _ _) e1 e2⟩ ?_
      intro m a w ⟨vals, x, f1, f2, f3, f4, f5⟩
      have g := allR2_inst hr vals w x m f1 f2 f4 f3
      refine wp_mono (ih l _ _ a w (writes b) (fun _ ht => ht) f5 g) ?_
      intro e a' w' ⟨ρ', q1, q2, q3⟩
      have hA : Agree (writes b) ρ ρ' := ((Agree.fgt ρ).trans (sets_agree hvs')).trans q1
      cases e with
      | normal =>
        obtain ⟨g1, g2⟩ := q3
        obtain ⟨vals', x', k1, k2, k3, k4⟩ := ap_elim g1
        obtain ⟨m', km⟩ := apL_some M vals' w' k1
        exact ⟨m', apL_known (k := fun m' => m' < m) k1 k2 km g2, vals', x', k1, k3, k4, km, q2.sets hA k1 k2⟩
      | _ => exact ⟨ρ', hA.mono hw, q2, q3⟩
    | _ => exact h.elim
  | label l => intro nt Q ρ a w ws _ hf h; exact wp_label ⟨ρ, Agree.refl _ _, hf, h⟩
  | scope b ih =>
    intro nt Q ρ a w ws hw hf h
    cases nt with
    | sub l =>
      refine wp_scope_straight (wp_mono (ih l (exNoGoto Q) ρ a w ws hw hf h) ?_)
      intro e a' w' ⟨ρ', q1, q2, q3⟩
      cases e with
      | goto l => exact q3.elim
      | _ => exact ⟨ρ', q1, q2, q3⟩
    | _ => exact h.elim
  | exit id => intro nt Q ρ a w ws _ hf h; exact wp_exit ⟨ρ, Agree.refl _ _, hf, h⟩
  | ret => intro nt Q ρ a w ws _ hf h; exact wp_ret ⟨ρ, Agree.refl _ _, hf, h⟩
  | _ => intro nt Q ρ a w ws _ _ h; exact h.elim

/-! ### a function -/
def know0 (n : Nat) (args : List Value) : Know := fun t => match args[t]? with
  | some v => some v
  | none => bif Nat.blt t n then some undef else none

theorem fits0 {n : Nat} {args : List Value} (h : args.length ≤ n) : Fits n (know0 n args) { tmps := args.toArray ++ Array.replicate (n - args.toArray.size) undef, defers := [] } := by
  refine ⟨rfl, by simp; omega, fun t v hv => ?_⟩
  unfold know0 at hv
  rw [Array.getD_eq_getD_getElem?, Array.getElem?_append]
  cases ha : args[t]? with
  | some u =>
    rw [ha] at hv
    cases hv
    have hlt : t < args.toArray.size := by simpa using (List.getElem?_eq_some_iff.1 ha).1
    rw [if_pos hlt]
    simp [ha]
  | none =>
    rw [ha] at hv
    have hge : ¬ t < args.toArray.size := by simpa using List.getElem?_eq_none_iff.1 ha
    rw [if_neg hge]
    cases hb : Nat.blt t n with
    | false => rw [hb] at hv; cases hv
    | true =>
      rw [hb] at hv
      cases hv
      have := Nat.blt_eq.mp hb
      rw [Array.getElem?_replicate, if_pos (by simp at hge ⊢; omega)]
      rfl

/-- what a function hands back -/
def resK (P : Program) : List ResultVar → Know → World → (List Value → Prop) → Prop
  | [], _, _, k => k []
  | .tmp t :: r, ρ, w, k => with1 ρ (.tmp t) fun v => resK P r ρ w fun vs => k (v :: vs)
  | .cell a t :: r, ρ, w, k => with1 ρ (.tmp a) fun p => Rd P (do loadVar t (← asAddr p)) w fun v => resK P r ρ w fun vs => k (v :: vs)
def resV : List Value → Value
  | [v] => v
  | vs => .tuple vs.toArray

def top (P : Program) (fn : Func) (nt : Note) (args : List Value) (K : Value → World → Prop) (w : World) : Prop :=
  match fn.body with
  | none => False
  | some c => bif Nat.ble args.length fn.ntmps then
      den P fn.ntmps c nt (fun e ρ w' => match e with
        | .normal => resK P fn.results.toList ρ w' fun vs => K (resV vs) w'
        | .ret => resK P fn.results.toList ρ w' fun vs => K (resV vs) w'
        | _ => False) (know0 fn.ntmps args) w
    else False

theorem resK_run {P : Program} {n : Nat} {ρ : Know} {a : Act} {w : World} (hf : Fits n ρ a) : ∀ {rs : List ResultVar} {k : List Value → Prop}, resK P rs ρ w k →
    ∃ vs, (rs.mapM fun (r : ResultVar) => (match r with
      | .tmp t => pure (a.tmps.getD t undef)
      | .cell p t => do loadVar t (← asAddr (a.tmps.getD p undef)) : Sem Value)).run P w = .ok vs w ∧ k vs
  | [], k, h => ⟨[], rfl, h⟩
  | .tmp t :: r, k, h => by
    obtain ⟨v, hv, h⟩ := with1_some h
    obtain ⟨vs, h1, h2⟩ := resK_run hf (rs := r) h
    refine ⟨v :: vs, ?_, h2⟩
    have e := hf.ev hv
    simp only [Act.eval] at e
    rw [List.mapM_cons, Sem.run_bind]
    show Result.andThen ((pure (a.tmps.getD t undef) : Sem Value).run P w) _ = _
    rw [e, Sem.run_pure, Result.andThen_ok, Sem.run_bind, h1]
    rfl
  | .cell p t :: r, k, h => by
    obtain ⟨u, hu, v, hr, h⟩ := with1_some h
    obtain ⟨vs, h1, h2⟩ := resK_run hf (rs := r) h
    refine ⟨v :: vs, ?_, h2⟩
    have e := hf.ev hu
    simp only [Act.eval] at e
    rw [List.mapM_cons, Sem.run_bind]
    show Result.andThen ((do loadVar t (← asAddr (a.tmps.getD p undef)) : Sem Value).run P w) _ = _
    rw [e, hr, Result.andThen_ok, Sem.run_bind, h1]
    rfl

theorem calls_of_top {P : Program} {f : FuncId} {fn : Func} {nt : Note} {args : List Value} {K : Value → World → Prop} {w : World} (hm : P.follows .mixedOrders = true) (hf : P.funcs[f]? = some fn)
    (h : top P fn nt args K w) : Runs P f args.toArray w K := by
  unfold top at h
  cases hb : fn.body with
  | none => simp [hb] at h
  | some c =>
    simp only [hb] at h
    cases hl : Nat.ble args.length fn.ntmps with
    | false => rw [hl] at h; exact h.elim
    | true =>
      rw [hl] at h
      simp only [cond_true] at h
      refine calls_of_wp hf hb (wp_mono (den_sound hm c _ _ _ _ w (writes c) (fun _ ht => ht) (fits0 (Nat.le_of_ble_eq_true hl)) h) ?_)
      have fin : ∀ ρ' a' w', Fits fn.ntmps ρ' a' → (resK P fn.results.toList ρ' w' fun vs => K (resV vs) w') → ∃ v, (results fn a'.tmps).run P w' = .ok v w' ∧ ∃ u, Ending.returned v = .returned u ∧ K u w' := by
        intro ρ' a' w' q2 q3
        obtain ⟨vs, h1, h2⟩ := resK_run q2 q3
        refine ⟨resV vs, ?_, resV vs, rfl, h2⟩
        unfold results
        rw [Array.mapM_eq_mapM_toList, Sem.run_bind, ← bind_pure_comp, Sem.run_bind]
        refine (congrArg (fun r => Result.andThen (Result.andThen r _) _) (show _ = Result.ok vs w' from h1)).trans ?_
        simp only [Result.andThen_ok, Sem.run_pure]
        congr 1
        rcases vs with _ | ⟨v, _ | ⟨v2, r⟩⟩
        · rfl
        · rfl
        · rw [dif_neg (by simp)]
          rfl
      intro e a' w' ⟨ρ', q1, q2, q3⟩
      cases e with
      | normal => exact ⟨q2.defers, fin ρ' a' w' q2 q3⟩
      | ret => exact ⟨q2.defers, fin ρ' a' w' q2 q3⟩
      | _ => exact q3.elim

end Vv

/-
  MEMORY BY BLOCKS: which blocks a call may turn ('Step'); rows that are owned ('Own'); append; what a value reads as.
-/
namespace Vv
open Go Go.RowKit

/-- only blocks of S, and new ones, are turned -/
structure Step (S : Nat → Prop) (w w' : World) : Prop where
  os : w'.os = w.os
  tape : w'.tape = w.tape
  output : w'.output = w.output
  size : w.heap.size ≤ w'.heap.size
  keep : ∀ k, k < w.heap.size → ¬ S k → w'.heap[k]? = w.heap[k]?

abbrev None' : Nat → Prop := fun _ => False
theorem Step.refl (S : Nat → Prop) (w : World) : Step S w w := ⟨rfl, rfl, rfl, Nat.le_refl _, fun _ _ _ => rfl⟩
theorem Step.trans {S S1 : Nat → Prop} {a b c : World} (h : Step S a b) (k : Step S1 b c) (hs : ∀ i, S1 i → S i ∨ a.heap.size ≤ i) : Step S a c :=
  ⟨k.os.trans h.os, k.tape.trans h.tape, k.output.trans h.output, Nat.le_trans h.size k.size, fun i hi hn =>
    (k.keep i (Nat.lt_of_lt_of_le hi h.size) (fun h1 => (hs i h1).elim hn (fun h2 => Nat.not_lt.2 h2 hi))).trans (h.keep i hi hn)⟩
theorem Step.mono {S S' : Nat → Prop} {a b : World} (h : Step S a b) (hs : ∀ i, S i → S' i) : Step S' a b :=
  ⟨h.os, h.tape, h.output, h.size, fun i hi hn => h.keep i hi (fun h1 => hn (hs i h1))⟩
theorem Step.of_none {S : Nat → Prop} {a b : World} (h : Step None' a b) : Step S a b := h.mono fun _ x => x.elim
theorem Step.then_none {S : Nat → Prop} {a b c : World} (h : Step S a b) (k : Step None' b c) : Step S a c := h.trans k fun _ x => x.elim
theorem Step.drew {S : Nat → Prop} {a b : World} (h : Step S a b) : Step S a b.drew := ⟨h.os, h.tape, h.output, h.size, h.keep⟩
theorem Step.alloc {S : Nat → Prop} {a b : World} (h : Step S a b) (o : Obj) : Step S a (b.alloc o) :=
  h.then_none ⟨rfl, rfl, rfl, by simp, fun k hk _ => Below.heap_alloc _ _ _ hk⟩
theorem Step.setCell {S : Nat → Prop} {a b : World} (h : Step S a b) {p : Addr} (hp : S p.block ∨ a.heap.size ≤ p.block) (u : Value) : Step S a (b.setCell p u) := by
  refine h.trans (S1 := fun k => k = p.block) ⟨rfl, rfl, rfl, by simp [World.setCell], fun k hk hne => Below.heap_setCell _ _ _ _ hne⟩ ?_
  rintro i rfl
  exact hp
theorem Step.below {w w' : World} (h : Step None' w w') : Below w.heap.size w w' := ⟨h.os, h.tape, h.output, h.size, fun k hk => h.keep k hk fun x => x⟩
theorem Step.cell {S : Nat → Prop} {w w' : World} (h : Step S w w') {p : Addr} (hp : p.block < w.heap.size) (hn : ¬ S p.block) : w'.cell? p = w.cell? p := World.cell?_of_block (h.keep _ hp hn)
theorem Step.grown {w w' : World} {row : Option Nat} (hg : w.grownBy w' row) : Step (fun k => row = some k) w w' :=
  ⟨hg.os, hg.tape, hg.output, hg.size, fun k hk hn => hg.block k hk (fun e => hn e.symm)⟩

/-- the block of a slice -/
def foot (v : Value) : Nat → Prop := fun k => v.ownBlock = some k
@[simp] theorem foot_nil (n c : Nat) : foot (.slice none n c) = None' := by funext k; simp [foot, Value.ownBlock]

/-- a row that is owned: at its block's head, not frozen -/
def Own (w : World) (v : Value) (T size : Nat) (xs : List Value) : Prop :=
  (v = .slice none 0 0 ∧ xs = []) ∨
  ∃ g n cap cur, v = .slice (some ⟨g, 0, none⟩) n cap ∧ w.heap[g]? = some (.cells cur T (0, 0)) ∧ n ≤ cap ∧ cap ≤ maxLen ∧ cur.size = cap * size ∧ cur.toList.take (n * size) = xs

theorem Own.nil (w : World) (T size : Nat) : Own w (.slice none 0 0) T size [] := .inl ⟨rfl, rfl⟩
theorem Own.lt {w : World} {v : Value} {T size : Nat} {xs : List Value} (h : Own w v T size xs) : ∀ k, foot v k → k < w.heap.size := by
  intro k hk
  rcases h with ⟨rfl, _⟩ | ⟨g, n, cap, cur, rfl, hg, _⟩
  · simp [foot, Value.ownBlock] at hk
  · simp [foot, Value.ownBlock] at hk
    subst hk
    exact (Array.getElem?_eq_some_iff.1 hg).1
theorem Own.len {w : World} {v : Value} {T size : Nat} {xs : List Value} (h : Own w v T size xs) : ∃ a n c, v = .slice a n c ∧ xs.length = n * size ∧ n ≤ c ∧ (a = none → n = 0 ∧ c = 0) := by
  rcases h with ⟨rfl, rfl⟩ | ⟨g, n, cap, cur, rfl, hg, h1, h2, h3, h4⟩
  · exact ⟨none, 0, 0, rfl, by simp, Nat.le_refl _, fun _ => ⟨rfl, rfl⟩⟩
  · exact ⟨some _, n, cap, rfl, by rw [← h4, List.length_take, Array.length_toList, h3, Nat.min_eq_left (Nat.mul_le_mul_right _ h1)], h1, fun e => by cases e⟩
theorem Own.keep {w w' : World} {v : Value} {T size : Nat} {xs : List Value} (h : Own w v T size xs) (hk : ∀ k, foot v k → w'.heap[k]? = w.heap[k]?) : Own w' v T size xs := by
  rcases h with h | ⟨g, n, cap, cur, rfl, hg, r⟩
  · exact .inl h
  · exact .inr ⟨g, n, cap, cur, rfl, by rw [hk g rfl]; exact hg, r⟩
theorem Own.step {w w' : World} {v : Value} {T size : Nat} {xs : List Value} {S : Nat → Prop} (h : Own w v T size xs) (hs : Step S w w') (hn : ∀ k, foot v k → ¬ S k) : Own w' v T size xs :=
  h.keep fun k hk => hs.keep k (h.lt k hk) (hn k hk)
theorem Own.row {w : World} {v : Value} {T size : Nat} {xs : List Value} (h : Own w v T size xs) : ∃ n, w.ownsRow 0 T size v n xs ∧ (∃ a c, v = .slice a n c) := by
  obtain ⟨a, n, c, rfl, hl, _, _⟩ := h.len
  refine ⟨n, ⟨hl, ?_⟩, a, c, rfl⟩
  rcases h with ⟨e, rfl⟩ | ⟨g, n', cap, cur, e, hg, h1, h2, h3, h4⟩
  · cases e; exact .inl ⟨rfl, rfl⟩
  · cases e; exact .inr ⟨g, _, cur, rfl, Nat.zero_le _, hg, h1, h2, h3, h4⟩

/-- a view: m elements, whose cells are these -/
def View (w : World) (x : Value) (size m : Nat) (xs : List Value) : Prop :=
  xs.length = m * size ∧ ((x = .slice none 0 0 ∧ m = 0) ∨ ∃ b o c, x = .slice (some ⟨b, o, none⟩) m c ∧ m ≤ c ∧ b < w.heap.size ∧ ∀ j u, xs[j]? = some u → w.cell? ⟨b, o + j, none⟩ = some u)

theorem View.nil (w : World) (size : Nat) : View w (.slice none 0 0) size 0 [] := ⟨by simp, .inl ⟨rfl, rfl⟩⟩
theorem View.one (w : World) (u : Value) (T : Nat) : View (w.alloc (.cells #[u] T)) (.slice (some ⟨w.heap.size, 0, none⟩) 1 1) 1 1 [u] :=
  ⟨rfl, .inr ⟨_, _, _, rfl, Nat.le_refl _, by simp, fun j x hx => by
    cases j with
    | zero => simp at hx; subst hx; rw [World.cell?_alloc_at _ _ _ _ rfl]; rfl
    | succ j => simp at hx⟩⟩
theorem View.shape {w : World} {x : Value} {size m : Nat} {xs : List Value} (h : View w x size m xs) : ∃ a c, x = .slice a m c ∧ (a = none → m = 0 ∧ c = 0) := by
  rcases h.2 with ⟨rfl, rfl⟩ | ⟨b, o, c, rfl, _⟩
  · exact ⟨_, _, rfl, fun _ => ⟨rfl, rfl⟩⟩
  · exact ⟨_, _, rfl, fun e => by cases e⟩
theorem View.step {w w' : World} {x : Value} {size m : Nat} {xs : List Value} {S : Nat → Prop} (h : View w x size m xs) (hs : Step S w w') (hn : ∀ k, foot x k → ¬ S k) : View w' x size m xs := by
  refine ⟨h.1, h.2.imp_right ?_⟩
  rintro ⟨b, o, c, rfl, hc, hlt, hu⟩
  refine ⟨b, o, c, rfl, hc, Nat.lt_of_lt_of_le hlt hs.size, fun j u hj => ?_⟩
  rw [hs.cell hlt (hn b rfl)]
  exact hu j u hj
theorem View.lt {w : World} {x : Value} {size m : Nat} {xs : List Value} (h : View w x size m xs) : ∀ k, foot x k → k < w.heap.size := by
  intro k hk
  rcases h.2 with ⟨rfl, _⟩ | ⟨b, o, c, rfl, _, hlt, _⟩
  · simp [foot, Value.ownBlock] at hk
  · simp [foot, Value.ownBlock] at hk
    omega
theorem View.alloc {w : World} {x : Value} {size m : Nat} {xs : List Value} (h : View w x size m xs) (o : Obj) : View (w.alloc o) x size m xs := h.step ((Step.refl None' w).alloc o) fun _ _ x => x
theorem View.drew {w : World} {x : Value} {size m : Nat} {xs : List Value} (h : View w x size m xs) : View w.drew x size m xs := h.step ((Step.refl None' w).drew) fun _ _ x => x
theorem Own.view {w : World} {v : Value} {T size : Nat} {xs : List Value} (h : Own w v T size xs) : ∃ m, View w v size m xs := by
  obtain ⟨a, n, c, rfl, hl, hc, hn⟩ := h.len
  refine ⟨n, hl, ?_⟩
  rcases h with ⟨e, rfl⟩ | ⟨g, n', cap, cur, e, hg, h1, h2, h3, h4⟩
  · cases e; exact .inl ⟨rfl, rfl⟩
  · cases e
    refine .inr ⟨g, 0, _, rfl, hc, (Array.getElem?_eq_some_iff.1 hg).1, fun j u hu => ?_⟩
    rw [Nat.zero_add, cell_of_row w g j cur T (0, 0) hg]
    rw [← h4, List.getElem?_take] at hu
    split at hu
    · simpa using hu
    · cases hu
theorem Own.alloc {w : World} {v : Value} {T size : Nat} {xs : List Value} (h : Own w v T size xs) (o : Obj) : Own (w.alloc o) v T size xs := h.step ((Step.refl None' w).alloc o) fun _ _ x => x
theorem Own.drew {w : World} {v : Value} {T size : Nat} {xs : List Value} (h : Own w v T size xs) : Own w.drew v T size xs := h.step ((Step.refl None' w).drew) fun _ _ x => x
end Vv

/-
  THE RULES OF THE STEPS: what each operation asks, and what it hands on. Facts on the program's types come by instances ('Plain', 'StructOf', 'FieldAt', 'SliceOf').
-/
namespace Vv
open Go Go.RowKit
variable {P : Program} {w : World}

theorem Pu_of {α : Type} {m : Sem α} {v : α} {K : α → Prop} (h : ∀ w, m.run P w = .ok v w) (k : K v) : Pu P m K := ⟨v, h, k⟩
theorem Rd_of {α : Type} {m : Sem α} {v : α} {K : α → Prop} (h : m.run P w = .ok v w) (k : K v) : Rd P m w K := ⟨v, h, k⟩
theorem Do_of {α : Type} {m : Sem α} {v : α} {w' : World} {K : α → World → Prop} (h : m.run P w = .ok v w') (k : K v w') : Do P m w K := ⟨v, w', h, k⟩
theorem BltR_of {b : Builtin} {ats : Array TypeId} {ty : TypeId} {cs : Array Bool} {vs : Array Value} {v : Value} {K : Value → Prop} (h : (builtin b ats ty cs vs).run P w = .ok (.value v) w) (k : K v) : BltR P b ats ty cs vs w K := ⟨_, h, v, rfl, k⟩
theorem BltP_of {b : Builtin} {ats : Array TypeId} {ty : TypeId} {cs : Array Bool} {vs : Array Value} {v : Value} {K : Value → Prop} (h : ∀ w, (builtin b ats ty cs vs).run P w = .ok (.value v) w) (k : K v) : BltP P b ats ty cs vs K := ⟨_, h, v, rfl, k⟩
theorem BltD_of {b : Builtin} {ats : Array TypeId} {ty : TypeId} {cs : Array Bool} {vs : Array Value} {v : Value} {w' : World} {K : Value → World → Prop} (h : (builtin b ats ty cs vs).run P w = .ok (.value v) w') (k : K v w') : BltD P b ats ty cs vs w K := ⟨_, w', h, v, rfl, k⟩
theorem Bin_of {op : BinOp} {t : TypeId} {cx cy : Bool} {a b v : Value} {K : Value → Prop} (h : ∀ w, (do eqGuard op t (opnd cx) (opnd cy) a b; binOp op t a b : Sem Value).run P w = .ok v w) (k : K v) : Bin P op t cx cy a b K := ⟨v, h, k⟩
theorem Cond_of {b : Bool} {A B : Prop} (h1 : b = true → A) (h2 : b = false → B) : Cond (.bool b) A B := ⟨h1, h2⟩
theorem Cond_t {A B : Prop} (h : A) : Cond (.bool true) A B := ⟨fun _ => h, fun e => by cases e⟩
theorem Cond_f {A B : Prop} (h : B) : Cond (.bool false) A B := ⟨fun e => (by cases e), fun _ => h⟩
theorem Cond_is {b : Bool} {A B : Prop} (e : b = true) (h : A) : Cond (.bool b) A B := by subst e; exact Cond_t h
theorem Cond_not {b : Bool} {A B : Prop} (e : b = false) (h : B) : Cond (.bool b) A B := by subst e; exact Cond_f h
theorem Gate_of {b want : Bool} {A B : Prop} (h1 : b = want → A) (h2 : b = (!want) → B) : Gate (.bool b) want A B := ⟨b, rfl, h1, h2⟩
theorem Gate_is {b want : Bool} {A B : Prop} (e : b = want) (h : A) : Gate (.bool b) want A B := ⟨b, rfl, fun _ => h, fun e' => by subst e; cases b <;> cases e'⟩
theorem Gate_not {b want : Bool} {A B : Prop} (e : b = (!want)) (h : B) : Gate (.bool b) want A B := ⟨b, rfl, fun e' => (by subst e'; cases b <;> cases e), fun _ => h⟩
theorem Pick_of {b : Bool} {x y : Value} {K : Value → Prop} (k : K (if b then x else y)) : Pick (.bool b) x y K := ⟨b, rfl, k⟩
theorem Runs.mono {f : FuncId} {args : Array Value} {K K' : Value → World → Prop} (h : Runs P f args w K) (hk : ∀ v w', K v w' → K' v w') : Runs P f args w K' :=
  Calls.mono h fun _ _ ⟨v, e, k⟩ => ⟨v, e, hk _ _ k⟩
theorem CallF_of {f : FuncId} {args : Array Value} {K : Value → World → Prop} (h : (callFunc f args).run P w = .ok (.enter f args) w) (k : Runs P f args w K) : CallF P f args w K := by
  unfold CallF; rw [h]; exact k
def enterB (P : Program) (f : FuncId) : Bool := match P.funcs[f]? with
  | some fn => !(fn.name == "runtime.NumGoroutine") && fn.body.isSome
  | none => false
/-- a function that has a body -/
class Fun (P : Program) (f : FuncId) : Prop where
  h : enterB P f = true
theorem Fun.enter {f : FuncId} (h : Fun P f) (args : Array Value) (w : World) : (callFunc f args).run P w = .ok (.enter f args) w := by
  have h := h.h
  unfold enterB at h
  split at h
  · rename_i fn hf
    simp only [Bool.and_eq_true, Bool.not_eq_true'] at h
    have h2 : fn.body.isNone = false := by cases hb : fn.body <;> simp_all
    simp only [callFunc, Sem.run_bind, run_program, Result.andThen_ok, hf, h.1, h2]
    rfl
  · cases h
/-- a call -/
theorem cf {f : FuncId} [hf : Fun P f] {args : Array Value} {K : Value → World → Prop} (k : Runs P f args w K) : CallF P f args w K := CallF_of (hf.enter _ _) k
theorem CallV_of {f : FuncId} {first cap args : Array Value} {K : Value → World → Prop} (h : (callFunc f (first ++ args ++ cap)).run P w = .ok (.enter f (first ++ args ++ cap)) w) (k : Runs P f (first ++ args ++ cap) w K) : CallV P (.func (.func f) first cap) args w K := by
  unfold CallV
  simp only [Deferred.ofValue, Sem.run_bind, Sem.run_pure, Result.andThen_ok, invoke]
  rw [h]; exact k

theorem cv {f : FuncId} [hf : Fun P f] {first cap args : Array Value} {K : Value → World → Prop} (k : Runs P f (first ++ args ++ cap) w K) : CallV P (.func (.func f) first cap) args w K := CallV_of (hf.enter _ _) k

/-! ### types -/
def plainB (P : Program) (T : TypeId) : Bool := match P.underlying T, P.info? T with
  | some (.struct _), _ => false
  | some (.array _ _), _ => false
  | some _, some i => i.size == 1
  | _, _ => false
/-- a type of one cell -/
class Plain (P : Program) (T : TypeId) : Prop where
  h : plainB P T = true
def structB (P : Program) (T : TypeId) : Option Nat := match P.underlying T, P.info? T with
  | some (.struct _), some i => some i.size
  | _, _ => none
/-- a struct of so many cells -/
class StructOf (P : Program) (T : TypeId) (n : outParam Nat) : Prop where
  h : structB P T = some n
def fieldB (P : Program) (T f : Nat) : Option (Nat × TypeId) := match P.underlying T with
  | some (.struct fs) => match fs[f]? with
    | some fd => if P.cellsOf fd.type = 0 then none else some (fd.offset, fd.type)
    | none => none
  | _ => none
class FieldAt (P : Program) (T f : Nat) (off ty : outParam Nat) : Prop where
  h : fieldB P T f = some (off, ty)
def sliceB (P : Program) (t : TypeId) : Option (Nat × Nat × Nat × Value) := match P.underlying t with
  | some (.slice e) => match P.info? e with
    | some i => match i.zero with
      | some z => some (e, i.size, i.bytes, z)
      | none => none
    | none => none
  | _ => none
/-- a slice type: its element's type, how many cells and bytes that has, its zero -/
class SliceOf (P : Program) (t : TypeId) (e size bytes : outParam Nat) (z : outParam Value) : Prop where
  h : sliceB P t = some (e, size, bytes, z)
  hz : z.cells.size = size

theorem Plain.parts {T : TypeId} (h : Plain P T) : ∃ d i, P.underlying T = some d ∧ P.info? T = some i ∧ i.size = 1 ∧ (match d with | .struct _ | .array _ _ => True | _ => False) = False := by
  have h := h.h
  unfold plainB at h
  split at h
  · cases h
  · cases h
  · rename_i d i h1 h2 h3 h4
    refine ⟨d, i, h3, h4, by simpa using h, ?_⟩
    cases d <;> simp_all
  · cases h

theorem Plain.isAgg {T : TypeId} (h : Plain P T) (w : World) : (isAgg T).run P w = .ok false w := by
  obtain ⟨d, i, h1, _, _, h2⟩ := h.parts
  unfold Go.isAgg
  rw [Sem.run_bind, run_underlying h1]
  cases d <;> simp_all
theorem Plain.sizeOf {T : TypeId} (h : Plain P T) (w : World) : (Go.sizeOf T).run P w = .ok 1 w := by
  obtain ⟨d, i, _, h1, h2, _⟩ := h.parts
  simp [Go.sizeOf, typeInfo, h1, h2]

/-- a load of one cell -/
theorem ld {T : TypeId} [hT : Plain P T] {a : Addr} {v : Value} {K : Value → Prop} (h : w.cell? a = some v) (k : K v) : Rd P (Instr.loadAt T (.pointer (some a))) w K :=
  Rd_of (by simp [Instr.loadAt, Instr.sureAddr, loadVar, hT.isAgg, load, Sem.run, h]) k
/-- that it reads so still -/
theorem ldStill {T : TypeId} [hT : Plain P T] {a : Addr} {v : Value} (h : w.cell? a = some v) : (Instr.loadAt T (.pointer (some a))).run P w = .ok v w := by
  simp [Instr.loadAt, Instr.sureAddr, loadVar, hT.isAgg, load, Sem.run, h]
/-- a store of one cell -/
theorem st {T : TypeId} [hT : Plain P T] {a : Addr} {v v0 : Value} {K : Unit → World → Prop} (h : w.cell? a = some v0) (hf : w.frozen? a = false) (ho : v.oneCell' = true) (k : K () (w.setCell a v)) : Do P (Instr.storeAt T (.pointer (some a)) v) w K := by
  refine Do_of ?_ k
  have hc : v.cells = #[v] := by cases v <;> simp_all [Value.cells, Value.oneCell']
  have hs := run_store P w a v .plain ho
  simp [Instr.storeAt, Instr.sureAddr, storeVar, hT.sizeOf, hc, storeCells, Addr.add_zero', hs, stored, h, hf]

end Vv
