/-
  WalNames: every input answers true. Part 7 of its proof: VvRec2 VvRec3 VvRec4 VvRec5 VvRec6 VvRec7 TryzIter TryzShelf VvDisk.
-/
import Derived.Test.YtolefmkgllngnaaGreatDoorV06
import Derived.Shelf.SlIter.Nil
import Derived.Shelf.SortM.Plain
import Derived.Shelf.SortM.SortNone
import Derived.Ground.GgzProg
import Derived.Ground.SlgmProg
import Derived.Test.YtolefmkgllngnaaGreatDoorProg
import Derived.Shelf.Small.Bits
import Derived.Shelf.Small.Wraps
import Derived.Shelf.Strconv.Atoi
import Derived.Shelf.Strconv.Itoa0
import Derived.Shelf.Strconv.Itoa1
import Derived.Shelf.LaysM
import Derived.Shelf.Strconv.Itoa2
import Derived.Shelf.Strconv.Itoa3
import Derived.Shelf.Strconv.AtoiErrFast
import Derived.Shelf.Strconv.ParseIntEmpty
import Derived.Shelf.Strconv.AtoiFail
import Derived.Shelf.Strconv.Clone
import Derived.Shelf.Strconv.SyntaxError
import Derived.Shelf.LaysC
import Derived.Shelf.Strconv.ToError
import Derived.Shelf.Strconv.Lower
import Derived.Shelf.Strconv.ParseUint10
import Derived.Shelf.Strconv.ParseUint10Empty
import Derived.Shelf.Strconv.ParseUint10Any
import Derived.Shelf.Strconv.ParseInt10
import Derived.Shelf.Strconv.AtoiLong
import Derived.Shelf.Strconv.AtoiInnerAll
import Derived.Shelf.Strconv.RangeError
import Derived.Shelf.Strconv.ToErrorRange
import Derived.Shelf.Strconv.AtoiAll
import Derived.Shelf.Strconv.ErrVarAll
import Derived.Shelf.Sort.Plain
import Derived.Shelf.Strings.Prefix
import Derived.Ground.Names2Prog
import Derived.Shelf.Slices.SearchI
import Derived.Shelf.Slices.In.SortNone
import Derived.Test.YtolefmkgllngnaaGreatDoorV04
import Derived.Test.YtolefmkgllngnaaGreatDoorV05
import Derived.Test.YtolefmkgllngnaaGreatDoorV02

namespace Go.Proofs.VvS
open Go Go.Proofs Vv Go.RowKit

/-- a writer: its struct lies in the block b; it and its row lie in S -/
structure WSt (S : Nat → Prop) (w : World) (b : Nat) (l : List UInt8) : Prop where
  ex : ∃ bv, Box w b T_record_writer #[bv] ∧ Own w bv T_uint8 1 (B8 l) ∧ ¬ foot bv b ∧ (∀ i, foot bv i → S i) ∧ S b
theorem WSt.step {S : Nat → Prop} {w w' : World} {b : Nat} {l : List UInt8} (h : WSt S w b l) (hs : Step None' w w') : WSt S w' b l := by
  obtain ⟨bv, h1, h2, h3⟩ := h.ex
  exact ⟨bv, h1.step hs fun x => x, h2.step hs fun _ _ x => x, h3⟩
theorem stepMany {S : Nat → Prop} {a b c : World} (h : Step S a b) (k : Step S b c) : Step S a c := h.trans k fun _ x => .inl x

theorem wnumber_ok {S : Nat → Prop} {w : World} {b : Nat} {l : List UInt8} {n : Nat} {K : Value → World → Prop} (h : WSt S w b l) (hn : n < 2 ^ 63) (hl : l.length ≤ 500000000) (hb : ∀ i, w.heap.size ≤ i → S i)
    (hk : ∀ w', WSt S w' b (l ++ enc n) → Step S w w' → K (.tuple #[]) w') : Runs Tryz.prog F_record_writer_number #[.pointer (some ⟨b, 0, none⟩), .int .i64 n] w K := by
  obtain ⟨bv, h1, h2, h3, h4, h5⟩ := h.ex
  refine c_record_writer_number ?_
  unfold H_record_writer_number
  refine ⟨trivial, ?_⟩
  refine fld0 ?_
  (with_reducible refine ldB h1 (by (simp only [List.getElem?_toArray, List.getElem?_cons_succ, List.getElem?_cons_zero]; rfl)) ?_)
  (with_reducible refine cvK (inU64 (by omega)) ?_)
  (with_reducible refine cf ?_); refine Put_ok h2.bytes (by omega) (by omega) fun u w1 h6 h7 => ?_
  refine ⟨trivial, ?_⟩
  refine fld0 ?_
  have h1' := h1.step h7.step fun x => x
  refine stB h1' (by simp) h6.shape1 fun w2 h8 h9 => ?_
  have hne : ∀ i, foot u i → i ≠ b := fun i hi => by have := h7.new i hi; have := h1.lt; omega
  refine hk _ ⟨u, h8, h6.step h9 hne, fun x => hne _ x rfl, fun i hi => hb i (h7.new i hi), h5⟩ ?_
  exact (h7.step.of_none).trans h9 fun i hi => .inl (by rw [hi]; exact h5)

theorem wtext_ok {S : Nat → Prop} {w : World} {b : Nat} {l s : List UInt8} {K : Value → World → Prop} (h : WSt S w b l) (hl : l.length + s.length ≤ 500000000) (hb : ∀ i, w.heap.size ≤ i → S i)
    (hk : ∀ w', WSt S w' b (l ++ (enc s.length ++ s)) → Step S w w' → K (.tuple #[]) w') : Runs Tryz.prog F_record_writer_text #[.pointer (some ⟨b, 0, none⟩), Str s] w K := by
  obtain ⟨bv, h1, h2, h3, h4, h5⟩ := h.ex
  refine c_record_writer_text ?_
  unfold H_record_writer_text
  refine ⟨trivial, ?_⟩
  refine fld0 ?_
  (with_reducible refine ldB h1 (by (simp only [List.getElem?_toArray, List.getElem?_cons_succ, List.getElem?_cons_zero]; rfl)) ?_)
  (with_reducible refine cf ?_); refine PutText_ok h2.bytes (by omega) fun u w1 h6 h7 => ?_
  refine ⟨trivial, ?_⟩
  refine fld0 ?_
  have h1' := h1.step h7.step fun x => x
  refine stB h1' (by simp) h6.shape1 fun w2 h8 h9 => ?_
  have hne : ∀ i, foot u i → i ≠ b := fun i hi => by have := h7.new i hi; have := h1.lt; omega
  refine hk _ ⟨u, h8, h6.step h9 hne, fun x => hne _ x rfl, fun i hi => hb i (h7.new i hi), h5⟩ ?_
  exact (h7.step.of_none).trans h9 fun i hi => .inl (by rw [hi]; exact h5)

def wrBytes (x : Wr) : List UInt8 := if x.gone then 1 :: (enc x.key.length ++ x.key) else 0 :: ((enc x.key.length ++ x.key) ++ (enc x.val.length ++ x.val))
def Small (x : Wr) : Prop := x.key.length ≤ 16 ∧ x.val.length ≤ 64
theorem wrBytes_len {x : Wr} (h : Small x) : (wrBytes x).length ≤ 101 := by
  have h1 := enc_len10 (n := x.key.length) (by have := h.1; omega)
  have h2 := enc_len10 (n := x.val.length) (by have := h.2; omega)
  unfold wrBytes
  have := h.1
  have := h.2
  split <;> simp <;> omega

theorem wone_ok {S : Nat → Prop} {w : World} {b vb : Nat} {l : List UInt8} {x : Wr} {K : Value → World → Prop} (h : WSt S w b l) (hv : Box w vb T_p_record_writer #[.pointer (some ⟨b, 0, none⟩)]) (hvb : ¬ S vb) (hx : Small x) (hl : l.length ≤ 400000000) (hb : ∀ i, w.heap.size ≤ i → S i)
    (hk : ∀ w', WSt S w' b (l ++ wrBytes x) → Step S w w' → K (.tuple #[]) w') : Runs Tryz.prog F_record_PutCommit_1 #[wrVal x, .pointer (some ⟨vb, 0, none⟩)] w K := by
  refine c_record_PutCommit_1 ?_
  unfold H_record_PutCommit_1
  refine bx ?_
  have hbox : Box (w.alloc (.cells (wrVal x).cells 111)) w.heap.size 111 #[Str x.key, Str x.val, .bool x.gone] := Box.new _ _ _
  have hs0 : Step None' w (w.alloc (.cells (wrVal x).cells 111)) := (Step.refl _ _).alloc _
  have hb0 : ∀ i, w.heap.size < i → S i := fun i hi => hb i (by omega)
  have hsz : (w.alloc (.cells (wrVal x).cells 111)).heap.size = w.heap.size + 1 := by simp
  have hxb : w.heap.size ≠ b := by
    obtain ⟨bv, h1, _⟩ := h.ex
    have := h1.lt
    omega
  generalize (w.alloc (.cells (wrVal x).cells 111)) = w1 at *
  have hv1 := (hv.step hs0 fun x => x).drew
  have hd := hs0.drew
  obtain ⟨S', hS1, hS2, hS3, hS4⟩ : ∃ S' : Nat → Prop, (∀ i, S' i → S i) ∧ ¬ S' w.heap.size ∧ (∀ i, w.heap.size < i → S' i) ∧ (∀ i, S i → i ≠ w.heap.size → S' i) := ⟨fun i => S i ∧ i ≠ w.heap.size, fun i h => h.1, fun h => h.2 rfl, fun i h => ⟨hb0 i h, by omega⟩, fun i h e => ⟨h, e⟩⟩
  have hw1 : WSt S' w1.drew b l := by
    obtain ⟨bv, h1, h2, h3, h4, h5⟩ := h.ex
    exact ⟨bv, h1.step hd fun x => x, h2.step hd fun _ _ x => x, h3, fun i hi => hS4 i (h4 i hi) (by have := h2.lt i hi; omega), hS4 b h5 (by omega)⟩
  refine fld0 ?_
  (with_reducible refine ldB hbox (by (simp only [List.getElem?_toArray, List.getElem?_cons_succ, List.getElem?_cons_zero]; rfl)) ?_)
  have hboxd := hbox.drew
  have hszd : w1.drew.heap.size = w.heap.size + 1 := hsz
  obtain ⟨bv, h1, h2, h3, h4, h5⟩ := hw1.ex
  -- one byte is appended
  have one : ∀ (t : UInt8) (K2 : World → Prop), (∀ w2, WSt S' w2 b (l ++ [t]) → Step S' w1.drew w2 → Box w2 vb T_p_record_writer #[.pointer (some ⟨b, 0, none⟩)] → K2 w2) →
      Rd Tryz.prog (Instr.loadAt 151 (.pointer (some ⟨vb, 0, none⟩))) (World.drew w1) fun t5 =>
      Rd Tryz.prog (Instr.loadAt 151 (.pointer (some ⟨vb, 0, none⟩))) (World.drew w1) fun t6 =>
      nilOk t6 ∧
      Pu Tryz.prog (Instr.fieldAt 153 t6 0) fun t8 =>
      Rd Tryz.prog (Instr.loadAt 39 t8) (World.drew w1) fun t9 =>
      Do Tryz.prog (Instr.buildSlice 39 1 #[(0, (Value.int IntKind.u8 t.toNat))]) (World.drew w1) fun t10 w_2 =>
      ((Instr.loadAt 39 t8)).run Tryz.prog w_2 = .ok t9 w_2 ∧
      ((Instr.loadAt 151 (.pointer (some ⟨vb, 0, none⟩)))).run Tryz.prog w_2 = .ok t6 w_2 ∧
      ((Instr.loadAt 151 (.pointer (some ⟨vb, 0, none⟩)))).run Tryz.prog w_2 = .ok t5 w_2 ∧
      BltD Tryz.prog Builtin.append #[39, 39] 39 #[false, false] #[t9, t10] w_2 fun t11 w_3 =>
      ((Instr.loadAt 151 (.pointer (some ⟨vb, 0, none⟩)))).run Tryz.prog w_3 = .ok t5 w_3 ∧
      nilOk t5 ∧
      Pu Tryz.prog (Instr.fieldAt 153 t5 0) fun t13 =>
      Do Tryz.prog (Instr.storeAt 39 t13 t11) w_3 fun _ w_4 => K2 w_4 := by
    intro t K2 hk2
    (with_reducible refine ldB hv1 (by (simp only [List.getElem?_toArray, List.getElem?_cons_succ, List.getElem?_cons_zero]; rfl)) ?_)
    (with_reducible refine ldB hv1 (by (simp only [List.getElem?_toArray, List.getElem?_cons_succ, List.getElem?_cons_zero]; rfl)) ?_)
    refine ⟨trivial, ?_⟩
    refine fld0 ?_
    (with_reducible refine ldB h1 (by (simp only [List.getElem?_toArray, List.getElem?_cons_succ, List.getElem?_cons_zero]; rfl)) ?_)
    (with_reducible refine bs1 rfl ?_)
    refine ⟨ldBs (h1.alloc _) rfl, ldBs (hv1.alloc _) rfl, ldBs (hv1.alloc _) rfl, ?_⟩
    refine app8 (news := [t]) (h2.alloc _) (ASrc.of_view (View.one _ _ _)) (by simp; omega) fun u w3 h6 h7 => ?_
    have hfv : ¬ foot bv vb := fun x => hvb (hS1 _ (h4 _ x))
    have hv3 := (hv1.alloc (.cells #[.int .u8 t.toNat] 5)).step h7.step hfv
    refine ⟨ldBs hv3 rfl, trivial, ?_⟩
    refine fld0 ?_
    have h13 := (h1.alloc (.cells #[.int .u8 t.toNat] 5)).step h7.step h3
    refine stB h13 (by simp) h6.shape1 fun w4 h8 h9 => ?_
    have hne : ∀ i, foot u i → i ≠ b := fun i hi => (h7.grow i hi).elim (fun x e => h3 (e ▸ x)) fun x => by have := h1.lt; simp at x; omega
    refine hk2 _ ⟨u, h8, h6.step h9 hne, fun x => hne _ x rfl, fun i hi => (h7.grow i hi).elim (h4 i) fun x => hS3 i (by simp at x; omega), h5⟩ ?_ (hv3.step h9 fun e => hvb (hS1 _ (e ▸ h5)))
    exact (((Step.refl S' w1.drew).alloc _).trans h7.step fun i hi => .inl (h4 i hi)).trans h9 fun i hi => .inl (by rw [hi]; exact h5)
  unfold wrBytes at hk
  have hk1 := hx.1
  have hk3 := hx.2
  have e1 := enc_len10 (n := x.key.length) (by omega)
  cases hg : x.gone
  · rw [hg] at hk hbox hboxd
    refine Cond_f ?_
    refine one 0 _ fun w2 h6 h7 h8 => ?_
    have hx2 := hboxd.step h7 hS2
    (with_reducible refine ldB h8 (by (simp only [List.getElem?_toArray, List.getElem?_cons_succ, List.getElem?_cons_zero]; rfl)) ?_)
    refine fld0 ?_
    (with_reducible refine ldB hx2 (by (simp only [List.getElem?_toArray, List.getElem?_cons_succ, List.getElem?_cons_zero]; rfl)) ?_)
    (with_reducible refine cf ?_); refine wtext_ok h6 (by simp; omega) (fun i hi => hS3 i (by have := h7.size; omega)) fun w3 h9 h10 => ?_
    have hx3 := hx2.step h10 hS2
    have hv3 := h8.step h10 fun e => hvb (hS1 _ e)
    (with_reducible refine ldB hv3 (by (simp only [List.getElem?_toArray, List.getElem?_cons_succ, List.getElem?_cons_zero]; rfl)) ?_)
    refine fld0 ?_
    (with_reducible refine ldB hx3 (by (simp only [List.getElem?_toArray, List.getElem?_cons_succ, List.getElem?_cons_zero]; rfl)) ?_)
    (with_reducible refine cf ?_); refine wtext_ok h9 (by simp; omega) (fun i hi => hS3 i (by have := h7.size; have := h10.size; omega)) fun w4 h11 h12 => ?_
    refine hk _ ?_ ?_
    · obtain ⟨bv, g1, g2, g3, g4, g5⟩ := h11.ex
      refine ⟨bv, g1, ?_, g3, fun i hi => hS1 _ (g4 i hi), hS1 _ g5⟩
      simpa [List.append_assoc] using g2
    · exact (hd.of_none (S := S)).trans ((stepMany (stepMany h7 h10) h12).mono hS1) fun i hi => .inl hi
  · rw [hg] at hk hbox hboxd
    refine Cond_t ?_
    refine one 1 _ fun w2 h6 h7 h8 => ?_
    have hx2 := hboxd.step h7 hS2
    (with_reducible refine ldB h8 (by (simp only [List.getElem?_toArray, List.getElem?_cons_succ, List.getElem?_cons_zero]; rfl)) ?_)
    refine fld0 ?_
    (with_reducible refine ldB hx2 (by (simp only [List.getElem?_toArray, List.getElem?_cons_succ, List.getElem?_cons_zero]; rfl)) ?_)
    (with_reducible refine cf ?_); refine wtext_ok h6 (by simp; omega) (fun i hi => hS3 i (by have := h7.size; omega)) fun w3 h9 h10 => ?_
    refine hk _ ?_ ?_
    · obtain ⟨bv, g1, g2, g3, g4, g5⟩ := h9.ex
      refine ⟨bv, g1, ?_, g3, fun i hi => hS1 _ (g4 i hi), hS1 _ g5⟩
      simpa [List.append_assoc] using g2
    · exact (hd.of_none (S := S)).trans ((stepMany h7 h10).mono hS1) fun i hi => .inl hi

def wsBytes (ws : List Wr) : List UInt8 := enc ws.length ++ ws.flatMap wrBytes
theorem flat_len {ws : List Wr} (h : ∀ x ∈ ws, Small x) : (ws.flatMap wrBytes).length ≤ 101 * ws.length := by
  induction ws with
  | nil => simp
  | cons x r ih =>
    have h1 := wrBytes_len (h x (by simp))
    have h2 := ih fun y hy => h y (by simp [hy])
    rw [List.flatMap_cons, List.length_append, List.length_cons]
    omega
theorem wput_ok {S : Nat → Prop} {w : World} {b vb : Nat} {l : List UInt8} {ws : List Wr} {sv : Value} {K : Value → World → Prop} (h : WSt S w b l) (hv : Box w vb T_p_record_writer #[.pointer (some ⟨b, 0, none⟩)]) (hvb : ¬ S vb) (hw : Writes w sv ws) (hd : ∀ i, foot sv i → ¬ S i)
    (hx : ∀ x ∈ ws, Small x) (hn : ws.length ≤ 64) (hl : l.length ≤ 300000000) (hb : ∀ i, w.heap.size ≤ i → S i)
    (hk : ∀ w', WSt S w' b (l ++ wsBytes ws) → Step S w w' → K (.tuple #[]) w') : Runs Tryz.prog F_record_put_api_Write #[.pointer (some ⟨b, 0, none⟩), sv, .func (.func F_record_PutCommit_1) #[] #[.pointer (some ⟨vb, 0, none⟩)]] w K := by
  refine c_record_put_api_Write ?_
  unfold H_record_put_api_Write
  refine l_view hw ?_
  have e1 := enc_len10 (n := ws.length) (by omega)
  (with_reducible refine cf ?_); refine wnumber_ok h (by omega) (by omega) hb fun w1 h1 h2 => ?_
  have hw1 := View.step hw h2 hd
  have hv1 := hv.step h2 hvb
  refine l_view hw1 ?_
  refine ⟨fun i wr => ∃ j : Nat, i = .int .i64 j ∧ j ≤ ws.length ∧ Step S w1 wr ∧ WSt S wr b (l ++ (enc ws.length ++ (ws.take j).flatMap wrBytes)), fun i _ => match i with | .int _ n => ws.length - n.toNat | _ => 0,
    ⟨0, rfl, by omega, Step.refl _ _, by simpa using h1⟩, ?_⟩
  rintro _ wr ⟨j, rfl, hj, hs, hst⟩
  have hwr := View.step hw1 hs hd
  have hvr := hv1.step hs hvb
  have hfl := flat_len (ws := ws.take j) fun x hy => hx x (List.mem_of_mem_take hy)
  rw [List.length_take] at hfl
  (with_reducible refine b_lss ?_)
  refine cnd (fun h3 => ?_) (fun h3 => ?_)
  · have hjl : j < ws.length := by omega
    refine vidx hwr j rfl hjl fun c o cc e hcell => ?_
    refine ldWr hjl hcell ?_
    (with_reducible refine al ?_)
    refine stW (xs := (wrCells ws[j]).toArray) (Box.new wr _ _) rfl rfl (wrVal_one _) fun w3 hb3 hs3 => ?_
    have hs4 : Step None' wr w3 := ((Step.refl None' wr).alloc _).then_new hs3 fun i hi => by omega
    refine ldW hb3 rfl ?_
    ((with_reducible refine cv ?_); simp only [List.append_toArray, List.nil_append, List.cons_append, List.append_nil])
    have z1 := h2.size
    have z2 := hs.size
    have z3 := hs4.size
    refine wone_ok (hst.step hs4) (hvr.step hs4 fun x => x) hvb (hx _ (List.getElem_mem hjl)) (by simp only [List.length_append]; omega) (fun i hi => hb i (by omega)) fun w5 h5 hs5 => ?_
    (with_reducible refine b_add (by (first | (unfold I64; omega) | omega)) ?_)
    refine ⟨⟨j + 1, by simp, by omega, stepMany (stepMany hs hs4.of_none) hs5, ?_⟩, by simp only []; omega⟩
    have e : (ws.take (j + 1)).flatMap wrBytes = (ws.take j).flatMap wrBytes ++ wrBytes ws[j] := by
      rw [List.take_add_one, List.getElem?_eq_getElem hjl, List.flatMap_append]; simp
    rw [e]
    simpa [List.append_assoc] using h5
  · have : j = ws.length := by omega
    subst this
    rw [List.take_length] at hst
    exact hk _ hst (stepMany h2 hs)

/-- a commit's bytes -/
def cBytes (c : Cm) : List UInt8 := 67 :: (enc c.time.toNat ++ wsBytes c.writes)
theorem right_small {c : Cm} (h : right c = true) : c.writes.length ≤ 64 ∧ (0 ≤ c.time ∧ c.time < 1099511627776) ∧ ∀ x ∈ c.writes, Small x := by
  simp only [right, isTime, Bool.and_eq_true, decide_eq_true_eq] at h
  refine ⟨h.2.1, h.1, fun x hx => ?_⟩
  obtain ⟨j, hj, e⟩ := List.mem_iff_getElem.1 hx
  have h1 := h.2.2
  rw [rightAll, List.all_eq_true] at h1
  have h2 := h1 j (List.mem_range.2 hj)
  rw [rightW, List.getElem?_eq_getElem hj] at h2
  simp only [isKey, isVal, Bool.and_eq_true, decide_eq_true_eq] at h2
  subst e
  exact ⟨h2.1.2, h2.2.1⟩

set_option maxRecDepth 4000 in
theorem PutCommit_ok {w : World} {v : Value} {c : Cm} {K : Value → World → Prop} (hv : CVal w v c) (hlen : c.writes.length ≤ 1000000000)
    (h1 : right c = false → ∀ w', Step None' w w' → K (.tuple #[.slice none 0 0, .int .i64 60]) w')
    (h2 : right c = true → ∀ u w', Own w' u T_uint8 1 (B8 (cBytes c)) → Made w w' u → K (.tuple #[u, .int .i64 0]) w') : Runs Tryz.prog F_record_PutCommit #[v] w K := by
  obtain ⟨sv, rfl, hw⟩ := hv
  refine c_record_PutCommit ?_
  unfold H_record_PutCommit
  refine bx ?_
  have hb : Box (w.alloc (.cells (Value.agg #[.int .i64 c.time, sv]).cells 65)) w.heap.size 65 #[.int .i64 c.time, sv] := Box.new _ _ _
  have hs : Step None' w (w.alloc (.cells (Value.agg #[.int .i64 c.time, sv]).cells 65)) := (Step.refl _ _).alloc _
  have hsz : (w.alloc (.cells (Value.agg #[.int .i64 c.time, sv]).cells 65)).heap.size = w.heap.size + 1 := by simp
  generalize (w.alloc (.cells (Value.agg #[.int .i64 c.time, sv]).cells 65)) = w1 at *
  have hw1 := View.step hw hs fun _ _ x => x
  refine ldW hb rfl ?_
  (with_reducible refine cf ?_); refine right_ok ⟨sv, rfl, hw1⟩ hlen fun w2 hs2 => ?_
  refine unot ?_
  cases hr : right c
  · exact Cond_t (h1 hr _ (hs.then_none hs2))
  refine Cond_f ?_
  obtain ⟨g1, g2, g3⟩ := right_small hr
  have hb2 := hb.step hs2 fun x => x
  have hw2 := View.step hw1 hs2 fun _ _ x => x
  have hs02 := hs.then_none hs2
  have z2 := hs2.size
  refine bs1 rfl ?_
  refine bld #[.slice (some ⟨w2.heap.size, 0, none⟩) 1 1] (by kernel_rfl) ?_
  have ow : Own (w2.alloc (.cells #[.int .u8 67] 5)) (.slice (some ⟨w2.heap.size, 0, none⟩) 1 1) T_uint8 1 (B8 [67]) := .inr ⟨_, 1, 1, #[.int .u8 67], rfl, heap_alloc_new w2 _, by omega, by decide, rfl, rfl⟩
  have hsA : Step None' w2 (w2.alloc (.cells #[.int .u8 67] 5)) := (Step.refl _ _).alloc _
  have zA : (w2.alloc (.cells #[.int .u8 67] 5)).heap.size = w2.heap.size + 1 := by simp
  generalize (w2.alloc (.cells #[.int .u8 67] 5)) = wA at *
  refine bx ?_
  have hbB : Box (wA.alloc (.cells (Value.agg #[.slice (some ⟨w2.heap.size, 0, none⟩) 1 1]).cells 153)) wA.heap.size 153 #[.slice (some ⟨w2.heap.size, 0, none⟩) 1 1] := Box.new _ _ _
  have owB := ow.alloc (.cells (Value.agg #[.slice (some ⟨w2.heap.size, 0, none⟩) 1 1]).cells 153)
  have hsB : Step None' wA (wA.alloc (.cells (Value.agg #[.slice (some ⟨w2.heap.size, 0, none⟩) 1 1]).cells 153)) := (Step.refl _ _).alloc _
  have zB : (wA.alloc (.cells (Value.agg #[.slice (some ⟨w2.heap.size, 0, none⟩) 1 1]).cells 153)).heap.size = wA.heap.size + 1 := by simp
  generalize (wA.alloc (.cells (Value.agg #[.slice (some ⟨w2.heap.size, 0, none⟩) 1 1]).cells 153)) = wB at *
  (with_reducible refine al ?_)
  refine stB (Box.new wB _ _) (by decide) rfl fun w6 hvb hs6 => ?_
  have hvb : Box w6 wB.heap.size T_p_record_writer #[.pointer (some ⟨wA.heap.size, 0, none⟩)] := hvb
  have hsC : Step None' wB w6 := ((Step.refl None' wB).alloc _).then_new hs6 fun i hi => by omega
  have z6 := hsC.size
  have z6' : wB.heap.size < w6.heap.size := hvb.lt
  have hs26 : Step None' w2 w6 := (hsA.then_none hsB).then_none hsC
  have hs06 : Step None' w w6 := hs02.then_none hs26
  have hb6 := hb2.step hs26 fun x => x
  have hw6 := View.step hw2 hs26 fun _ _ x => x
  obtain ⟨S, hS⟩ : ∃ S : Nat → Prop, S = fun i => w2.heap.size ≤ i ∧ i ≠ wB.heap.size := ⟨_, rfl⟩
  have hSv : ¬ S wB.heap.size := by rw [hS]; exact fun h => h.2 rfl
  have hSl : ∀ i, i < w2.heap.size → ¬ S i := fun i hi => by rw [hS]; exact fun h => by have := h.1; omega
  have hSn : ∀ i, wB.heap.size < i → S i := fun i hi => by rw [hS]; exact ⟨by omega, by omega⟩
  have hSw : ∀ i, S i → w.heap.size ≤ i := fun i hi => by rw [hS] at hi; have := hi.1; have := hs02.size; omega
  have wst : WSt S w6 wA.heap.size [67] := ⟨_, hbB.step hsC fun x => x, owB.step hsC fun _ _ x => x, fun x => by simp [foot, Value.ownBlock] at x; omega, fun i hi => by simp [foot, Value.ownBlock] at hi; rw [hS]; exact ⟨by omega, by omega⟩, by rw [hS]; exact ⟨by omega, by omega⟩⟩
  have hbS : ¬ S w.heap.size := hSl _ (by omega)
  have hwS : ∀ i, foot sv i → ¬ S i := fun i hi => hSl i (View.lt hw2 i hi)
  (with_reducible refine ldB hvb (by (simp only [List.getElem?_toArray, List.getElem?_cons_succ, List.getElem?_cons_zero]; rfl)) ?_)
  refine fld0 ?_
  (with_reducible refine ldB hb6 (by (simp only [List.getElem?_toArray, List.getElem?_cons_succ, List.getElem?_cons_zero]; rfl)) ?_)
  obtain ⟨tm, htm⟩ := Int.eq_ofNat_of_zero_le g2.1
  rw [htm]
  (with_reducible refine cf ?_); refine wnumber_ok wst (by omega) (by simp) (fun i hi => hSn i (by omega)) fun w7 h7 hs7 => ?_
  have hvb7 := hvb.step hs7 hSv
  have hb7 := hb6.step hs7 hbS
  have hw7 := View.step hw6 hs7 hwS
  have z7 := hs7.size
  (with_reducible refine ldB hvb7 (by (simp only [List.getElem?_toArray, List.getElem?_cons_succ, List.getElem?_cons_zero]; rfl)) ?_)
  refine fld0 ?_
  (with_reducible refine ldB hb7 (by (simp only [List.getElem?_toArray, List.getElem?_cons_succ, List.getElem?_cons_zero]; rfl)) ?_)
  have e1 := enc_len10 (n := tm) (by omega)
  (with_reducible refine cf ?_); refine wput_ok h7 hvb7 hSv hw7 hwS g3 g1 (by simp; omega) (fun i hi => hSn i (by omega)) fun w8 h8 hs8 => ?_
  have hvb8 := hvb7.step hs8 hSv
  (with_reducible refine ldB hvb8 (by (simp only [List.getElem?_toArray, List.getElem?_cons_succ, List.getElem?_cons_zero]; rfl)) ?_)
  refine ⟨trivial, ?_⟩
  obtain ⟨bv, k1, k2, k3, k4, k5⟩ := h8.ex
  refine fld0 ?_
  (with_reducible refine ldB k1 (by (simp only [List.getElem?_toArray, List.getElem?_cons_succ, List.getElem?_cons_zero]; rfl)) ?_)
  refine h2 hr _ _ ?_ ⟨hs06.then_new (stepMany hs7 hs8) hSw, fun i hi => hSw i (k4 i hi)⟩
  rw [cBytes, htm, Int.toNat_natCast]
  simpa using k2
end Go.Proofs.VvS

namespace Go.Proofs.VvS
open Go Go.Proofs Vv Go.RowKit

/-! ### reading: where, and whether there was a fault -/
def rnum (l : List UInt8) (s : Nat × Bool) (most : Nat) : Nat × Nat × Bool := if s.2 then (0, s) else match take l s.1 with
  | none => (0, s.1, true)
  | some (n, e) => if most < n then (0, s.1, true) else (n, e, false)
def rtext (l : List UInt8) (s : Nat × Bool) (most : Nat) : List UInt8 × Nat × Bool := if s.2 then ([], s) else match takeText l s.1 most with
  | none => ([], s.1, true)
  | some (t, e) => (t, e, false)
def rflag (l : List UInt8) (s : Nat × Bool) : Bool × Nat × Bool := if s.2 then (false, s) else match l[s.1]? with
  | none => (false, s.1, true)
  | some c => if 1 < c.toNat then (false, s.1, true) else (decide (c.toNat = 1), s.1 + 1, false)
/-- a reader of these bytes -/
structure RSt (w : World) (b : Nat) (v : Value) (l : List UInt8) (s : Nat × Bool) : Prop where
  box : Box w b T_record_reader #[v, .int .i64 s.1, .bool s.2]
  row : Bytes w v l
  no : ¬ foot v b
theorem RSt.step {w w' : World} {b : Nat} {v : Value} {l : List UInt8} {s : Nat × Bool} {S : Nat → Prop} (h : RSt w b v l s) (hs : Step S w w') (h1 : ¬ S b) (h2 : ∀ i, foot v i → ¬ S i) : RSt w' b v l s := ⟨h.box.step hs h1, View.step h.row hs h2, h.no⟩
theorem RSt.put {w w' : World} {b : Nat} {v : Value} {l : List UInt8} {s s' : Nat × Bool} (h : RSt w b v l s) (hb : Box w' b T_record_reader #[v, .int .i64 s'.1, .bool s'.2]) (hs : Step (fun i => i = b) w w') : RSt w' b v l s' :=
  ⟨hb, View.step h.row hs fun _ hi e => h.no (e ▸ hi), h.no⟩

theorem rnumber_ok {w : World} {b : Nat} {v : Value} {l : List UInt8} {s : Nat × Bool} {most : Nat} {K : Value → World → Prop} (h : RSt w b v l s) (hl : l.length ≤ 1000000000) (hm : most < 2 ^ 63)
    (hk : ∀ w', RSt w' b v l (rnum l s most).2 → Step (fun i => i = b) w w' → K (.int .i64 (rnum l s most).1) w') : Runs Tryz.prog F_record_reader_number #[.pointer (some ⟨b, 0, none⟩), .int .i64 most] w K := by
  obtain ⟨at', bad⟩ := s
  have hb := h.box
  simp only [] at hb
  refine c_record_reader_number ?_
  unfold H_record_reader_number
  have hbd := hb.drew
  have hrd : Bytes w.drew v l := View.drew h.row
  refine ⟨trivial, ?_⟩
  refine fld0 ?_
  (with_reducible refine ldB hbd (by (simp only [List.getElem?_toArray, List.getElem?_cons_succ, List.getElem?_cons_zero]; rfl)) ?_)
  refine ⟨trivial, ?_⟩
  refine fld0 ?_
  (with_reducible refine ldB hbd (by (simp only [List.getElem?_toArray, List.getElem?_cons_succ, List.getElem?_cons_zero]; rfl)) ?_)
  (with_reducible refine cf ?_); refine Take_ok hrd hl ?_
  have s0 : Step (fun i => i = b) w w.drew := (Step.refl _ w).drew
  have fin : ∀ (J : World → Prop), (∀ w2, Box w2 b T_record_reader #[v, .int .i64 at', .bool true] → Step (fun i => i = b) w w2 → J w2) →
      ∀ w1, Box w1 b T_record_reader #[v, .int .i64 at', .bool bad] → Step (fun i => i = b) w w1 →
      (nilOk (.pointer (some ⟨b, 0, none⟩)) ∧
      Pu Tryz.prog (Instr.fieldAt 213 (.pointer (some ⟨b, 0, none⟩)) 2) fun t37 =>
      Do Tryz.prog (Instr.storeAt 4 t37 (Value.bool true)) w1 fun _ w_7 =>
      J w_7) := by
    intro J hJ w1 hb1 hs1
    refine ⟨trivial, ?_⟩
    refine fld0 ?_
    refine stB hb1 (by simp) rfl fun w2 hb2 hs2 => ?_
    exact hJ w2 hb2 (stepMany hs1 hs2)
  cases ht : take l at' with
  | none =>
    rw [tkVal]
    (with_reducible refine ext3_0 ?_); (with_reducible refine ext3_1 ?_); (with_reducible refine ext3_2 ?_)
    intro J hJ
    have Jt : ∀ w2, Box w2 b T_record_reader #[v, .int .i64 at', .bool true] → Step (fun i => i = b) w w2 → J w2 := fun w2 hb2 hs2 => hJ _ (by
      refine ⟨trivial, ?_⟩
      refine fld0 ?_
      (with_reducible refine ldB hb2 (by (simp only [List.getElem?_toArray, List.getElem?_cons_succ, List.getElem?_cons_zero]; rfl)) ?_)
      refine Cond_t ?_
      have e : rnum l (at', bad) most = (0, at', true) := by
        unfold rnum
        cases bad
        · simp [ht]
        · rfl
      rw [e] at hk
      exact hk _ (h.put hb2 hs2) hs2)
    refine ⟨trivial, ?_⟩
    refine fld0 ?_
    (with_reducible refine ldB hbd (by (simp only [List.getElem?_toArray, List.getElem?_cons_succ, List.getElem?_cons_zero]; rfl)) ?_)
    cases bad
    · refine Gate_is rfl ?_
      (with_reducible refine unot ?_)
      refine Gate_not rfl ?_
      exact fin J Jt _ hbd s0
    · exact Gate_not rfl (fin J Jt _ hbd s0)
  | some p =>
    obtain ⟨n, e⟩ := p
    obtain ⟨q1, q2, q3⟩ := take_le ht
    rw [tkVal]
    (with_reducible refine ext3_0 ?_); (with_reducible refine ext3_1 ?_); (with_reducible refine ext3_2 ?_)
    intro J hJ
    have Jt : (bad = true ∨ most < n) → ∀ w2, Box w2 b T_record_reader #[v, .int .i64 at', .bool true] → Step (fun i => i = b) w w2 → J w2 := fun hc w2 hb2 hs2 => hJ _ (by
      refine ⟨trivial, ?_⟩
      refine fld0 ?_
      (with_reducible refine ldB hb2 (by (simp only [List.getElem?_toArray, List.getElem?_cons_succ, List.getElem?_cons_zero]; rfl)) ?_)
      refine Cond_t ?_
      have e : rnum l (at', bad) most = (0, at', true) := by
        unfold rnum
        cases bad
        · simp at hc; simp [ht, hc]
        · rfl
      rw [e] at hk
      exact hk _ (h.put hb2 hs2) hs2)
    refine ⟨trivial, ?_⟩
    refine fld0 ?_
    (with_reducible refine ldB hbd (by (simp only [List.getElem?_toArray, List.getElem?_cons_succ, List.getElem?_cons_zero]; rfl)) ?_)
    cases hbad : bad
    · subst hbad
      refine Gate_is rfl ?_
      (with_reducible refine unot ?_)
      refine Gate_is rfl ?_
      (with_reducible refine cvK (inU64 (by omega)) ?_); (with_reducible refine b_gtr ?_)
      refine ⟨trivial, ?_⟩
      refine fld0 ?_
      refine stB hbd (by simp) rfl fun w2 hb2 hs2 => ?_
      by_cases hmn : most < n
      · rw [decide_eq_true (by omega : (most : Int) < n)] at hb2
        exact Jt (.inr hmn) w2 hb2 (stepMany s0 hs2)
      · rw [decide_eq_false (by omega : ¬ (most : Int) < n)] at hb2
        have hb2 : Box w2 b T_record_reader #[v, .int .i64 at', .bool false] := hb2
        refine hJ _ ?_
        refine ⟨trivial, ?_⟩
        refine fld0 ?_
        (with_reducible refine ldB hb2 (by (simp only [List.getElem?_toArray, List.getElem?_cons_succ, List.getElem?_cons_zero]; rfl)) ?_)
        refine Cond_f ?_
        refine ⟨trivial, ?_⟩
        refine fld0 ?_
        refine stB hb2 (by simp) rfl fun w3 hb3 hs3 => ?_
        (with_reducible refine cvK (in64 (by (first | (unfold I64; omega) | omega))) ?_)
        have er : rnum l (at', false) most = (n, e, false) := by simp [rnum, ht, hmn]
        rw [er] at hk
        exact hk _ (h.put hb3 (stepMany (stepMany s0 hs2) hs3)) (stepMany (stepMany s0 hs2) hs3)
    · exact Gate_not rfl (fin J (Jt (.inl hbad)) _ hbd s0)

theorem rtext_ok {w : World} {b : Nat} {v : Value} {l : List UInt8} {s : Nat × Bool} {most : Nat} {K : Value → World → Prop} (h : RSt w b v l s) (hl : l.length ≤ 1000000000) (hm : most < 2 ^ 62)
    (hk : ∀ w', RSt w' b v l (rtext l s most).2 → Step (fun i => i = b) w w' → K (Str (rtext l s most).1) w') : Runs Tryz.prog F_record_reader_text #[.pointer (some ⟨b, 0, none⟩), .int .i64 most] w K := by
  obtain ⟨at', bad⟩ := s
  have hb := h.box
  simp only [] at hb
  refine c_record_reader_text ?_
  unfold H_record_reader_text
  have hbd := hb.drew
  have hrd : Bytes w.drew v l := View.drew h.row
  refine ⟨trivial, ?_⟩
  refine fld0 ?_
  (with_reducible refine ldB hbd (by (simp only [List.getElem?_toArray, List.getElem?_cons_succ, List.getElem?_cons_zero]; rfl)) ?_)
  refine ⟨trivial, ?_⟩
  refine fld0 ?_
  (with_reducible refine ldB hbd (by (simp only [List.getElem?_toArray, List.getElem?_cons_succ, List.getElem?_cons_zero]; rfl)) ?_)
  (with_reducible refine cf ?_); refine TakeText_ok hrd hl (by unfold I64; omega) ?_
  have s0 : Step (fun i => i = b) w w.drew := (Step.refl _ w).drew
  cases ht : takeText l at' most with
  | none =>
    rw [txVal]
    (with_reducible refine ext3_0 ?_); (with_reducible refine ext3_1 ?_); (with_reducible refine ext3_2 ?_)
    intro J hJ
    have Jt : ∀ w2, Box w2 b T_record_reader #[v, .int .i64 at', .bool true] → Step (fun i => i = b) w w2 → J w2 := fun w2 hb2 hs2 => hJ _ (by
      refine ⟨trivial, ?_⟩
      refine fld0 ?_
      (with_reducible refine ldB hb2 (by (simp only [List.getElem?_toArray, List.getElem?_cons_succ, List.getElem?_cons_zero]; rfl)) ?_)
      refine Cond_t ?_
      have e : rtext l (at', bad) most = ([], at', true) := by
        unfold rtext
        cases bad
        · simp [ht]
        · rfl
      rw [e] at hk
      exact hk _ (h.put hb2 hs2) hs2)
    refine ⟨trivial, ?_⟩
    refine fld0 ?_
    (with_reducible refine ldB hbd (by (simp only [List.getElem?_toArray, List.getElem?_cons_succ, List.getElem?_cons_zero]; rfl)) ?_)
    cases bad
    · refine Gate_is rfl ?_
      (with_reducible refine unot ?_)
      refine ⟨trivial, ?_⟩
      refine fld0 ?_
      refine stB hbd (by simp) rfl fun w2 hb2 hs2 => ?_
      exact Jt w2 hb2 (stepMany s0 hs2)
    · refine Gate_not rfl ?_
      refine ⟨trivial, ?_⟩
      refine fld0 ?_
      refine stB hbd (by simp) rfl fun w2 hb2 hs2 => ?_
      exact Jt w2 hb2 (stepMany s0 hs2)
  | some p =>
    obtain ⟨t, e⟩ := p
    rw [txVal]
    (with_reducible refine ext3_0 ?_); (with_reducible refine ext3_1 ?_); (with_reducible refine ext3_2 ?_)
    intro J hJ
    refine ⟨trivial, ?_⟩
    refine fld0 ?_
    (with_reducible refine ldB hbd (by (simp only [List.getElem?_toArray, List.getElem?_cons_succ, List.getElem?_cons_zero]; rfl)) ?_)
    cases bad
    · refine Gate_is rfl ?_
      (with_reducible refine unot ?_)
      refine ⟨trivial, ?_⟩
      refine fld0 ?_
      refine stB hbd (by simp) rfl fun w2 hb2 hs2 => ?_
      have hb2 : Box w2 b T_record_reader #[v, .int .i64 at', .bool false] := hb2
      refine hJ _ ?_
      refine ⟨trivial, ?_⟩
      refine fld0 ?_
      (with_reducible refine ldB hb2 (by (simp only [List.getElem?_toArray, List.getElem?_cons_succ, List.getElem?_cons_zero]; rfl)) ?_)
      refine Cond_f ?_
      refine ⟨trivial, ?_⟩
      refine fld0 ?_
      refine stB hb2 (by simp) rfl fun w3 hb3 hs3 => ?_
      have er : rtext l (at', false) most = (t, e, false) := by simp [rtext, ht]
      rw [er] at hk
      exact hk _ (h.put hb3 (stepMany (stepMany s0 hs2) hs3)) (stepMany (stepMany s0 hs2) hs3)
    · refine Gate_not rfl ?_
      refine ⟨trivial, ?_⟩
      refine fld0 ?_
      refine stB hbd (by simp) rfl fun w2 hb2 hs2 => ?_
      have hb2 : Box w2 b T_record_reader #[v, .int .i64 at', .bool true] := hb2
      refine hJ _ ?_
      refine ⟨trivial, ?_⟩
      refine fld0 ?_
      (with_reducible refine ldB hb2 (by (simp only [List.getElem?_toArray, List.getElem?_cons_succ, List.getElem?_cons_zero]; rfl)) ?_)
      refine Cond_t ?_
      exact hk _ (h.put hb2 (stepMany s0 hs2)) (stepMany s0 hs2)

theorem rtime_ok {w : World} {b : Nat} {v : Value} {l : List UInt8} {s : Nat × Bool} {K : Value → World → Prop} (h : RSt w b v l s) (hl : l.length ≤ 1000000000)
    (hk : ∀ w', RSt w' b v l (rnum l s 1099511627775).2 → Step (fun i => i = b) w w' → K (.int .i64 (rnum l s 1099511627775).1) w') : Runs Tryz.prog F_record_reader_time #[.pointer (some ⟨b, 0, none⟩)] w K := by
  refine c_record_reader_time ?_
  unfold H_record_reader_time
  (with_reducible refine cf ?_); exact rnumber_ok (most := 1099511627775) h hl (by decide) hk

theorem rflag_ok {w : World} {b : Nat} {v : Value} {l : List UInt8} {s : Nat × Bool} {K : Value → World → Prop} (h : RSt w b v l s) (hs : s.1 ≤ 2000000000)
    (hk : ∀ w', RSt w' b v l (rflag l s).2 → Step (fun i => i = b) w w' → K (.bool (rflag l s).1) w') : Runs Tryz.prog F_record_reader_flag #[.pointer (some ⟨b, 0, none⟩)] w K := by
  obtain ⟨at', bad⟩ := s
  have hb := h.box
  simp only [] at hb hs
  refine c_record_reader_flag ?_
  unfold H_record_reader_flag
  have hbd := hb.drew
  have hrd : Bytes w.drew v l := View.drew h.row
  have s0 : Step (fun i => i = b) w w.drew := (Step.refl _ w).drew
  intro J hJ
  have Jt : rflag l (at', bad) = (false, at', true) → ∀ w2, Box w2 b T_record_reader #[v, .int .i64 at', .bool true] → Step (fun i => i = b) w w2 → J w2 := fun e w2 hb2 hs2 => hJ _ (by
    refine ⟨trivial, ?_⟩
    refine fld0 ?_
    (with_reducible refine ldB hb2 (by (simp only [List.getElem?_toArray, List.getElem?_cons_succ, List.getElem?_cons_zero]; rfl)) ?_)
    refine Cond_t ?_
    rw [e] at hk
    exact hk _ (h.put hb2 hs2) hs2)
  refine ⟨trivial, ?_⟩
  refine fld0 ?_
  (with_reducible refine ldB hbd (by (simp only [List.getElem?_toArray, List.getElem?_cons_succ, List.getElem?_cons_zero]; rfl)) ?_)
  cases bad
  · refine Gate_is rfl ?_
    refine ⟨trivial, ?_⟩
    refine fld0 ?_
    (with_reducible refine ldB hbd (by (simp only [List.getElem?_toArray, List.getElem?_cons_succ, List.getElem?_cons_zero]; rfl)) ?_)
    refine ⟨trivial, ?_⟩
    refine fld0 ?_
    (with_reducible refine ldB hbd (by (simp only [List.getElem?_toArray, List.getElem?_cons_succ, List.getElem?_cons_zero]; rfl)) ?_)
    refine l_view hrd ?_
    (with_reducible refine b_geq ?_)
    refine gt_f (fun h1 => ?_) (fun h1 => ?_)
    · have hlt : at' < l.length := by omega
      have hg : l[at']? = some l[at'] := List.getElem?_eq_getElem hlt
      refine ⟨trivial, ?_⟩
      refine fld0 ?_
      (with_reducible refine ldB hbd (by (simp only [List.getElem?_toArray, List.getElem?_cons_succ, List.getElem?_cons_zero]; rfl)) ?_)
      refine ⟨trivial, ?_⟩
      refine fld0 ?_
      (with_reducible refine ldB hbd (by (simp only [List.getElem?_toArray, List.getElem?_cons_succ, List.getElem?_cons_zero]; rfl)) ?_)
      refine bidx hrd at' rfl hlt fun p _ hp => ?_
      refine ld hp ?_
      (with_reducible refine b_gtr ?_)
      refine ⟨trivial, ?_⟩
      refine fld0 ?_
      refine stB hbd (by simp) rfl fun w2 hb2 hs2 => ?_
      by_cases h2 : 1 < (l[at']).toNat
      · rw [decide_eq_true (by omega : (1 : Int) < (l[at']).toNat)] at hb2
        exact Jt (by simp [rflag, hg, h2]) w2 hb2 (stepMany s0 hs2)
      · rw [decide_eq_false (by omega : ¬ (1 : Int) < (l[at']).toNat)] at hb2
        have hb2 : Box w2 b T_record_reader #[v, .int .i64 at', .bool false] := hb2
        have er : rflag l (at', false) = (decide ((l[at']).toNat = 1), at' + 1, false) := by simp [rflag, hg, h2]
        rw [er] at hk
        refine hJ _ ?_
        refine ⟨trivial, ?_⟩
        refine fld0 ?_
        (with_reducible refine ldB hb2 (by (simp only [List.getElem?_toArray, List.getElem?_cons_succ, List.getElem?_cons_zero]; rfl)) ?_)
        refine Cond_f ?_
        refine ⟨trivial, ?_⟩
        refine fld0 ?_
        (with_reducible refine ldB hb2 (by (simp only [List.getElem?_toArray, List.getElem?_cons_succ, List.getElem?_cons_zero]; rfl)) ?_)
        (with_reducible refine b_add (by (first | (unfold I64; omega) | omega)) ?_)
        refine ⟨trivial, ?_⟩
        refine fld0 ?_
        refine stB hb2 (by simp) rfl fun w3 hb3 hs3 => ?_
        have hb3 : Box w3 b T_record_reader #[v, .int .i64 ((at' : Int) + 1), .bool false] := hb3
        have hbd3 := hb3.drew
        have hrst : RSt w3 b v l (at' + 1, false) := h.put (by simpa using hb3) (stepMany (stepMany s0 hs2) hs3)
        refine ⟨trivial, ?_⟩
        refine fld0 ?_
        (with_reducible refine ldB hbd3 (by (simp only [List.getElem?_toArray, List.getElem?_cons_succ, List.getElem?_cons_zero]; rfl)) ?_)
        refine ⟨trivial, ?_⟩
        refine fld0 ?_
        (with_reducible refine ldB hbd3 (by (simp only [List.getElem?_toArray, List.getElem?_cons_succ, List.getElem?_cons_zero]; rfl)) ?_)
        (with_reducible refine b_sub (by (first | (unfold I64; omega) | omega)) ?_)
        refine bidx (View.drew hrst.row) at' (by omega) hlt fun p2 _ hp2 => ?_
        refine ld hp2 ?_
        (with_reducible refine b_eql ?_)
        have e1 : decide (((l[at']).toNat : Int) = 1) = decide ((l[at']).toNat = 1) := by congr 1; apply propext; omega
        rw [e1]
        exact hk _ ⟨hrst.box.drew, View.drew hrst.row, hrst.no⟩ (stepMany (stepMany s0 hs2) hs3).drew
    · have hg : l[at']? = none := List.getElem?_eq_none (by omega)
      refine ⟨trivial, ?_⟩
      refine fld0 ?_
      refine stB hbd (by simp) rfl fun w2 hb2 hs2 => ?_
      exact Jt (by simp [rflag, hg]) w2 hb2 (stepMany s0 hs2)
  · refine Gate_not rfl ?_
    refine ⟨trivial, ?_⟩
    refine fld0 ?_
    refine stB hbd (by simp) rfl fun w2 hb2 hs2 => ?_
    exact Jt rfl w2 hb2 (stepMany s0 hs2)
end Go.Proofs.VvS

namespace Go.Proofs.VvS
open Go Go.Proofs Vv Go.RowKit

def rwr (l : List UInt8) (s : Nat × Bool) : Wr × Nat × Bool :=
  let f := rflag l s
  let k := rtext l f.2 16
  if f.1 then (⟨k.1, [], true⟩, k.2) else (⟨k.1, (rtext l k.2 64).1, false⟩, (rtext l k.2 64).2)
theorem rtext_at {l : List UInt8} {s : Nat × Bool} {m : Nat} (h : s.1 ≤ l.length) : (rtext l s m).2.1 ≤ l.length := by
  unfold rtext
  split
  · exact h
  · split
    · exact h
    · rename_i t e ht
      unfold takeText at ht
      split at ht
      · cases ht
      · rename_i n e' hq
        obtain ⟨h1, h2, h3⟩ := take_le hq
        split at ht
        · cases ht
        · cases ht; simp only []; omega
theorem rflag_at {l : List UInt8} {s : Nat × Bool} (h : s.1 ≤ l.length) : (rflag l s).2.1 ≤ l.length := by
  unfold rflag
  split
  · exact h
  · split
    · exact h
    · rename_i c hc
      have := (List.getElem?_eq_some_iff.1 hc).1
      split
      · exact h
      · exact this
theorem rnum_at {l : List UInt8} {s : Nat × Bool} {m : Nat} (h : s.1 ≤ l.length) : (rnum l s m).2.1 ≤ l.length := by
  unfold rnum
  split
  · exact h
  · split
    · exact h
    · rename_i n e hq
      obtain ⟨h1, h2, h3⟩ := take_le hq
      split
      · exact h
      · exact h1

theorem rone_ok {w : World} {b vb : Nat} {v : Value} {l : List UInt8} {s : Nat × Bool} {K : Value → World → Prop} (h : RSt w b v l s) (hv : Box w vb T_p_record_reader #[.pointer (some ⟨b, 0, none⟩)]) (hvb : vb ≠ b) (hl : l.length ≤ 1000000000) (hs : s.1 ≤ l.length)
    (hk : ∀ w', RSt w' b v l (rwr l s).2 → Step (fun i => i = b) w w' → K (wrVal (rwr l s).1) w') : Runs Tryz.prog F_record_Commit_1_1 #[.pointer (some ⟨vb, 0, none⟩)] w K := by
  refine c_record_Commit_1_1 ?_
  unfold H_record_Commit_1_1
  (with_reducible refine al ?_)
  have hr1 : Box (w.alloc (.cells (Value.agg #[Str [], Str [], .bool false]).cells 111)) w.heap.size 111 #[Str [], Str [], .bool false] := Box.new _ _ _
  have s1 : Step (fun i => i = b) w (w.alloc (.cells (Value.agg #[Str [], Str [], .bool false]).cells 111)) := (Step.refl _ _).alloc _
  have z1 : (w.alloc (.cells (Value.agg #[Str [], Str [], .bool false]).cells 111)).heap.size = w.heap.size + 1 := by simp
  have h1 : RSt (w.alloc (.cells (Value.agg #[Str [], Str [], .bool false]).cells 111)) b v l s := h.step ((Step.refl None' _).alloc _) (fun x => x) (fun _ _ x => x)
  have hv1 := hv.alloc (.cells (Value.agg #[Str [], Str [], .bool false]).cells 111)
  have hbl := h.box.lt
  generalize (w.alloc (.cells (Value.agg #[Str [], Str [], .bool false]).cells 111)) = w1 at *
  (with_reducible refine ldB hv1 (by (simp only [List.getElem?_toArray, List.getElem?_cons_succ, List.getElem?_cons_zero]; rfl)) ?_)
  (with_reducible refine cf ?_); refine rflag_ok h1 (by omega) fun w2 h2 s2 => ?_
  have hv2 := hv1.step s2 hvb
  have hr2 := hr1.step s2 (by omega)
  refine bld #[Str [], Str [], .bool (rflag l s).1] (by kernel_rfl) ?_
  (with_reducible refine al ?_)
  have z2 := s2.size
  refine stW (Box.new w2 _ _) rfl rfl (by intro u hu; simp at hu; rcases hu with rfl | rfl | rfl <;> rfl) fun w3 hb3 s3 => ?_
  have s23 : Step None' w2 w3 := ((Step.refl None' w2).alloc _).then_new s3 fun i hi => by omega
  have h3 : RSt w3 b v l (rflag l s).2 := h2.step s23 (fun x => x) fun _ _ x => x
  have hv3 := hv2.step s23 fun x => x
  have hr3 := hr2.step s23 fun x => x
  have z3 := s23.size
  have hb3 : Box w3 w2.heap.size 111 #[Str [], Str [], .bool (rflag l s).1] := hb3
  (with_reducible refine ldB hv3 (by (simp only [List.getElem?_toArray, List.getElem?_cons_succ, List.getElem?_cons_zero]; rfl)) ?_)
  (with_reducible refine cf ?_); refine rtext_ok (most := 16) h3 hl (by decide) fun w4 h4 s4 => ?_
  have hv4 := hv3.step s4 hvb
  have hr4 := hr3.step s4 (by omega)
  have hb4 := hb3.step s4 (by have := h2.box.lt; omega)
  refine fld0 ?_
  refine stB hb4 (by simp) rfl fun w5 hb5 s5 => ?_
  have hb5 : Box w5 w2.heap.size 111 #[Str (rtext l (rflag l s).2 16).1, Str [], .bool (rflag l s).1] := hb5
  have h5 : RSt w5 b v l (rtext l (rflag l s).2 16).2 := h4.step s5 (by have := h2.box.lt; omega) (fun i hi => by have := View.lt h2.row i hi; omega)
  have hv5 := hv4.step s5 (by have := hv2.lt; omega)
  have hr5 := hr4.step s5 (by omega)
  have S5 : Step (fun i => i = b) w w5 := ((stepMany s1 s2).trans s23.of_none fun i hi => .inl hi).trans s4 (fun i hi => .inl hi) |>.trans s5 fun i hi => .inr (by omega)
  refine fld0 ?_
  (with_reducible refine ldB hb5 (by (simp only [List.getElem?_toArray, List.getElem?_cons_succ, List.getElem?_cons_zero]; rfl)) ?_)
  refine unot ?_
  have hat := rtext_at (m := 16) (rflag_at hs)
  cases hg : (rflag l s).1
  · rw [hg] at hb5
    refine Cond_t ?_
    have er : rwr l s = (⟨(rtext l (rflag l s).2 16).1, (rtext l (rtext l (rflag l s).2 16).2 64).1, false⟩, (rtext l (rtext l (rflag l s).2 16).2 64).2) := by unfold rwr; simp only [hg]; rfl
    rw [er] at hk
    (with_reducible refine ldB hv5 (by (simp only [List.getElem?_toArray, List.getElem?_cons_succ, List.getElem?_cons_zero]; rfl)) ?_)
    (with_reducible refine cf ?_); refine rtext_ok (most := 64) h5 hl (by decide) fun w6 h6 s6 => ?_
    have hb6 := hb5.step s6 (by have := h2.box.lt; omega)
    have hr6 := hr5.step s6 (by omega)
    refine fld0 ?_
    refine stB hb6 (by simp) rfl fun w7 hb7 s7 => ?_
    have hb7 : Box w7 w2.heap.size 111 #[Str (rtext l (rflag l s).2 16).1, Str (rtext l (rtext l (rflag l s).2 16).2 64).1, .bool false] := hb7
    have hr7 := hr6.step s7 (by omega)
    refine ldW hb7 rfl ?_
    refine stW hr7 rfl rfl (by intro u hu; simp at hu; rcases hu with rfl | rfl | rfl <;> rfl) fun w8 hr8 s8 => ?_
    refine rvW hr8 rfl ?_
    have h8 := (h6.step s7 (by have := h2.box.lt; omega) (fun i hi => by have := View.lt h2.row i hi; omega)).step s8 (by omega) (fun i hi => by have := View.lt h.row i hi; omega)
    refine hk _ h8 ?_
    exact ((S5.trans s6 fun i hi => .inl hi).trans s7 fun i hi => .inr (by omega)).trans s8 fun i hi => .inr (by omega)
  · rw [hg] at hb5
    refine Cond_f ?_
    have er : rwr l s = (⟨(rtext l (rflag l s).2 16).1, [], true⟩, (rtext l (rflag l s).2 16).2) := by unfold rwr; simp only [hg]; rfl
    rw [er] at hk
    refine ldW hb5 rfl ?_
    refine stW hr5 rfl rfl (by intro u hu; simp at hu; rcases hu with rfl | rfl | rfl <;> rfl) fun w8 hr8 s8 => ?_
    refine rvW hr8 rfl ?_
    have h8 := h5.step s8 (by omega) (fun i hi => by have := View.lt h.row i hi; omega)
    refine hk _ h8 ?_
    exact S5.trans s8 fun i hi => .inr (by omega)
end Go.Proofs.VvS

namespace Go.Proofs.VvS
open Go Go.Proofs Vv Go.RowKit

def rlist (l : List UInt8) : Nat → Nat × Bool → List Wr × Nat × Bool
  | 0, s => ([], s)
  | k + 1, s => if s.2 then ([], s) else ((rwr l s).1 :: (rlist l k (rwr l s).2).1, (rlist l k (rwr l s).2).2)
theorem rwr_at {l : List UInt8} {s : Nat × Bool} (h : s.1 ≤ l.length) : (rwr l s).2.1 ≤ l.length := by
  unfold rwr
  simp only []
  split
  · exact rtext_at (rflag_at h)
  · exact rtext_at (rtext_at (rflag_at h))

set_option maxRecDepth 4000 in
theorem rlist_ok {w : World} {b vb : Nat} {v : Value} {l : List UInt8} {s : Nat × Bool} {K : Value → World → Prop} (h : RSt w b v l s) (hv : Box w vb T_p_record_reader #[.pointer (some ⟨b, 0, none⟩)]) (hvb : vb ≠ b) (hl : l.length ≤ 1000000000) (hs : s.1 ≤ l.length)
    (hk : ∀ u w', RSt w' b v l (rlist l (rnum l s 64).1 (rnum l s 64).2).2 → Step (fun i => i = b) w w' → Own w' u T_api_Write 3 (wrRow (rlist l (rnum l s 64).1 (rnum l s 64).2).1) → (∀ i, foot u i → w.heap.size ≤ i) → K u w') :
    Runs Tryz.prog F_record_list_api_Write #[.pointer (some ⟨b, 0, none⟩), .int .i64 64, .func (.func F_record_Commit_1_1) #[] #[.pointer (some ⟨vb, 0, none⟩)]] w K := by
  refine c_record_list_api_Write ?_
  unfold H_record_list_api_Write
  (with_reducible refine cf ?_); refine rnumber_ok (most := 64) h hl (by decide) fun w1 h1 s1 => ?_
  have hn64 : (rnum l s 64).1 ≤ 64 := by
    unfold rnum
    split
    · simp
    · split
      · simp
      · split
        · simp
        · simp only []; omega
  generalize hn0 : (rnum l s 64).1 = n0 at *
  have hat1 := rnum_at (m := 64) hs
  generalize (rnum l s 64).2 = t0 at *
  refine ⟨fun u x wr => ∃ (k : Nat) (ws : List Wr) (t : Nat × Bool), x = .int .i64 k ∧ k ≤ 64 ∧ ws.length + k ≤ 64 ∧ t.1 ≤ l.length ∧ RSt wr b v l t ∧ Own wr u T_api_Write 3 (wrRow ws) ∧ (∀ i, foot u i → w.heap.size ≤ i) ∧ Step (fun i => i = b) w wr ∧
      (ws ++ (rlist l k t).1, (rlist l k t).2) = rlist l n0 t0, fun _ x _ => match x with | .int _ m => m.toNat | _ => 0,
    ⟨n0, [], t0, rfl, hn64, by simpa using hn64, hat1, h1, Own.nil _ _ _, fun i hi => by simp [None'] at hi, s1, by simp⟩, ?_⟩
  rintro u _ wr ⟨k, ws, t, rfl, hk64, hwk, hta, hr, ho, hf, hst, he⟩
  have hvr := hv.step hst hvb
  intro J1 hJ1
  have fin : (rlist l k t) = ([], t) → J1 (.bool false) wr := fun e => hJ1 _ _ (Cond_f (by
    rw [e, List.append_nil] at he
    rw [← he] at hk
    exact hk u wr hr hst ho hf))
  (with_reducible refine b_gtr ?_)
  have hz : ¬ (0 : Int) < k → rlist l k t = ([], t) := fun h3 => by
    have : k = 0 := by omega
    subst this
    rfl
  refine gt_t (fun h2 => ?_) (fun h2 => fin (hz h2))
  clear hz
  obtain ⟨k, rfl⟩ : ∃ k', k = k' + 1 := ⟨k - 1, by omega⟩
  refine ⟨trivial, ?_⟩
  refine fld0 ?_
  have hrb := hr.box
  (with_reducible refine ldB hrb (by (simp only [List.getElem?_toArray, List.getElem?_cons_succ, List.getElem?_cons_zero]; rfl)) ?_)
  refine unot ?_
  cases ht : t.2
  · rw [rlist, ht] at he
    refine hJ1 _ _ (Cond_t ?_)
    ((with_reducible refine cv ?_); simp only [List.append_toArray, List.nil_append, List.cons_append, List.append_nil])
    refine rone_ok hr hvr hvb hl hta fun w3 h3 s3 => ?_
    have ho3 := ho.step s3 fun i hi => by have := hf i hi; have := h.box.lt; omega
    refine bsS (size := 3) rfl (by decide) ?_
    refine app (news := wrCells (rwr l t).1) (m := 1) (ho3.alloc _) (ASrc.of_view (View.oneS _ _ _)) (wrVal_one _) (fun m hm => by have := wrRow_length ws; unfold maxLen; omega) fun u4 w4 h5 h6 => ?_
    (with_reducible refine b_sub (by (first | (unfold I64; omega) | omega)) ?_)
    have s34 : Step None' w3 (w3.alloc (.cells (wrVal (rwr l t).1).cells T_api_Write)) := (Step.refl _ _).alloc _
    have hnb : ∀ i, foot u i → i ≠ b := fun i hi => by have := hf i hi; have := h.box.lt; omega
    refine ⟨⟨k, ws ++ [(rwr l t).1], (rwr l t).2, by simp, by omega, by simp; omega, rwr_at hta, ?_, ?_, ?_, ?_, ?_⟩, by simp only []; omega⟩
    · exact (h3.step s34 (fun x => x) fun _ _ x => x).step h6.step (fun x => hnb _ x rfl) fun i hi x => by have := hf i x; have := View.lt h.row i hi; omega
    · simpa [wrRow] using h5
    · intro i hi
      exact (h6.grow i hi).elim (hf i) fun x => by have := hst.size; have := s3.size; simp at x; omega
    · exact ((hst.trans s3 fun i hi => .inl hi).trans s34.of_none fun i hi => .inl hi).trans h6.step fun i hi => .inr (hf i hi)
    · rw [← he]; simp
  · refine fin ?_
    rw [rlist, ht]; rfl
end Go.Proofs.VvS

namespace Go.Proofs.VvS
open Go Go.Proofs Vv Go.RowKit

/-- what the reader of commits tells -/
def rcm (l : List UInt8) (s : Nat × Bool) : Cm × Nat × Bool :=
  let t := rnum l s 1099511627775
  let n := rnum l t.2 64
  let q := rlist l n.1 n.2
  (⟨t.1, q.1⟩, q.2)

theorem rcm_ok {w : World} {b : Nat} {v : Value} {l : List UInt8} {s : Nat × Bool} {K : Value → World → Prop} (h : RSt w b v l s) (hl : l.length ≤ 1000000000) (hs : s.1 ≤ l.length)
    (hk : ∀ u sv w', RSt w' b v l (rcm l s).2 → Step (fun i => i = b) w w' → u = .agg #[.int .i64 (rcm l s).1.time, sv] → Own w' sv T_api_Write 3 (wrRow (rcm l s).1.writes) → (∀ i, foot sv i → w.heap.size ≤ i) → K u w') :
    Runs Tryz.prog F_record_Commit_1 #[.pointer (some ⟨b, 0, none⟩)] w K := by
  refine c_record_Commit_1 ?_
  unfold H_record_Commit_1
  refine bx ?_
  have hv1 : Box (w.alloc (.cells (Value.pointer (some ⟨b, 0, none⟩)).cells 175)) w.heap.size T_p_record_reader #[.pointer (some ⟨b, 0, none⟩)] := Box.new _ _ _
  have s1 : Step None' w (w.alloc (.cells (Value.pointer (some ⟨b, 0, none⟩)).cells 175)) := (Step.refl _ _).alloc _
  have z1 : (w.alloc (.cells (Value.pointer (some ⟨b, 0, none⟩)).cells 175)).heap.size = w.heap.size + 1 := by simp
  generalize (w.alloc (.cells (Value.pointer (some ⟨b, 0, none⟩)).cells 175)) = w1 at *
  (with_reducible refine al ?_)
  have hr2 : Box (w1.alloc (.cells (Value.agg #[.int .i64 0, .slice none 0 0]).cells 65)) w1.heap.size T_api_Commit #[.int .i64 0, .slice none 0 0] := Box.new _ _ _
  have s2 : Step None' w1 (w1.alloc (.cells (Value.agg #[.int .i64 0, .slice none 0 0]).cells 65)) := (Step.refl _ _).alloc _
  have z2 : (w1.alloc (.cells (Value.agg #[.int .i64 0, .slice none 0 0]).cells 65)).heap.size = w1.heap.size + 1 := by simp
  generalize (w1.alloc (.cells (Value.agg #[.int .i64 0, .slice none 0 0]).cells 65)) = w2 at *
  have hv2 := hv1.step s2 fun x => x
  have h2 : RSt w2 b v l s := h.step (s1.then_none s2) (fun x => x) fun _ _ x => x
  have hbl := h.box.lt
  have hvl := View.lt h.row
  (with_reducible refine ldB hv2 (by (simp only [List.getElem?_toArray, List.getElem?_cons_succ, List.getElem?_cons_zero]; rfl)) ?_)
  (with_reducible refine cf ?_); refine rtime_ok h2 hl fun w3 h3 s3 => ?_
  have hv3 := hv2.step s3 (by omega)
  have hr3 := hr2.step s3 (by omega)
  have z3 := s3.size
  refine bld #[.int .i64 (rnum l s 1099511627775).1, .slice none 0 0] (by kernel_rfl) ?_
  (with_reducible refine al ?_)
  refine stW (Box.new w3 _ _) rfl rfl (by intro u hu; simp at hu; rcases hu with rfl | rfl <;> rfl) fun w4 hb4 s4 => ?_
  have s34 : Step None' w3 w4 := ((Step.refl None' w3).alloc _).then_new s4 fun i hi => by omega
  have hv4 := hv3.step s34 fun x => x
  have hr4 := hr3.step s34 fun x => x
  have h4 : RSt w4 b v l _ := h3.step s34 (fun x => x) fun _ _ x => x
  have z4 := s34.size
  have z4' := hb4.lt
  (with_reducible refine ldB hv4 (by (simp only [List.getElem?_toArray, List.getElem?_cons_succ, List.getElem?_cons_zero]; rfl)) ?_)
  (with_reducible refine cf ?_); refine rlist_ok h4 hv4 (by omega) hl (rnum_at hs) fun u w5 h5 s5 ho5 hf5 => ?_
  have hb5 := hb4.step s5 (by omega)
  have hr5 := hr4.step s5 (by omega)
  have z5 := s5.size
  refine fld0 ?_
  refine stB hb5 (by simp) ho5.shape1 fun w6 hb6 s6 => ?_
  have hb6 : Box w6 w3.heap.size T_api_Commit #[.int .i64 (rnum l s 1099511627775).1, u] := hb6
  have hr6 := hr5.step s6 (by omega)
  have ho6 := ho5.step s6 fun i hi => by have := hf5 i hi; omega
  refine ldW hb6 rfl ?_
  refine stW hr6 rfl rfl (by intro y hy; simp at hy; rcases hy with rfl | rfl; · rfl
                             · exact ho5.shape1) fun w7 hr7 s7 => ?_
  have ho7 := ho6.step s7 fun i hi => by have := hf5 i hi; omega
  refine rvW hr7 rfl ?_
  refine hk _ u w7 ?_ ?_ rfl ho7 fun i hi => by have := hf5 i hi; omega
  · exact (h5.step s6 (by omega) fun i hi => by have := hvl i hi; omega).step s7 (by omega) fun i hi => by have := hvl i hi; omega
  · have a : Step (fun i => i = b) w w3 := ((s1.then_none s2).of_none).trans s3 fun i hi => .inl hi
    exact (((a.trans s34.of_none fun i hi => .inl hi).trans s5 fun i hi => .inl hi).trans s6 fun i hi => .inr (by omega)).trans s7 fun i hi => .inr (by omega)
end Go.Proofs.VvS

namespace Go.Proofs.VvS
open Go Go.Proofs Vv Go.RowKit

/-- a commit, read; or where the fault is, and which -/
inductive CRes where
  | ok (c : Cm)
  | byte (at' : Nat)
  | form
def cread (l : List UInt8) : CRes := match l with
  | [] => .byte 0
  | c :: _ => if c.toNat ≠ 67 then .byte 0 else
    let r := rcm l (1, false)
    if r.2.2 = true ∨ r.2.1 < l.length then .byte r.2.1 else if right r.1 then .ok r.1 else .form
theorem rnum_le {l : List UInt8} {s : Nat × Bool} {m : Nat} : (rnum l s m).1 ≤ m := by
  unfold rnum
  split
  · simp
  · split
    · simp
    · split
      · simp
      · simp only []; omega
theorem rlist_len {l : List UInt8} : ∀ {k : Nat} {s : Nat × Bool}, (rlist l k s).1.length ≤ k := by
  intro k
  induction k with
  | zero => intro s; simp [rlist]
  | succ k ih =>
    intro s
    rw [rlist]
    split
    · simp
    · have := ih (s := (rwr l s).2)
      simp only [List.length_cons]; omega
theorem rcm_len {l : List UInt8} {s : Nat × Bool} : (rcm l s).1.writes.length ≤ 64 := Nat.le_trans rlist_len rnum_le
def noCm : Value := .agg #[.int .i64 0, .slice none 0 0]

theorem take_ok {w : World} {v : Value} {l : List UInt8} {K : Value → World → Prop} (hv : Bytes w v l) (hl : l.length ≤ 1000000000)
    (h1 : ∀ a, cread l = .byte a → ∀ w', Step None' w w' → K (.tuple #[noCm, .int .i64 a, .int .i64 61]) w')
    (h2 : cread l = .form → ∀ w', Step None' w w' → K (.tuple #[noCm, .int .i64 0, .int .i64 60]) w')
    (h3 : ∀ c, cread l = .ok c → ∀ sv w', Step None' w w' → Own w' sv T_api_Write 3 (wrRow c.writes) → (∀ i, foot sv i → w.heap.size ≤ i) → K (.tuple #[.agg #[.int .i64 c.time, sv], .int .i64 0, .int .i64 0]) w') :
    Runs Tryz.prog F_record_take_api_Commit #[.agg #[.int .u8 67, .func (.func F_record_Commit_1) #[] #[], .func (.func F_record_rightCommit) #[] #[]], v] w K := by
  obtain ⟨sa, sc, rfl, _⟩ := View.shape hv
  refine c_record_take_api_Commit ?_
  unfold H_record_take_api_Commit
  refine bx ?_
  have hf1 : Box (w.alloc (.cells (Value.agg #[.int .u8 67, .func (.func F_record_Commit_1) #[] #[], .func (.func F_record_rightCommit) #[] #[]]).cells 181)) w.heap.size 181 #[.int .u8 67, .func (.func F_record_Commit_1) #[] #[], .func (.func F_record_rightCommit) #[] #[]] := Box.new _ _ _
  have s1 : Step None' w (w.alloc (.cells (Value.agg #[.int .u8 67, .func (.func F_record_Commit_1) #[] #[], .func (.func F_record_rightCommit) #[] #[]]).cells 181)) := (Step.refl _ _).alloc _
  have z1 : (w.alloc (.cells (Value.agg #[.int .u8 67, .func (.func F_record_Commit_1) #[] #[], .func (.func F_record_rightCommit) #[] #[]]).cells 181)).heap.size = w.heap.size + 1 := by simp
  generalize (w.alloc (.cells (Value.agg #[.int .u8 67, .func (.func F_record_Commit_1) #[] #[], .func (.func F_record_rightCommit) #[] #[]]).cells 181)) = w1 at *
  (with_reducible refine al ?_)
  have hr2 : Box (w1.alloc (.cells (Value.agg #[.int .i64 0, .slice none 0 0]).cells 65)) w1.heap.size T_api_Commit #[.int .i64 0, .slice none 0 0] := Box.new _ _ _
  have s2 : Step None' w1 (w1.alloc (.cells (Value.agg #[.int .i64 0, .slice none 0 0]).cells 65)) := (Step.refl _ _).alloc _
  have z2 : (w1.alloc (.cells (Value.agg #[.int .i64 0, .slice none 0 0]).cells 65)).heap.size = w1.heap.size + 1 := by simp
  generalize (w1.alloc (.cells (Value.agg #[.int .i64 0, .slice none 0 0]).cells 65)) = w2 at *
  (with_reducible refine al ?_)
  have hn3 : Box (w2.alloc (.cells (Value.agg #[.int .i64 0, .slice none 0 0]).cells 65)) w2.heap.size T_api_Commit #[.int .i64 0, .slice none 0 0] := Box.new _ _ _
  have s3 : Step None' w2 (w2.alloc (.cells (Value.agg #[.int .i64 0, .slice none 0 0]).cells 65)) := (Step.refl _ _).alloc _
  have z3 : (w2.alloc (.cells (Value.agg #[.int .i64 0, .slice none 0 0]).cells 65)).heap.size = w2.heap.size + 1 := by simp
  generalize (w2.alloc (.cells (Value.agg #[.int .i64 0, .slice none 0 0]).cells 65)) = w3 at *
  have s03 : Step None' w w3.drew := ((s1.then_none s2).then_none s3).drew
  have z3d : w3.drew.heap.size = w3.heap.size := rfl
  have hr3 := (hr2.step s3 fun x => x).drew
  have hn3 := hn3.drew
  have hf3 := ((hf1.step s2 fun x => x).step s3 fun x => x).drew
  have hv3 : Bytes w3.drew (.slice sa l.length sc) l := View.step hv s03 fun _ _ x => x
  generalize hwd : w3.drew = wd at *
  intro J hJ
  have Jt : cread l = .byte 0 → J (.bool true) wd := fun e => hJ _ _ (Cond_t (by
    refine ldW hn3 rfl ?_
    refine stW hr3 rfl rfl (by intro y hy; simp at hy; rcases hy with rfl | rfl <;> rfl) fun w5 hr5 s5 => ?_
    refine rvW hr5 rfl ?_
    exact h1 0 e _ (s03.then_new s5 fun i hi => by omega)))
  refine l_view hv3 ?_
  (with_reducible refine b_eql ?_)
  refine gt_f (fun h0 => ?_) (fun h0 => ?_)
  · have hpos : 0 < l.length := by omega
    refine bidx hv3 0 rfl hpos fun p _ hp => ?_
    refine ld hp ?_
    refine fld0 ?_
    (with_reducible refine ldB hf3 (by (simp only [List.getElem?_toArray, List.getElem?_cons_succ, List.getElem?_cons_zero]; rfl)) ?_)
    (with_reducible refine b_neq ?_)
    obtain ⟨c, r, rfl⟩ : ∃ c r, l = c :: r := by cases l with | nil => simp at hpos | cons c r => exact ⟨c, r, rfl⟩
    simp only [List.getElem_cons_zero]
    by_cases h67 : ((c.toNat : Int)) ≠ 67
    · rw [decide_eq_true h67]
      exact Jt (by simp only [cread]; rw [if_pos (by omega)])
    rw [decide_eq_false h67]
    have hcr : cread (c :: r) = if (rcm (c :: r) (1, false)).2.2 = true ∨ (rcm (c :: r) (1, false)).2.1 < (c :: r).length then .byte (rcm (c :: r) (1, false)).2.1 else if right (rcm (c :: r) (1, false)).1 then .ok (rcm (c :: r) (1, false)).1 else .form := by
      simp only [cread]; rw [if_neg (by omega)]
    generalize hl0 : c :: r = l at *
    refine hJ _ _ (Cond_f ?_)
    clear Jt hJ
    refine bld #[.slice sa l.length sc, .int .i64 1, .bool false] (by kernel_rfl) ?_
    refine bx ?_
    have hb4 : RSt (wd.alloc (.cells (Value.agg #[.slice sa l.length sc, .int .i64 1, .bool false]).cells 213)) wd.heap.size (.slice sa l.length sc) l (1, false) := ⟨Box.new _ _ _, View.alloc hv3 _, fun x => by have := View.lt hv3 _ x; omega⟩
    have s4 : Step None' wd (wd.alloc (.cells (Value.agg #[.slice sa l.length sc, .int .i64 1, .bool false]).cells 213)) := (Step.refl _ _).alloc _
    have z4 : (wd.alloc (.cells (Value.agg #[.slice sa l.length sc, .int .i64 1, .bool false]).cells 213)).heap.size = wd.heap.size + 1 := by simp
    generalize (wd.alloc (.cells (Value.agg #[.slice sa l.length sc, .int .i64 1, .bool false]).cells 213)) = w4 at *
    have hf4 := hf3.step s4 fun x => x
    have hr4 := hr3.step s4 fun x => x
    have hn4 := hn3.step s4 fun x => x
    refine fld0 ?_
    (with_reducible refine ldB hf4 (by (simp only [List.getElem?_toArray, List.getElem?_cons_succ, List.getElem?_cons_zero]; rfl)) ?_)
    ((with_reducible refine cv ?_); simp only [List.append_toArray, List.nil_append, List.cons_append, List.append_nil])
    refine rcm_ok hb4 hl (by omega) fun u sv w5 h5 s5 hu ho5 hfo5 => ?_
    subst hu
    have hvl := View.lt hv
    have y1 := s03.size
    have y5 := s5.size
    have hb5 := h5.box
    have hwd2 : w2.heap.size < wd.heap.size := hn3.lt
    have hf5 := hf4.step s5 (by omega)
    have hr5 := hr4.step s5 (by omega)
    have hn5 := hn4.step s5 (by omega)
    have S5 : Step None' w w5 := (s03.then_none s4).then_new s5 fun i hi => by omega
    (with_reducible refine al ?_)
    refine stW (Box.new w5 _ _) rfl rfl (by
      intro y hy
      simp at hy
      rcases hy with rfl | rfl
      · rfl
      · exact ho5.shape1) fun w6 hc6 s6 => ?_
    have s56 : Step None' w5 w6 := ((Step.refl None' w5).alloc _).then_new s6 fun i hi => by omega
    have hf6 := hf5.step s56 fun x => x
    have hr6 := hr5.step s56 fun x => x
    have hn6 := hn5.step s56 fun x => x
    have hb6 := hb5.step s56 fun x => x
    have ho6 := ho5.step s56 fun _ _ x => x
    have S6 := S5.then_none s56
    have y6 := s56.size
    generalize hR : rcm l (1, false) = R at *
    obtain ⟨cm, at', bad⟩ := R
    simp only [] at *
    intro J1 hJ1
    have J1t : (bad = true ∨ at' < l.length) → J1 (.bool true) w6 := fun hbad => hJ1 _ _ (Cond_t (by
      have hnd := hn6.drew
      have hrd := hr6.drew
      have hbd := hb6.drew
      refine ldW hnd rfl ?_
      refine ⟨trivial, ?_⟩
      refine fld0 ?_
      (with_reducible refine ldB hbd (by (simp only [List.getElem?_toArray, List.getElem?_cons_succ, List.getElem?_cons_zero]; rfl)) ?_)
      refine stW hrd rfl rfl (by intro y hy; simp at hy; rcases hy with rfl | rfl <;> rfl) fun w7 hr7 s7 => ?_
      have hb7 := hbd.step s7 (by omega)
      refine ⟨ldBs hb7 rfl, ?_⟩
      refine rvW hr7 rfl ?_
      rw [if_pos hbad] at hcr
      exact h1 at' hcr _ (S6.drew.then_new s7 fun i hi => by omega)))
    have J1f : ¬ (bad = true ∨ at' < l.length) → J1 (.bool false) w6 := fun hbad => hJ1 _ _ (Cond_f (by
      rw [if_neg hbad] at hcr
      refine fld0 ?_
      (with_reducible refine ldB hf6 (by (simp only [List.getElem?_toArray, List.getElem?_cons_succ, List.getElem?_cons_zero]; rfl)) ?_)
      refine ldW hc6 rfl ?_
      ((with_reducible refine cv ?_); simp only [List.append_toArray, List.nil_append, List.cons_append, List.append_nil])
      obtain ⟨m, hm⟩ := ho6.view
      have em : m = cm.writes.length := by have := hm.1; rw [wrRow_length] at this; omega
      subst em
      refine right_ok (c := cm) ⟨sv, rfl, hm⟩ (by have h64 := rcm_len (l := l) (s := (1, false)); rw [hR] at h64; simp only [] at h64; omega) fun w8 s8 => ?_
      have hr8 := hr6.step s8 fun x => x
      have hn8 := hn6.step s8 fun x => x
      have hc8 := hc6.step s8 fun x => x
      have ho8 := ho6.step s8 fun _ _ x => x
      refine unot ?_
      cases hrt : right cm
      · rw [hrt] at hcr
        refine Cond_t ?_
        refine ldW hn8 rfl ?_
        refine stW hr8 rfl rfl (by intro y hy; simp at hy; rcases hy with rfl | rfl <;> rfl) fun w9 hr9 s9 => ?_
        refine rvW hr9 rfl ?_
        exact h2 hcr _ ((S6.then_none s8).then_new s9 fun i hi => by omega)
      · rw [hrt] at hcr
        refine Cond_f ?_
        refine ldW hc8 rfl ?_
        refine stW hr8 rfl rfl (by
          intro y hy
          simp at hy
          rcases hy with rfl | rfl
          · rfl
          · exact ho5.shape1) fun w9 hr9 s9 => ?_
        refine rvW hr9 rfl ?_
        exact h3 cm hcr sv _ ((S6.then_none s8).then_new s9 fun i hi => by omega) (ho8.step s9 fun i hi => by have := hfo5 i hi; omega) fun i hi => by have := hfo5 i hi; omega))
    refine ⟨trivial, ?_⟩
    refine fld0 ?_
    (with_reducible refine ldB hb6 (by (simp only [List.getElem?_toArray, List.getElem?_cons_succ, List.getElem?_cons_zero]; rfl)) ?_)
    cases hbd : bad
    · refine Gate_is rfl ?_
      refine ⟨trivial, ?_⟩
      refine fld0 ?_
      (with_reducible refine ldB hb6 (by (simp only [List.getElem?_toArray, List.getElem?_cons_succ, List.getElem?_cons_zero]; rfl)) ?_)
      refine l_view (View.step hv S6 fun _ _ x => x) ?_
      (with_reducible refine b_lss ?_)
      by_cases hlt : (at' : Int) < l.length
      · rw [decide_eq_true hlt]; exact J1t (.inr (by omega))
      · rw [decide_eq_false hlt]; exact J1f (by rw [hbd]; simp; omega)
    · exact Gate_not rfl (J1t (.inl hbd))
  · have : l = [] := List.eq_nil_of_length_eq_zero (by omega)
    subst this
    exact Jt rfl

theorem Commit_ok {w : World} {v : Value} {l : List UInt8} {K : Value → World → Prop} (hv : Bytes w v l) (hl : l.length ≤ 1000000000)
    (h1 : ∀ a, cread l = .byte a → ∀ w', Step None' w w' → K (.tuple #[noCm, .int .i64 a, .int .i64 61]) w')
    (h2 : cread l = .form → ∀ w', Step None' w w' → K (.tuple #[noCm, .int .i64 0, .int .i64 60]) w')
    (h3 : ∀ c, cread l = .ok c → ∀ sv w', Step None' w w' → Own w' sv T_api_Write 3 (wrRow c.writes) → (∀ i, foot sv i → w.heap.size ≤ i) → K (.tuple #[.agg #[.int .i64 c.time, sv], .int .i64 0, .int .i64 0]) w') :
    Runs Tryz.prog F_record_Commit #[v] w K := by
  refine c_record_Commit ?_
  unfold H_record_Commit
  (with_reducible refine al ?_)
  have hr1 : Box (w.alloc (.cells (Value.agg #[.int .i64 0, .slice none 0 0]).cells 65)) w.heap.size T_api_Commit #[.int .i64 0, .slice none 0 0] := Box.new _ _ _
  have s1 : Step None' w (w.alloc (.cells (Value.agg #[.int .i64 0, .slice none 0 0]).cells 65)) := (Step.refl _ _).alloc _
  have z1 : (w.alloc (.cells (Value.agg #[.int .i64 0, .slice none 0 0]).cells 65)).heap.size = w.heap.size + 1 := by simp
  generalize (w.alloc (.cells (Value.agg #[.int .i64 0, .slice none 0 0]).cells 65)) = w1 at *
  refine bld #[.int .u8 67, .func (.func F_record_Commit_1) #[] #[], .func (.func F_record_rightCommit) #[] #[]] (by kernel_rfl) ?_
  (with_reducible refine cf ?_); refine take_ok (View.step hv s1 fun _ _ x => x) hl (fun a ha w2 s2 => ?_) (fun ha w2 s2 => ?_) (fun c hc sv w2 s2 ho hf => ?_)
  · have hr2 := hr1.step s2 fun x => x
    (with_reducible refine ext3_0 ?_); (with_reducible refine ext3_1 ?_); (with_reducible refine ext3_2 ?_)
    refine stW hr2 rfl rfl (by intro y hy; simp at hy; rcases hy with rfl | rfl <;> rfl) fun w3 hr3 s3 => ?_
    refine rvW hr3 rfl ?_
    exact h1 a ha _ ((s1.then_none s2).then_new s3 fun i hi => by omega)
  · have hr2 := hr1.step s2 fun x => x
    (with_reducible refine ext3_0 ?_); (with_reducible refine ext3_1 ?_); (with_reducible refine ext3_2 ?_)
    refine stW hr2 rfl rfl (by intro y hy; simp at hy; rcases hy with rfl | rfl <;> rfl) fun w3 hr3 s3 => ?_
    refine rvW hr3 rfl ?_
    exact h2 ha _ ((s1.then_none s2).then_new s3 fun i hi => by omega)
  · have hr2 := hr1.step s2 fun x => x
    (with_reducible refine ext3_0 ?_); (with_reducible refine ext3_1 ?_); (with_reducible refine ext3_2 ?_)
    refine stW hr2 rfl rfl (by
      intro y hy
      simp at hy
      rcases hy with rfl | rfl
      · rfl
      · exact ho.shape1) fun w3 hr3 s3 => ?_
    refine rvW hr3 rfl ?_
    exact h3 c hc sv _ ((s1.then_none s2).then_new s3 fun i hi => by omega) (ho.step s3 fun i hi => by have := hf i hi; omega) fun i hi => by have := hf i hi; omega
end Go.Proofs.VvS

/-
  The library's contracts on sorted keys of a map, laid at this dump.
-/
namespace Go.Proofs
open Go.Shelf
def Tryz.keys44_ren : Go.Shelf.Ren := ⟨fun | 7 => 44 | 10 => 79 | n => n, fun | 23 => 73 | 26 => 9 | 3 => 93 | 28 => 91 | 0 => 0 | 27 => 90 | 33 => 94 | 4 => 4 | n => n, fun | n => n⟩
theorem Tryz.keys44 : Go.Proofs.SlLaysZ.n7 Tryz.prog Tryz.keys44_ren := {
  mixed := by kernel_rfl
  f7 := ⟨Tryz.f44.name, by decide, Tryz.func44.trans (congrArg some (by kernel_rfl))⟩
  f10 := ⟨Tryz.f79.name, by decide, Tryz.func79.trans (congrArg some (by kernel_rfl))⟩
  t0 := Tryz.underlying0
  a0 := Tryz.isAgg0
  z0 := Tryz.sizeOf0
  v0 := Tryz.zeroValue0
  t4 := Tryz.underlying4
  a4 := Tryz.isAgg4
  z4 := Tryz.sizeOf4
  v4 := Tryz.zeroValue4
  t23 := Tryz.underlying73
  a23 := Tryz.isAgg73
  z23 := Tryz.sizeOf73
  v23 := Tryz.zeroValue73
  t26 := Tryz.underlying9
  a26 := Tryz.isAgg9
  z26 := Tryz.sizeOf9
  v26 := Tryz.zeroValue9
  t27 := Tryz.underlying90
  a27 := Tryz.isAgg90
  z27 := Tryz.sizeOf90
  v27 := Tryz.zeroValue90
  t28 := Tryz.underlying91
  a28 := Tryz.isAgg91
  z28 := Tryz.sizeOf91
  v28 := Tryz.zeroValue91
  t33 := Tryz.underlying94
  a33 := Tryz.isAgg94
  z33 := Tryz.sizeOf94
  v33 := Tryz.zeroValue94 }
def Tryz.sorted43_ren : Go.Shelf.Ren := ⟨fun | 6 => 43 | 8 => 77 | 9 => 78 | 11 => 126 | 13 => 111 | 12 => 127 | 23 => 163 | 24 => 164 | 14 => 171 | 15 => 172 | 16 => 173 | 17 => 174 | 18 => 175 | 19 => 176 | 20 => 177 | 21 => 178 | 22 => 179 | 25 => 211 | 26 => 205 | 27 => 206 | 28 => 212 | 29 => 213 | 30 => 214 | 31 => 225 | n => n, fun | 26 => 9 | 28 => 91 | 24 => 36 | 0 => 0 | 3 => 3 | 37 => 167 | 48 => 169 | 50 => 77 | 4 => 4 | 40 => 203 | 39 => 202 | 45 => 208 | 5 => 5 | 9 => 9 | 51 => 242 | 55 => 246 | 57 => 259 | 58 => 260 | 33 => 94 | n => n, fun | n => n⟩
theorem Tryz.sorted43 : Go.Proofs.SlLaysZ.n6 Tryz.prog Tryz.sorted43_ren := {
  mixed := by kernel_rfl
  f6 := ⟨Tryz.f43.name, by decide, Tryz.func43.trans (congrArg some (by kernel_rfl))⟩
  f8 := ⟨Tryz.f77.name, by decide, Tryz.func77.trans (congrArg some (by kernel_rfl))⟩
  f11 := ⟨Tryz.f126.name, by decide, Tryz.func126.trans (congrArg some (by kernel_rfl))⟩
  t0 := Tryz.underlying0
  a0 := Tryz.isAgg0
  z0 := Tryz.sizeOf0
  v0 := Tryz.zeroValue0
  t24 := Tryz.underlying36
  a24 := Tryz.isAgg36
  z24 := Tryz.sizeOf36
  v24 := Tryz.zeroValue36
  t26 := Tryz.underlying9
  a26 := Tryz.isAgg9
  z26 := Tryz.sizeOf9
  v26 := Tryz.zeroValue9
  t28 := Tryz.underlying91
  a28 := Tryz.isAgg91
  z28 := Tryz.sizeOf91
  v28 := Tryz.zeroValue91
  i26 := by kernel_rfl }
def Tryz.sort78_ren : Go.Shelf.Ren := ⟨fun | 6 => 78 | 8 => 111 | 9 => 127 | 19 => 163 | 20 => 164 | 21 => 171 | 22 => 172 | 23 => 173 | 24 => 174 | 25 => 175 | 26 => 176 | 27 => 177 | 28 => 178 | 29 => 179 | 36 => 211 | 31 => 205 | 32 => 206 | 37 => 212 | 38 => 213 | 39 => 214 | 41 => 225 | n => n, fun | 27 => 36 | 29 => 9 | 3 => 3 | 32 => 167 | 26 => 36 | 0 => 0 | 44 => 169 | 46 => 77 | 4 => 4 | 36 => 203 | 35 => 202 | 41 => 208 | 5 => 5 | 9 => 9 | 53 => 242 | 57 => 246 | 63 => 259 | 64 => 260 | n => n, fun | n => n⟩
theorem Tryz.sort78 : Go.Proofs.SlLaysM.n6 Tryz.prog Tryz.sort78_ren := {
  mixed := by kernel_rfl
  f6 := ⟨Tryz.f78.name, by decide, Tryz.func78.trans (congrArg some (by kernel_rfl))⟩
  f8 := Tryz.func111.trans (congrArg some (by kernel_rfl))
  f9 := ⟨Tryz.f127.name, by decide, Tryz.func127.trans (congrArg some (by kernel_rfl))⟩
  f19 := Tryz.func163.trans (congrArg some (by kernel_rfl))
  f20 := Tryz.func164.trans (congrArg some (by kernel_rfl))
  f21 := ⟨Tryz.f171.name, by decide, Tryz.func171.trans (congrArg some (by kernel_rfl))⟩
  f22 := ⟨Tryz.f172.name, by decide, Tryz.func172.trans (congrArg some (by kernel_rfl))⟩
  f23 := ⟨Tryz.f173.name, by decide, Tryz.func173.trans (congrArg some (by kernel_rfl))⟩
  f24 := ⟨Tryz.f174.name, by decide, Tryz.func174.trans (congrArg some (by kernel_rfl))⟩
  f25 := ⟨Tryz.f175.name, by decide, Tryz.func175.trans (congrArg some (by kernel_rfl))⟩
  f26 := ⟨Tryz.f176.name, by decide, Tryz.func176.trans (congrArg some (by kernel_rfl))⟩
  f27 := ⟨Tryz.f177.name, by decide, Tryz.func177.trans (congrArg some (by kernel_rfl))⟩
  f28 := ⟨Tryz.f178.name, by decide, Tryz.func178.trans (congrArg some (by kernel_rfl))⟩
  f29 := ⟨Tryz.f179.name, by decide, Tryz.func179.trans (congrArg some (by kernel_rfl))⟩
  f31 := Tryz.func205.trans (congrArg some (by kernel_rfl))
  f32 := Tryz.func206.trans (congrArg some (by kernel_rfl))
  f36 := ⟨Tryz.f211.name, by decide, Tryz.func211.trans (congrArg some (by kernel_rfl))⟩
  f37 := ⟨Tryz.f212.name, by decide, Tryz.func212.trans (congrArg some (by kernel_rfl))⟩
  f38 := ⟨Tryz.f213.name, by decide, Tryz.func213.trans (congrArg some (by kernel_rfl))⟩
  f39 := ⟨Tryz.f214.name, by decide, Tryz.func214.trans (congrArg some (by kernel_rfl))⟩
  f41 := ⟨Tryz.f225.name, by decide, Tryz.func225.trans (congrArg some (by kernel_rfl))⟩
  t0 := Tryz.underlying0
  a0 := Tryz.isAgg0
  z0 := Tryz.sizeOf0
  v0 := Tryz.zeroValue0
  t3 := Tryz.underlying3
  a3 := Tryz.isAgg3
  z3 := Tryz.sizeOf3
  v3 := Tryz.zeroValue3
  t4 := Tryz.underlying4
  a4 := Tryz.isAgg4
  z4 := Tryz.sizeOf4
  v4 := Tryz.zeroValue4
  t5 := Tryz.underlying5
  a5 := Tryz.isAgg5
  z5 := Tryz.sizeOf5
  v5 := Tryz.zeroValue5
  t9 := Tryz.underlying9
  a9 := Tryz.isAgg9
  z9 := Tryz.sizeOf9
  v9 := Tryz.zeroValue9
  t26 := Tryz.underlying36
  a26 := Tryz.isAgg36
  z26 := Tryz.sizeOf36
  v26 := Tryz.zeroValue36
  t27 := Tryz.underlying36
  a27 := Tryz.isAgg36
  z27 := Tryz.sizeOf36
  v27 := Tryz.zeroValue36
  t29 := Tryz.underlying9
  a29 := Tryz.isAgg9
  z29 := Tryz.sizeOf9
  v29 := Tryz.zeroValue9
  t32 := Tryz.underlying167
  a32 := Tryz.isAgg167
  z32 := Tryz.sizeOf167
  v32 := Tryz.zeroValue167
  t35 := Tryz.underlying202
  a35 := Tryz.isAgg202
  z35 := Tryz.sizeOf202
  v35 := Tryz.zeroValue202
  t36 := Tryz.underlying203
  a36 := Tryz.isAgg203
  z36 := Tryz.sizeOf203
  v36 := Tryz.zeroValue203
  t41 := Tryz.underlying208
  a41 := Tryz.isAgg208
  z41 := Tryz.sizeOf208
  v41 := Tryz.zeroValue208
  t44 := Tryz.underlying169
  a44 := Tryz.isAgg169
  z44 := Tryz.sizeOf169
  v44 := Tryz.zeroValue169
  t46 := Tryz.underlying77
  a46 := Tryz.isAgg77
  z46 := Tryz.sizeOf77
  v46 := Tryz.zeroValue77
  t53 := Tryz.underlying242
  a53 := Tryz.isAgg242
  z53 := Tryz.sizeOf242
  v53 := Tryz.zeroValue242
  t57 := Tryz.underlying246
  a57 := Tryz.isAgg246
  z57 := Tryz.sizeOf246
  v57 := Tryz.zeroValue246
  t63 := Tryz.underlying259
  a63 := Tryz.isAgg259
  z63 := Tryz.sizeOf259
  v63 := Tryz.zeroValue259
  t64 := Tryz.underlying260
  a64 := Tryz.isAgg260
  z64 := Tryz.sizeOf260
  v64 := Tryz.zeroValue260 }
open Go.RowKit Go.Maps Go.Sort Go.Shelf
/-- slices.Sort's two contracts at this dump, at the fence that asks nothing. -/
theorem Tryz.sorts43 (m : Nat) : AnyZ.SortsIn Tryz.prog Tryz.sorted43_ren Fence.wide m :=
  ⟨fun blk off cap ss W hH hblk hsz => callsIn_wide.2 (AnyM.slices_Sort_string Tryz.sort78 blk off cap ss W hH hblk hsz),
   fun p cap W => callsIn_wide.2 (AnyM.slices_Sort_string_none Tryz.sort78 p cap W)⟩

/-- **maps.Keys[varve/disk.directory,string,*varve/disk.file], at whatever map, the nil one too:** a function value over ONE NEW BLOCK, which holds the map. -/
theorem Tryz.maps_Keys_44 (mb : Option Nat) (W : World) : CallsIn Fence.wide 5 Tryz.prog 44 #[.map mb] W fun e w' => e = .returned (.func (.func 79) #[] #[.pointer (some ⟨W.heap.size, 0, none⟩)]) ∧ w' = W.alloc (.cells #[.map mb] 73) :=
  AnyZ.keys_in Tryz.keys44 Fence.wide 5 trivial rfl mb W

set_option maxHeartbeats 1000000 in
/-- **slices.Sorted[string] AT WHAT maps.Keys[varve/disk.directory,string,*varve/disk.file] HANDED BACK FOR A MAP THAT IS NOT nil** ('w': the world AHEAD of maps.Keys' call): A NEW SLICE THAT HOLDS THE MAP's KEYS, SORTED; nil just where it has none; nothing that lay before has turned. -/
theorem Tryz.slices_Sorted_keys_43_44 {H : Type} (b nn : Nat) (D0 : DataW H) (R : Value → Option (DataW H × List MemPlace)) (w : World) (hown : w.ownsMap Tryz.prog 9 R b nn D0) (hmax : Maps.size D0 ≤ maxLen) (hbytes : Maps.size D0 * 16 ≤ 140737488355328) :
    CallsIn Fence.wide 5 Tryz.prog 43 #[.func (.func 79) #[] #[.pointer (some ⟨w.heap.size, 0, none⟩)]] (w.alloc (.cells #[.map (some b)] 73)) fun e w' => ∃ (v : Value) (ss : List (List UInt8)), e = .returned v ∧ ss.Perm (strKeys D0) ∧
      w'.ownsRow (w.alloc (.cells #[.map (some b)] 73)).heap.size 9 1 v ss.length ((ss.mergeSort (fun x y => decide (x ≤ y))).map encStr) ∧ (v = .slice none 0 0 ↔ ss = []) ∧ Below (w.alloc (.cells #[.map (some b)] 73)).heap.size (w.alloc (.cells #[.map (some b)] 73)) w' := by
  have hbl := hown.lt
  have hseq : SeqGives Fence.wide 2 Tryz.prog 79 #[.pointer (some ⟨w.heap.size, 0, none⟩)] encStr (fun ss => ss.Perm (strKeys D0)) (Maps.size D0) (w.alloc (.cells #[.map (some b)] 73)) :=
    AnyZ.keys_gives (ρ := Tryz.keys44_ren) { Tryz.keys44 with } Fence.wide _ trivial rfl (by omega) w.heap.size b nn D0 _ (by simp) (by simp) (by
      obtain ⟨es, clock, hb, Ft, hs, hD⟩ := hown
      exact ⟨es, clock, (Below.heap_alloc _ _ b hbl).trans hb, Ft, hs, hD⟩)
  exact AnyZ.sorted_in Tryz.sorted43 Fence.wide 5 trivial trivial trivial trivial rfl (by omega) (Tryz.sorts43 _) (enters_of Tryz.func78 (by kernel_rfl) rfl) 79 #[.pointer (some ⟨w.heap.size, 0, none⟩)] trivial (enters_of Tryz.func79 (by kernel_rfl) rfl) _ _ hmax hbytes _ hseq

set_option maxHeartbeats 1000000 in
/-- **.. AND FOR THE nil MAP: nil.** -/
theorem Tryz.slices_Sorted_keys_nil_43_44 (w : World) :
    CallsIn Fence.wide 5 Tryz.prog 43 #[.func (.func 79) #[] #[.pointer (some ⟨w.heap.size, 0, none⟩)]] (w.alloc (.cells #[.map none] 73)) fun e w' => ∃ (v : Value) (ss : List (List UInt8)), e = .returned v ∧ ss = [] ∧
      w'.ownsRow (w.alloc (.cells #[.map none] 73)).heap.size 9 1 v ss.length ((ss.mergeSort (fun x y => decide (x ≤ y))).map encStr) ∧ (v = .slice none 0 0 ↔ ss = []) ∧ Below (w.alloc (.cells #[.map none] 73)).heap.size (w.alloc (.cells #[.map none] 73)) w' := by
  have hseq : SeqGives Fence.wide 2 Tryz.prog 79 #[.pointer (some ⟨w.heap.size, 0, none⟩)] encStr (fun ss : List (List UInt8) => ss = []) 0 (w.alloc (.cells #[.map none] 73)) :=
    AnyZ.keys_gives_nil (ρ := Tryz.keys44_ren) { Tryz.keys44 with } Fence.wide _ trivial rfl w.heap.size _ (by simp) (by simp)
  exact AnyZ.sorted_in Tryz.sorted43 Fence.wide 5 trivial trivial trivial trivial rfl (by omega) (Tryz.sorts43 _) (enters_of Tryz.func78 (by kernel_rfl) rfl) 79 #[.pointer (some ⟨w.heap.size, 0, none⟩)] trivial (enters_of Tryz.func79 (by kernel_rfl) rfl) _ 0 (Nat.zero_le _) (by omega) _ hseq
end Go.Proofs

/-
  DERIVED: THE SHELF's CONTRACTS AT THIS DUMP, IN PLAIN WORDS (tools/lay-plain.mjs out of 'TryzShelf.lean', which tools/lay-shelf.mjs wrote): THE SAME DECLARATIONS UNDER THE SAME NAMES: 'import', 'namespace', 'open', 'def', 'theorem' AND NOTHING ELSE: no command of the shelf's: FOR A HAND-IN. Each laying: the table of numbers ('.._ren') and one theorem, a field a fact of the dump's own or the kernel's comparison; each contract: ONE APPLICATION.
-/
namespace Go.Proofs
open Go.Shelf
def Tryz.lays103_ren : Go.Shelf.Ren := ⟨fun | 103 => 108 | 210 => 151 | 206 => 198 | n => n, fun | 9 => 9 | 4 => 4 | 24 => 159 | 3 => 3 | n => n, fun | n => n⟩
theorem Tryz.lays103 : Go.Proofs.Lays.n103 Tryz.prog Tryz.lays103_ren := {
  mixed := by kernel_rfl
  f103 := Tryz.func108.trans (congrArg some (by kernel_rfl))
  f206 := Tryz.func198.trans (congrArg some (by kernel_rfl))
  f210 := Tryz.func151.trans (congrArg some (by kernel_rfl))
  t3 := Tryz.underlying3
  a3 := Tryz.isAgg3
  z3 := Tryz.sizeOf3
  v3 := Tryz.zeroValue3
  t4 := Tryz.underlying4
  a4 := Tryz.isAgg4
  z4 := Tryz.sizeOf4
  v4 := Tryz.zeroValue4
  t9 := Tryz.underlying9
  a9 := Tryz.isAgg9
  z9 := Tryz.sizeOf9
  v9 := Tryz.zeroValue9
  t24 := Tryz.underlying159
  a24 := Tryz.isAgg159
  z24 := Tryz.sizeOf159
  v24 := Tryz.zeroValue159 }
open Go.RowKit in
/-- strings.CutPrefix: "CutPrefix returns s without the provided leading prefix string and reports whether it found the prefix. If s doesn't start with prefix, CutPrefix returns s, false. If prefix is the empty string, CutPrefix returns s, true.": IT RETURNS '(Lib.trimPrefix s p, Lib.hasPrefix s p)'; the world is as it was. (LAID: no walk: one application.) -/
theorem Tryz.strings_CutPrefix (s p : ByteArray) (w : World) :
    Calls Tryz.prog 108 #[.string s, .string p] w fun e w' => e = .returned (.tuple #[.string ⟨(Lib.trimPrefix s.data.toList p.data.toList).toArray⟩, .bool (Lib.hasPrefix s.data.toList p.data.toList)]) ∧ w' = w := Any.strings_CutPrefix Tryz.lays103 s p w
def Tryz.laysM171_ren : Go.Shelf.Ren := ⟨fun | 171 => 36 | 243 => 67 | 246 => 107 | 283 => 147 | 284 => 148 | 285 => 149 | 286 => 150 | 129 => 164 | 317 => 194 | 318 => 195 | 319 => 196 | 320 => 197 | 337 => 219 | 338 => 220 | n => n, fun | 3 => 3 | 9 => 9 | 2 => 2 | 4 => 4 | 171 => 195 | 0 => 0 | 53 => 77 | 37 => 39 | 5 => 5 | 173 => 198 | 212 => 234 | 51 => 169 | 20 => 20 | 213 => 235 | 46 => 167 | 232 => 263 | 233 => 264 | n => n, fun | 17 => 0 | 18 => 3 | 19 => 4 | n => n⟩
theorem Tryz.laysM171 : Go.Proofs.LaysM.n171 Tryz.prog Tryz.laysM171_ren := {
  mixed := by kernel_rfl
  f129 := Tryz.func164.trans (congrArg some (by kernel_rfl))
  f171 := Tryz.func36.trans (congrArg some (by kernel_rfl))
  f243 := Tryz.func67.trans (congrArg some (by kernel_rfl))
  f246 := Tryz.func107.trans (congrArg some (by kernel_rfl))
  f283 := Tryz.func147.trans (congrArg some (by kernel_rfl))
  f284 := Tryz.func148.trans (congrArg some (by kernel_rfl))
  f285 := Tryz.func149.trans (congrArg some (by kernel_rfl))
  f286 := Tryz.func150.trans (congrArg some (by kernel_rfl))
  f317 := Tryz.func194.trans (congrArg some (by kernel_rfl))
  f318 := Tryz.func195.trans (congrArg some (by kernel_rfl))
  f319 := Tryz.func196.trans (congrArg some (by kernel_rfl))
  f320 := Tryz.func197.trans (congrArg some (by kernel_rfl))
  f337 := Tryz.func219.trans (congrArg some (by kernel_rfl))
  f338 := Tryz.func220.trans (congrArg some (by kernel_rfl))
  t0 := Tryz.underlying0
  a0 := Tryz.isAgg0
  z0 := Tryz.sizeOf0
  v0 := Tryz.zeroValue0
  t2 := Tryz.underlying2
  a2 := Tryz.isAgg2
  z2 := Tryz.sizeOf2
  v2 := Tryz.zeroValue2
  t3 := Tryz.underlying3
  a3 := Tryz.isAgg3
  z3 := Tryz.sizeOf3
  v3 := Tryz.zeroValue3
  t4 := Tryz.underlying4
  a4 := Tryz.isAgg4
  z4 := Tryz.sizeOf4
  v4 := Tryz.zeroValue4
  t5 := Tryz.underlying5
  a5 := Tryz.isAgg5
  z5 := Tryz.sizeOf5
  v5 := Tryz.zeroValue5
  t9 := Tryz.underlying9
  a9 := Tryz.isAgg9
  z9 := Tryz.sizeOf9
  v9 := Tryz.zeroValue9
  t20 := Tryz.underlying20
  a20 := Tryz.isAgg20
  z20 := Tryz.sizeOf20
  v20 := Tryz.zeroValue20
  t37 := Tryz.underlying39
  a37 := Tryz.isAgg39
  z37 := Tryz.sizeOf39
  v37 := Tryz.zeroValue39
  t46 := Tryz.underlying167
  a46 := Tryz.isAgg167
  z46 := Tryz.sizeOf167
  v46 := Tryz.zeroValue167
  t51 := Tryz.underlying169
  a51 := Tryz.isAgg169
  z51 := Tryz.sizeOf169
  v51 := Tryz.zeroValue169
  t53 := Tryz.underlying77
  a53 := Tryz.isAgg77
  z53 := Tryz.sizeOf77
  v53 := Tryz.zeroValue77
  t171 := Tryz.underlying195
  a171 := Tryz.isAgg195
  z171 := Tryz.sizeOf195
  v171 := Tryz.zeroValue195
  t173 := Tryz.underlying198
  a173 := Tryz.isAgg198
  z173 := Tryz.sizeOf198
  v173 := Tryz.zeroValue198
  t212 := Tryz.underlying234
  a212 := Tryz.isAgg234
  z212 := Tryz.sizeOf234
  v212 := Tryz.zeroValue234
  t213 := Tryz.underlying235
  a213 := Tryz.isAgg235
  z213 := Tryz.sizeOf235
  t232 := Tryz.underlying263
  a232 := Tryz.isAgg263
  z232 := Tryz.sizeOf263
  v232 := Tryz.zeroValue263
  t233 := Tryz.underlying264
  a233 := Tryz.isAgg264
  z233 := Tryz.sizeOf264
  v233 := Tryz.zeroValue264
  g17 := by kernel_rfl
  g18 := by kernel_rfl
  g19 := by kernel_rfl
  i0 := by kernel_rfl
  i2 := by kernel_rfl
  i3 := by kernel_rfl
  i4 := by kernel_rfl
  i5 := by kernel_rfl
  i9 := by kernel_rfl
  i20 := by kernel_rfl
  i37 := by kernel_rfl
  i46 := by kernel_rfl
  i51 := by kernel_rfl
  i53 := by kernel_rfl
  i171 := by kernel_rfl
  i173 := by kernel_rfl
  i212 := by kernel_rfl
  i232 := by kernel_rfl
  i233 := by kernel_rfl
  m17 := by kernel_rfl
  m18 := by kernel_rfl
  m19 := by kernel_rfl }
open Go.RowKit Go.Sort Go.Lib in
/-- strconv.Itoa: "Itoa is equivalent to FormatInt(int64(i), 10).": i's DECIMAL NUMERAL ('Lib.itoa': a '-' where i is negative, then the digits), FOR EVERY int. The world behind the call: the world before it, new blocks behind the heap (the library's 'var a [24]byte'), draws. (LAID: no walk: one application.) -/
theorem Tryz.strconv_Itoa (n : Int) (h0 : -9223372036854775808 ≤ n) (h1 : n ≤ 9223372036854775807) (w : World) (htab : Lib.TabIs Tryz.prog w "internal/strconv.uint64pow10" .u64 Lib.pow10Tab) :
    Calls Tryz.prog 36 #[.int .i64 n] w fun e w' => e = .returned (.string ⟨(Lib.itoa n).toArray⟩) ∧ ∃ k os, w' = grow (w.drewN k) os := Any.strconv_Itoa Tryz.laysM171 n h0 h1 w htab
def Tryz.laysC172_ren : Go.Shelf.Ren := ⟨fun | 172 => 109 | 244 => 152 | 245 => 153 | 247 => 199 | 279 => 200 | 280 => 201 | 281 => 202 | 282 => 203 | 287 => 221 | 316 => 222 | 171 => 36 | 205 => 223 | 321 => 226 | 322 => 227 | 243 => 67 | 246 => 107 | 283 => 147 | 284 => 148 | 285 => 149 | 286 => 150 | 129 => 164 | 317 => 194 | 318 => 195 | 319 => 196 | 320 => 197 | 337 => 219 | 338 => 220 | n => n, fun | 9 => 9 | 3 => 3 | 75 => 162 | 76 => 163 | 4 => 4 | 5 => 5 | 167 => 236 | 37 => 39 | 0 => 0 | 85 => 237 | 2 => 2 | 168 => 239 | 53 => 77 | 175 => 253 | 46 => 167 | 210 => 257 | 127 => 266 | 145 => 269 | 143 => 267 | 21 => 21 | 171 => 195 | 173 => 198 | 212 => 234 | 51 => 169 | 20 => 20 | 213 => 235 | 232 => 263 | 233 => 264 | 80 => 85 | n => n, fun | 15 => 1 | 16 => 2 | 17 => 0 | 18 => 3 | 19 => 4 | n => n⟩
theorem Tryz.laysC172 : Go.Proofs.LaysC.n172 Tryz.prog Tryz.laysC172_ren := {
  mixed := by kernel_rfl
  f129 := Tryz.func164.trans (congrArg some (by kernel_rfl))
  f171 := Tryz.func36.trans (congrArg some (by kernel_rfl))
  f172 := Tryz.func109.trans (congrArg some (by kernel_rfl))
  f205 := Tryz.func223.trans (congrArg some (by kernel_rfl))
  f243 := Tryz.func67.trans (congrArg some (by kernel_rfl))
  f244 := Tryz.func152.trans (congrArg some (by kernel_rfl))
  f245 := Tryz.func153.trans (congrArg some (by kernel_rfl))
  f246 := Tryz.func107.trans (congrArg some (by kernel_rfl))
  f247 := Tryz.func199.trans (congrArg some (by kernel_rfl))
  f279 := Tryz.func200.trans (congrArg some (by kernel_rfl))
  f280 := Tryz.func201.trans (congrArg some (by kernel_rfl))
  f281 := Tryz.func202.trans (congrArg some (by kernel_rfl))
  f282 := Tryz.func203.trans (congrArg some (by kernel_rfl))
  f283 := Tryz.func147.trans (congrArg some (by kernel_rfl))
  f284 := Tryz.func148.trans (congrArg some (by kernel_rfl))
  f285 := Tryz.func149.trans (congrArg some (by kernel_rfl))
  f286 := Tryz.func150.trans (congrArg some (by kernel_rfl))
  f287 := Tryz.func221.trans (congrArg some (by kernel_rfl))
  f316 := Tryz.func222.trans (congrArg some (by kernel_rfl))
  f317 := Tryz.func194.trans (congrArg some (by kernel_rfl))
  f318 := Tryz.func195.trans (congrArg some (by kernel_rfl))
  f319 := Tryz.func196.trans (congrArg some (by kernel_rfl))
  f320 := Tryz.func197.trans (congrArg some (by kernel_rfl))
  f321 := Tryz.func226.trans (congrArg some (by kernel_rfl))
  f322 := Tryz.func227.trans (congrArg some (by kernel_rfl))
  f337 := Tryz.func219.trans (congrArg some (by kernel_rfl))
  f338 := Tryz.func220.trans (congrArg some (by kernel_rfl))
  t0 := Tryz.underlying0
  a0 := Tryz.isAgg0
  z0 := Tryz.sizeOf0
  v0 := Tryz.zeroValue0
  t2 := Tryz.underlying2
  a2 := Tryz.isAgg2
  z2 := Tryz.sizeOf2
  v2 := Tryz.zeroValue2
  t3 := Tryz.underlying3
  a3 := Tryz.isAgg3
  z3 := Tryz.sizeOf3
  v3 := Tryz.zeroValue3
  t4 := Tryz.underlying4
  a4 := Tryz.isAgg4
  z4 := Tryz.sizeOf4
  v4 := Tryz.zeroValue4
  t5 := Tryz.underlying5
  a5 := Tryz.isAgg5
  z5 := Tryz.sizeOf5
  v5 := Tryz.zeroValue5
  t9 := Tryz.underlying9
  a9 := Tryz.isAgg9
  z9 := Tryz.sizeOf9
  v9 := Tryz.zeroValue9
  t20 := Tryz.underlying20
  a20 := Tryz.isAgg20
  z20 := Tryz.sizeOf20
  v20 := Tryz.zeroValue20
  t21 := Tryz.underlying21
  a21 := Tryz.isAgg21
  z21 := Tryz.sizeOf21
  v21 := Tryz.zeroValue21
  t37 := Tryz.underlying39
  a37 := Tryz.isAgg39
  z37 := Tryz.sizeOf39
  v37 := Tryz.zeroValue39
  t46 := Tryz.underlying167
  a46 := Tryz.isAgg167
  z46 := Tryz.sizeOf167
  v46 := Tryz.zeroValue167
  t51 := Tryz.underlying169
  a51 := Tryz.isAgg169
  z51 := Tryz.sizeOf169
  v51 := Tryz.zeroValue169
  t53 := Tryz.underlying77
  a53 := Tryz.isAgg77
  z53 := Tryz.sizeOf77
  v53 := Tryz.zeroValue77
  t75 := Tryz.underlying162
  a75 := Tryz.isAgg162
  z75 := Tryz.sizeOf162
  v75 := Tryz.zeroValue162
  t76 := Tryz.underlying163
  a76 := Tryz.isAgg163
  z76 := Tryz.sizeOf163
  v76 := Tryz.zeroValue163
  t85 := Tryz.underlying237
  a85 := Tryz.isAgg237
  z85 := Tryz.sizeOf237
  v85 := Tryz.zeroValue237
  t127 := Tryz.underlying266
  a127 := Tryz.isAgg266
  z127 := Tryz.sizeOf266
  v127 := Tryz.zeroValue266
  t143 := Tryz.underlying267
  a143 := Tryz.isAgg267
  z143 := Tryz.sizeOf267
  v143 := Tryz.zeroValue267
  t145 := Tryz.underlying269
  a145 := Tryz.isAgg269
  z145 := Tryz.sizeOf269
  v145 := Tryz.zeroValue269
  t167 := Tryz.underlying236
  a167 := Tryz.isAgg236
  z167 := Tryz.sizeOf236
  v167 := Tryz.zeroValue236
  t168 := Tryz.underlying239
  a168 := Tryz.isAgg239
  z168 := Tryz.sizeOf239
  v168 := Tryz.zeroValue239
  t171 := Tryz.underlying195
  a171 := Tryz.isAgg195
  z171 := Tryz.sizeOf195
  v171 := Tryz.zeroValue195
  t173 := Tryz.underlying198
  a173 := Tryz.isAgg198
  z173 := Tryz.sizeOf198
  v173 := Tryz.zeroValue198
  t175 := Tryz.underlying253
  a175 := Tryz.isAgg253
  z175 := Tryz.sizeOf253
  v175 := Tryz.zeroValue253
  t210 := Tryz.underlying257
  a210 := Tryz.isAgg257
  z210 := Tryz.sizeOf257
  v210 := Tryz.zeroValue257
  t212 := Tryz.underlying234
  a212 := Tryz.isAgg234
  z212 := Tryz.sizeOf234
  v212 := Tryz.zeroValue234
  t213 := Tryz.underlying235
  a213 := Tryz.isAgg235
  z213 := Tryz.sizeOf235
  t232 := Tryz.underlying263
  a232 := Tryz.isAgg263
  z232 := Tryz.sizeOf263
  v232 := Tryz.zeroValue263
  t233 := Tryz.underlying264
  a233 := Tryz.isAgg264
  z233 := Tryz.sizeOf264
  v233 := Tryz.zeroValue264
  g15 := by kernel_rfl
  g16 := by kernel_rfl
  g17 := by kernel_rfl
  g18 := by kernel_rfl
  g19 := by kernel_rfl
  t80 := Tryz.underlying85
  a80 := Tryz.isAgg85
  z80 := Tryz.sizeOf85
  v80 := Tryz.zeroValue85
  i0 := by kernel_rfl
  i2 := by kernel_rfl
  i3 := by kernel_rfl
  i4 := by kernel_rfl
  i5 := by kernel_rfl
  i9 := by kernel_rfl
  i20 := by kernel_rfl
  i21 := by kernel_rfl
  i37 := by kernel_rfl
  i46 := by kernel_rfl
  i51 := by kernel_rfl
  i53 := by kernel_rfl
  i75 := by kernel_rfl
  i76 := by kernel_rfl
  i80 := by kernel_rfl
  i85 := by kernel_rfl
  i127 := by kernel_rfl
  i143 := by kernel_rfl
  i145 := by kernel_rfl
  i167 := by kernel_rfl
  i168 := by kernel_rfl
  i171 := by kernel_rfl
  i173 := by kernel_rfl
  i175 := by kernel_rfl
  i210 := by kernel_rfl
  i212 := by kernel_rfl
  i232 := by kernel_rfl
  i233 := by kernel_rfl
  m15 := by kernel_rfl
  m16 := by kernel_rfl
  m17 := by kernel_rfl
  m18 := by kernel_rfl
  m19 := by kernel_rfl
  c0 := by kernel_rfl
  c2 := by kernel_rfl
  c3 := by kernel_rfl
  c4 := by kernel_rfl
  c5 := by kernel_rfl
  c9 := by kernel_rfl
  c20 := by kernel_rfl
  c21 := by kernel_rfl
  c37 := by kernel_rfl
  c46 := by kernel_rfl
  c51 := by kernel_rfl
  c53 := by kernel_rfl
  c75 := by kernel_rfl
  c76 := by kernel_rfl
  c80 := by kernel_rfl
  c85 := by kernel_rfl
  c127 := by kernel_rfl
  c143 := by kernel_rfl
  c145 := by kernel_rfl
  c167 := by kernel_rfl
  c168 := by kernel_rfl
  c171 := by kernel_rfl
  c173 := by kernel_rfl
  c175 := by kernel_rfl
  c210 := by kernel_rfl
  c212 := by kernel_rfl
  c213 := by kernel_rfl
  c232 := by kernel_rfl
  c233 := by kernel_rfl }
open Go.RowKit in
/-- strconv.Atoi, AT EVERY STRING THAT SPELLS AN int ('Lib.atoiAll .. = .ok v'; of whatever length: leading zeros count): v, AND NO ERROR. The world: as it was, or with the one new row that '[]byte(..)' lays. (LAID: no walk: one application.) -/
theorem Tryz.strconv_Atoi_ok (s : ByteArray) (hmax : s.size ≤ 9223372036854775806) (v : Int) (h : Lib.atoiAll s.data.toList = .ok v) (w : World) :
    Calls Tryz.prog 109 #[.string s] w fun e w' => e = .returned (.tuple #[.int .i64 v, .nilIface]) ∧ (w' = w ∨ ∃ t, w' = Lib.bytesWorld w 5 t) := Any.strconv_Atoi_ok Tryz.laysC172 s hmax v h w
open Go.RowKit in
/-- strconv.Atoi, AT EVERY STRING THAT IS NO DECIMAL NUMERAL ('.syntax'): 0, AND AN ERROR THAT IS NOT nil: a *NumError in a new block N: {Func: "Atoi", Num: s's bytes, Err: what the variable ErrSyntax holds}. Of what was there nothing has turned. (LAID: no walk: one application.) -/
theorem Tryz.strconv_Atoi_syntax (s : ByteArray) (hlim : s.size ≤ 281474976710656) (h : Lib.atoiAll s.data.toList = Lib.atoiAll []) (ev : Value) (w : World) (hv : w.cell? ⟨1, 0, none⟩ = some ev) (hev : ev = .nilIface ∨ ∃ te pe, ev = .iface te pe) :
    Calls Tryz.prog 109 #[.string s] w fun e w' => ∃ N, e = .returned (.tuple #[.int .i64 (0), .iface 239 (.pointer (some ⟨N, 0, none⟩))]) ∧ w.heap.size ≤ N ∧ w'.heap[N]? = some (.cells #[.string ⟨#[65, 116, 111, 105]⟩, .string s, ev] 257 (0, 0)) ∧ Below w.heap.size w w' := Any.strconv_Atoi_syntax Tryz.laysC172 s hlim h ev w hv hev
open Go.RowKit in
/-- strconv.Atoi, AT EVERY NUMERAL THAT NO int HOLDS ('.range'): THE GREATEST OR THE LEAST int, BY THE SIGN ('Lib.atoiSat'), AND AN ERROR THAT IS NOT nil: a *NumError in a new block N: {Func: "Atoi", Num: s's bytes, Err: what the variable ErrRange holds}. Of what was there nothing has turned. (LAID: no walk: one application.) -/
theorem Tryz.strconv_Atoi_range (s : ByteArray) (hlim : s.size ≤ 281474976710656) (h : Lib.atoiAll s.data.toList = .range) (ev : Value) (w : World) (hv : w.cell? ⟨2, 0, none⟩ = some ev) (hev : ev = .nilIface ∨ ∃ te pe, ev = .iface te pe) :
    Calls Tryz.prog 109 #[.string s] w fun e w' => ∃ N, e = .returned (.tuple #[.int .i64 (Lib.atoiSat s.data.toList), .iface 239 (.pointer (some ⟨N, 0, none⟩))]) ∧ w.heap.size ≤ N ∧ w'.heap[N]? = some (.cells #[.string ⟨#[65, 116, 111, 105]⟩, .string s, ev] 257 (0, 0)) ∧ Below w.heap.size w w' := Any.strconv_Atoi_range Tryz.laysC172 s hlim h ev w hv hev
def Tryz.lays189_ren : Go.Shelf.Ren := ⟨fun | 189 => 69 | 125 => 111 | 257 => 110 | 128 => 163 | 129 => 164 | 294 => 154 | 295 => 155 | 296 => 156 | 297 => 157 | 298 => 158 | 299 => 159 | 216 => 160 | 300 => 161 | 301 => 162 | 328 => 204 | 329 => 205 | 330 => 206 | 331 => 207 | 332 => 208 | 215 => 209 | 343 => 224 | n => n, fun | 28 => 83 | 3 => 3 | 46 => 167 | 0 => 0 | 51 => 169 | 53 => 77 | 4 => 4 | 183 => 203 | 182 => 202 | 131 => 208 | 5 => 5 | 9 => 9 | 218 => 242 | 222 => 246 | 228 => 259 | 229 => 260 | n => n, fun | n => n⟩
theorem Tryz.lays189 : Go.Proofs.Lays.n189 Tryz.prog Tryz.lays189_ren := {
  mixed := by kernel_rfl
  f125 := Tryz.func111.trans (congrArg some (by kernel_rfl))
  f128 := Tryz.func163.trans (congrArg some (by kernel_rfl))
  f129 := Tryz.func164.trans (congrArg some (by kernel_rfl))
  f189 := Tryz.func69.trans (congrArg some (by kernel_rfl))
  f215 := Tryz.func209.trans (congrArg some (by kernel_rfl))
  f216 := Tryz.func160.trans (congrArg some (by kernel_rfl))
  f257 := Tryz.func110.trans (congrArg some (by kernel_rfl))
  f294 := Tryz.func154.trans (congrArg some (by kernel_rfl))
  f295 := Tryz.func155.trans (congrArg some (by kernel_rfl))
  f296 := Tryz.func156.trans (congrArg some (by kernel_rfl))
  f297 := Tryz.func157.trans (congrArg some (by kernel_rfl))
  f298 := Tryz.func158.trans (congrArg some (by kernel_rfl))
  f299 := Tryz.func159.trans (congrArg some (by kernel_rfl))
  f300 := Tryz.func161.trans (congrArg some (by kernel_rfl))
  f301 := Tryz.func162.trans (congrArg some (by kernel_rfl))
  f328 := Tryz.func204.trans (congrArg some (by kernel_rfl))
  f329 := Tryz.func205.trans (congrArg some (by kernel_rfl))
  f330 := Tryz.func206.trans (congrArg some (by kernel_rfl))
  f331 := Tryz.func207.trans (congrArg some (by kernel_rfl))
  f332 := Tryz.func208.trans (congrArg some (by kernel_rfl))
  f343 := Tryz.func224.trans (congrArg some (by kernel_rfl))
  t0 := Tryz.underlying0
  a0 := Tryz.isAgg0
  z0 := Tryz.sizeOf0
  v0 := Tryz.zeroValue0
  t3 := Tryz.underlying3
  a3 := Tryz.isAgg3
  z3 := Tryz.sizeOf3
  v3 := Tryz.zeroValue3
  t4 := Tryz.underlying4
  a4 := Tryz.isAgg4
  z4 := Tryz.sizeOf4
  v4 := Tryz.zeroValue4
  t5 := Tryz.underlying5
  a5 := Tryz.isAgg5
  z5 := Tryz.sizeOf5
  v5 := Tryz.zeroValue5
  t9 := Tryz.underlying9
  a9 := Tryz.isAgg9
  z9 := Tryz.sizeOf9
  v9 := Tryz.zeroValue9
  t28 := Tryz.underlying83
  a28 := Tryz.isAgg83
  z28 := Tryz.sizeOf83
  v28 := Tryz.zeroValue83
  t46 := Tryz.underlying167
  a46 := Tryz.isAgg167
  z46 := Tryz.sizeOf167
  v46 := Tryz.zeroValue167
  t51 := Tryz.underlying169
  a51 := Tryz.isAgg169
  z51 := Tryz.sizeOf169
  v51 := Tryz.zeroValue169
  t53 := Tryz.underlying77
  a53 := Tryz.isAgg77
  z53 := Tryz.sizeOf77
  v53 := Tryz.zeroValue77
  t131 := Tryz.underlying208
  a131 := Tryz.isAgg208
  z131 := Tryz.sizeOf208
  v131 := Tryz.zeroValue208
  t182 := Tryz.underlying202
  a182 := Tryz.isAgg202
  z182 := Tryz.sizeOf202
  v182 := Tryz.zeroValue202
  t183 := Tryz.underlying203
  a183 := Tryz.isAgg203
  z183 := Tryz.sizeOf203
  v183 := Tryz.zeroValue203
  t218 := Tryz.underlying242
  a218 := Tryz.isAgg242
  z218 := Tryz.sizeOf242
  v218 := Tryz.zeroValue242
  t222 := Tryz.underlying246
  a222 := Tryz.isAgg246
  z222 := Tryz.sizeOf246
  v222 := Tryz.zeroValue246
  t228 := Tryz.underlying259
  a228 := Tryz.isAgg259
  z228 := Tryz.sizeOf259
  v228 := Tryz.zeroValue259
  t229 := Tryz.underlying260
  a229 := Tryz.isAgg260
  z229 := Tryz.sizeOf260
  v229 := Tryz.zeroValue260 }
open Go.Sort Go.RowKit in
theorem Tryz.slices_Sort_int (blk off cap : Nat) (zs : List Int) (w : World) (hH : Holds (Value.int .i64) w blk off zs.toArray) (hblk : blk < w.heap.size) (hsz : zs.length < 4611686018427387904) :
    Calls Tryz.prog 69 #[.slice (some ⟨blk, off, none⟩) zs.length cap] w fun e w' =>
      e = .returned (.tuple #[]) ∧ ∃ n os, w' = grow (putRow (Value.int .i64) (Sort.ahead w n) blk off (zs.mergeSort fun x y => decide (x ≤ y)).toArray) os := Any.slices_Sort_int Tryz.lays189 blk off cap zs w hH hblk hsz
open Go.RowKit Go.Sort in
/-- .. and plain. (LAID: no walk: one application.) -/
theorem Tryz.slices_Sort_int_none (p : Option Addr) (cap : Nat) (w : World) :
    Calls Tryz.prog 69 #[.slice p 0 cap] w fun e w' => e = .returned (.tuple #[]) ∧ w' = w := Any.slices_Sort_int_none Tryz.lays189 p cap w
end Go.Proofs

namespace Go.Proofs.VvS
open Go Go.Proofs Vv Go.RowKit
open Go.ChangeMaps (setBlock)

/-! ### ranging over a text -/
def SIter (w : World) (it : Nat) (s : List UInt8) (pos : Nat) : Prop := w.heap[it]? = some (.stringIter ⟨s.toArray⟩ pos)
theorem srange {t : TypeId} [ht : Und Tryz.prog t .string] {w : World} {s : List UInt8} {K : Value → World → Prop} (k : ∀ w', SIter w' w.heap.size s 0 → Step None' w w' → w'.heap.size = w.heap.size + 1 → K (.pointer (some ⟨w.heap.size, 0, none⟩)) w') : Do Tryz.prog (Instr.range t (Str s)) w K := by
  refine Do_of (w' := w.alloc (.stringIter ⟨s.toArray⟩ 0)) ?_ (k _ (heap_alloc_new w _) ((Step.refl _ _).alloc _) (by simp))
  simp [Instr.range, run_underlying ht.h, newObj, Sem.run]
theorem snext {w : World} {it : Nat} {s : List UInt8} {pos : Nat} {ty : TypeId} {K : Value → World → Prop} (h : SIter w it s pos) (h0 : s.length ≤ pos → K (.tuple #[.bool false]) w)
    (h1 : pos < s.length → ∀ w', SIter w' it s (pos + (Utf8.decode ⟨s.toArray⟩ pos).2) → Step (fun i => i = it) w w' → w'.heap.size = w.heap.size → K (.tuple #[.bool true, .int .i64 pos, .int .i32 (Utf8.decode ⟨s.toArray⟩ pos).1]) w') :
    Do Tryz.prog (Instr.next (.pointer (some ⟨it, 0, none⟩)) true ty) w K := by
  have hh : w.heap[it]? = some (.stringIter ⟨s.toArray⟩ pos) := h
  by_cases hp : pos < s.length
  · refine Do_of (w' := setBlock w it (.stringIter ⟨s.toArray⟩ (pos + (Utf8.decode ⟨s.toArray⟩ pos).2))) ?_ (h1 hp _ (setBlock_get hh _) (setBlock_step _) (by simp [setBlock]))
    have hp' : pos < (ByteArray.mk s.toArray).size := by simpa [ByteArray.size] using hp
    simp [Instr.next, getObj, setObj, Sem.run, hh, hp', goInt, setBlock]
  · refine Do_of ?_ (h0 (by omega))
    have hp' : ¬ pos < (ByteArray.mk s.toArray).size := by simpa [ByteArray.size] using hp
    simp [Instr.next, getObj, Sem.run, hh, hp']
theorem get8 (s : List UInt8) (pos : Nat) (h : pos < s.length) : (ByteArray.mk s.toArray).get! pos = s[pos] := by
  simp [ByteArray.get!, h]
theorem decode_low {s : List UInt8} {pos : Nat} (h : pos < s.length) (h8 : (s[pos]).toNat < 128) : Utf8.decode ⟨s.toArray⟩ pos = ((s[pos]).toNat, 1) := by
  unfold Utf8.decode
  simp only [Nat.add_zero, get8 s pos h, h8, if_true]
theorem decode_high {s : List UInt8} {pos : Nat} (h : pos < s.length) (h8 : 128 ≤ (s[pos]).toNat) : 128 ≤ (Utf8.decode ⟨s.toArray⟩ pos).1 ∧ (Utf8.decode ⟨s.toArray⟩ pos).1 < 2 ^ 21 + 65536 := by
  have hb : (s[pos]).toNat < 256 := (s[pos]).toNat_lt
  unfold Utf8.decode
  simp only [Nat.add_zero, get8 s pos h, show ¬ (s[pos]).toNat < 128 by omega, if_false]
  have e : Utf8.runeError = 65533 := rfl
  rw [e]
  generalize (ByteArray.get! ⟨s.toArray⟩ (pos + 1)).toNat = x1
  generalize (ByteArray.get! ⟨s.toArray⟩ (pos + 2)).toNat = x2
  generalize (ByteArray.get! ⟨s.toArray⟩ (pos + 3)).toNat = x3
  split
  · split
    · rename_i h1; simp only [] ; omega
    · simp
  · split
    · split
      · rename_i h1
        simp only [Bool.and_eq_true, decide_eq_true_eq] at h1
        simp only []; omega
      · simp
    · split
      · split
        · rename_i h1
          simp only [Bool.and_eq_true, decide_eq_true_eq] at h1
          simp only []; omega
        · simp
      · simp

/-! ### names -/
def okr (c : Int) : Bool := (decide (97 ≤ c) && decide (c ≤ 122)) || (decide (65 ≤ c) && decide (c ≤ 90)) || (decide (48 ≤ c) && decide (c ≤ 57)) || decide (c = 45) || decide (c = 46)
theorem IsName1_ok {w : World} {c : Int} {K : Value → World → Prop} (hk : K (.bool (!okr c)) w) : Runs Tryz.prog F_disk_IsName_1 #[.int .i32 c] w K := by
  refine c_disk_IsName_1 ?_
  unfold H_disk_IsName_1
  have fin : ∀ b : Bool, b = !okr c → K (.bool b) w := fun b e => by rw [e]; exact hk
  clear hk
  repeat' (first
    | with_reducible refine b_lss ?_ | with_reducible refine b_gtr ?_ | with_reducible refine b_neq ?_
    | (refine gt_f (fun _ => ?_) (fun _ => ?_)) | (refine gt_t (fun _ => ?_) (fun _ => ?_)))
  all_goals
    refine fin _ ?_
    unfold okr
    rw [Bool.eq_iff_iff]
    simp
    omega
theorem IsName_ok {w : World} {s : List UInt8} {K : Value → World → Prop} (hk : ∀ w', Step None' w w' → K (.bool (isName s)) w') : Runs Tryz.prog F_disk_IsName #[Str s] w K := by
  refine c_disk_IsName ?_
  unfold H_disk_IsName
  refine s_neq ?_
  refine gt_t (fun h1 => ?_) (fun h1 => ?_)
  · refine l_str ?_
    (with_reducible refine b_leq ?_)
    refine gt_t (fun h2 => ?_) (fun h2 => ?_)
    · have hl : s.length ≤ 16 := by simp [ByteArray.size] at h2; omega
      (with_reducible refine cf ?_)
      refine c_strings_ContainsFunc ?_
      unfold H_strings_ContainsFunc
      (with_reducible refine cf ?_)
      refine c_strings_IndexFunc ?_
      unfold H_strings_IndexFunc
      (with_reducible refine cf ?_)
      refine c_strings_indexFunc ?_
      unfold H_strings_indexFunc
      have fin : ∀ (n : Int) (b : Bool) (w' : World), b = isName s → Step None' w w' → (decide (0 ≤ n) = !b) → Bin Tryz.prog BinOp.geq 3 false true (.int .i64 n) (Value.int IntKind.i64 0) fun t8 => Pu Tryz.prog (Op.unary UnOp.not t8) fun t15 => K t15 w' := by
        intro n b w' hb hs hn
        (with_reducible refine b_geq ?_)
        refine unot ?_
        rw [hn, Bool.not_not, hb]
        exact hk _ hs
      refine srange fun w1 g1 s1 z1 => ?_
      refine ⟨fun wr => ∃ p, SIter wr w.heap.size s p ∧ Step None' w wr ∧ p ≤ s.length ∧ (s.take p).all okc = true, fun wr => match wr.heap[w.heap.size]? with | some (.stringIter _ p) => 20 - p | _ => 0, ⟨0, g1, s1, by omega, by simp⟩, ?_⟩
      rintro w2 ⟨p, g2, s2, hp, ho⟩
      have hm2 : w2.heap[w.heap.size]? = some (.stringIter ⟨s.toArray⟩ p) := g2
      refine snext g2 (fun h => ?_) (fun h w3 g3 s3 z3 => ?_)
      · refine ext1_0 ?_
        refine Cond_f ?_
        refine fin (-1) true _ ?_ s2 (by decide)
        unfold isName
        rw [List.take_of_length_le h] at ho
        rw [ho]
        simp [hl, List.isEmpty_iff, h1]
      · (with_reducible refine ext3_0 ?_)
        refine Cond_t ?_
        (with_reducible refine ext3_1 ?_)
        (with_reducible refine ext3_2 ?_)
        ((with_reducible refine cv ?_); simp only [List.append_toArray, List.nil_append, List.cons_append, List.append_nil])
        have hbad : okc s[p] = false → isName s = false := fun e => by
          unfold isName
          have : s.all okc = false := by
            rw [List.all_eq_false]
            exact ⟨s[p], List.getElem_mem h, by simp [e]⟩
          rw [this, Bool.and_false]
        have s23 : Step None' w w3 := s2.then_new s3 fun i hi => by omega
        by_cases h8 : (s[p]).toNat < 128
        · rw [decode_low h h8] at g3 ⊢
          refine IsName1_ok ?_
          have hoo : okr ((s[p]).toNat : Int) = okc s[p] := by
            unfold okr okc
            rw [Bool.eq_iff_iff]
            simp
            omega
          simp only [hoo]
          refine b_bool_eql ?_
          cases hc : okc s[p] with
          | true =>
            refine Cond_f ⟨⟨p + 1, g3, s23, by omega, ?_⟩, ?_⟩
            · rw [List.take_succ_eq_append_getElem h, List.all_append, ho]
              simp [hc]
            · have hm3 : w3.heap[w.heap.size]? = some (.stringIter ⟨s.toArray⟩ (p + 1)) := g3
              simp only [hm2, hm3]
              omega
          | false =>
            refine Cond_t ?_
            refine fin _ false _ (hbad hc).symm s23 (by simp)
        · have hd := decode_high h (by omega)
          refine IsName1_ok ?_
          have hoo : okr ((Utf8.decode ⟨s.toArray⟩ p).1 : Int) = false := by
            unfold okr
            rw [Bool.eq_false_iff]
            simp
            omega
          rw [hoo]
          refine b_bool_eql ?_
          refine Cond_t ?_
          refine fin _ false _ (hbad ?_).symm s23 (by simp)
          unfold okc
          rw [Bool.eq_false_iff]
          simp
          omega
    · have e : isName s = false := by
        unfold isName
        simp [ByteArray.size] at h2
        simp; omega
      rw [e] at hk
      exact hk _ (Step.refl _ _)
  · have e : isName s = false := by
      have : s = [] := Decidable.not_not.1 h1
      subst this
      rfl
    rw [e] at hk
    exact hk _ (Step.refl _ _)

end Go.Proofs.VvS
