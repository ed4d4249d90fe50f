/-
  WalNames: every input answers true. Part 9 of its proof: VvStr VvWl VvWal1 VvWal2 VvWl2 VvWal3 VvWal4 VvWal5.
-/
import Derived.Test.YtolefmkgllngnaaGreatDoorV08
import Derived.Test.YtolefmkgllngnaaGreatDoorV07
import Derived.Test.YtolefmkgllngnaaGreatDoorV02
import Derived.Lib.AtoiAll
import Derived.Lib.ItoaNum
import Derived.Lib.Strings
import Derived.Test.YtolefmkgllngnaaGreatDoorV06

namespace Go.Proofs.VvS
open Go Go.Proofs Vv Go.RowKit

/-! ### package-level variables -/
structure Glob (w : World) : Prop where
  size : glim ≤ w.heap.size
  tab : Lib.TabIs Tryz.prog w "internal/strconv.uint64pow10" .u64 Lib.pow10Tab
  err : ∃ te pe, w.cell? ⟨1, 0, none⟩ = some (.iface te pe)
  err2 : ∃ te pe, w.cell? ⟨2, 0, none⟩ = some (.iface te pe)
theorem gnum : Tryz.prog.globalNamed "internal/strconv.uint64pow10" = some 0 := by kernel_rfl
theorem Glob.step {w w' : World} {S : Nat → Prop} (h : Glob w) (hs : Step S w w') (hn : ∀ k, S k → glim ≤ k) : Glob w' := by
  have hsz := h.size
  have hk : ∀ k, k < glim → w'.heap[k]? = w.heap[k]? := fun k hk => hs.keep k (by omega) fun x => by have := hn k x; omega
  refine ⟨Nat.le_trans hsz hs.size, ?_, ?_, ?_⟩
  · have := h.tab
    unfold Lib.TabIs World.var? at this ⊢
    rw [gnum] at this ⊢
    simp only [Option.bind_some] at this ⊢
    rw [hk 0 (by decide)]
    exact this
  · obtain ⟨te, pe, e⟩ := h.err
    exact ⟨te, pe, by rw [World.cell?_of_block (w := w) (hk 1 (by decide))]; exact e⟩
  · obtain ⟨te, pe, e⟩ := h.err2
    exact ⟨te, pe, by rw [World.cell?_of_block (w := w) (hk 2 (by decide))]; exact e⟩
theorem Glob.none {w w' : World} (h : Glob w) (hs : Step None' w w') : Glob w' := h.step hs fun _ x => x.elim

theorem Step.grow (w : World) (os : Array Obj) : Step None' w (Go.Sort.grow w os) :=
  ⟨rfl, rfl, rfl, by simp [Go.Sort.grow], fun k hk _ => by simp only [Go.Sort.grow]; rw [Array.getElem?_append_left hk]⟩
theorem Step.drewN (w : World) (n : Nat) : Step None' w (w.drewN n) := ⟨rfl, rfl, rfl, Nat.le_refl _, fun _ _ _ => rfl⟩
theorem Step.below {w w' : World} (h : Below w.heap.size w w') : Step None' w w' := ⟨h.os, h.tape, h.output, h.size, fun k hk _ => h.block k hk⟩
theorem Step.bytes (w : World) (e : TypeId) (s : ByteArray) : Step None' w (Lib.bytesWorld w e s) := by
  refine ⟨rfl, rfl, rfl, by simp [Lib.bytesWorld, World.freeze], fun k hk _ => ?_⟩
  simp only [Lib.bytesWorld, World.freeze]
  rw [if_neg (by decide)]
  simp only []
  rw [Array.getElem?_modify, if_neg (by omega)]
  exact Below.heap_alloc _ _ _ hk

theorem Runs.of_calls {f : FuncId} {args : Array Value} {w : World} {R : Ending → World → Prop} {K : Value → World → Prop} (h : Calls Tryz.prog f args w R) (k : ∀ e w', R e w' → ∃ v, e = .returned v ∧ K v w') : Runs Tryz.prog f args w K := h.mono k

/-! ### numbers as texts -/
theorem Itoa_ok {w : World} {n : Int} {K : Value → World → Prop} (hg : Glob w) (hn : I64 n) (hk : ∀ w', Step None' w w' → K (Str (Lib.itoa n)) w') : Runs Tryz.prog F_strconv_Itoa #[.int .i64 n] w K :=
  Runs.of_calls (Tryz.strconv_Itoa n hn.1 hn.2 w hg.tab) fun e w' ⟨he, k, os, hw⟩ => ⟨_, he, hk w' (by rw [hw]; exact (Step.drewN w k).then_none (Step.grow _ os))⟩
def isNil : Value → Bool
  | .nilIface => true
  | _ => false
theorem Atoi_ok {w : World} {s : List UInt8} {K : Value → World → Prop} (hg : Glob w) (hs : s.length ≤ 1000000)
    (h1 : ∀ v, Lib.atoiAll s = .ok v → ∀ w', Step None' w w' → K (.tuple #[.int .i64 v, .nilIface]) w')
    (h2 : (∀ v, Lib.atoiAll s ≠ .ok v) → ∀ n t p w', Step None' w w' → K (.tuple #[.int .i64 n, .iface t p]) w') : Runs Tryz.prog F_strconv_Atoi #[Str s] w K := by
  cases h : Lib.atoiAll s with
  | ok v =>
    refine Runs.of_calls (Tryz.strconv_Atoi_ok ⟨s.toArray⟩ (by simp [ByteArray.size]; omega) v (by simpa using h) w) fun e w' ⟨he, hw⟩ => ⟨_, he, h1 v h w' ?_⟩
    rcases hw with rfl | ⟨t, rfl⟩
    · exact Step.refl _ _
    · exact Step.bytes _ _ _
  | range =>
    obtain ⟨te, pe, he⟩ := hg.err2
    refine Runs.of_calls (Tryz.strconv_Atoi_range ⟨s.toArray⟩ (by simp [ByteArray.size]; omega) (by simpa using h) _ w he (.inr ⟨te, pe, rfl⟩)) fun e w' ⟨N, he, _, _, hb⟩ => ⟨_, he, h2 (fun v => by rw [h]; nofun) _ _ _ w' (Step.below hb)⟩
  | _ =>
    obtain ⟨te, pe, he⟩ := hg.err
    refine Runs.of_calls (Tryz.strconv_Atoi_syntax ⟨s.toArray⟩ (by simp [ByteArray.size]; omega) (by exact h) _ w he (.inr ⟨te, pe, rfl⟩)) fun e w' ⟨N, he, _, _, hb⟩ => ⟨_, he, h2 (fun v => by rw [h]; nofun) _ _ _ w' (Step.below hb)⟩
theorem CutPrefix_ok {w : World} {s p : List UInt8} {K : Value → World → Prop} (hk : K (.tuple #[Str (Lib.trimPrefix s p), .bool (Lib.hasPrefix s p)]) w) : Runs Tryz.prog F_strings_CutPrefix #[Str s, Str p] w K :=
  Runs.of_calls (Tryz.strings_CutPrefix ⟨s.toArray⟩ ⟨p.toArray⟩ w) fun e w' ⟨he, hw⟩ => ⟨_, he, by subst hw; simpa using hk⟩

/-! ### whole numbers, sorted -/
abbrev IV (l : List Int) : List Value := l.map (Value.int .i64)
theorem SortInt_ok {w : World} {v : Value} {l : List Int} {K : Value → World → Prop} (h : Own w v T_int 1 (IV l)) (hl : l.length ≤ 1000000000)
    (hk : ∀ w', Own w' v T_int 1 (IV (l.mergeSort fun x y => decide (x ≤ y))) → Step (foot v) w w' → K (.tuple #[]) w') : Runs Tryz.prog F_slices_Sort_int_int #[v] w K := by
  rcases h with ⟨rfl, e⟩ | ⟨g, n, cap, cur, rfl, hg, h1, h2, h3, h4⟩
  · have : l = [] := by simpa using e
    subst this
    refine Runs.of_calls (Tryz.slices_Sort_int_none none 0 w) fun e w' ⟨he, hw⟩ => ⟨_, he, ?_⟩
    subst hw
    exact hk _ (.inl ⟨rfl, by simp⟩) (Step.refl _ _)
  · have hn : n = l.length := by
      have := congrArg List.length h4
      simp [h3] at this
      omega
    subst hn
    have hcell : ∀ j, (hj : j < l.length) → cur[j]? = some (.int .i64 l[j]) := by
      intro j hj
      have := congrArg (fun q => q[j]?) h4
      simp [List.getElem?_take, hj] at this
      exact this
    refine Runs.of_calls (Tryz.slices_Sort_int g 0 cap l w (fun j hj => ?_) (Array.getElem?_eq_some_iff.1 hg).1 (by omega)) fun e w' ⟨he, n, os, hw⟩ => ⟨_, he, ?_⟩
    · simp at hj
      refine ⟨?_, by simp [World.frozen?, hg]⟩
      rw [Nat.zero_add, cell_of_row w g j cur T_int (0, 0) hg, hcell j hj]
      simp [hj]
    · subst hw
      have hperm := List.mergeSort_perm l fun x y => decide (x ≤ y)
      have hsl := hperm.length_eq
      generalize (l.mergeSort fun x y => decide (x ≤ y)) = s at hk hsl ⊢
      have hblk : (Go.Sort.grow (Sort.putRow (Value.int .i64) (Sort.ahead w n) g 0 s.toArray) os).heap[g]? = some (.cells (Sort.putCells (Value.int .i64) 0 s.toArray cur) T_int (0, 0)) := by
        have hlt := (Array.getElem?_eq_some_iff.1 hg).1
        simp only [Go.Sort.grow, Sort.putRow, Sort.mapBlock, Sort.ahead]
        rw [Array.getElem?_append_left (by simpa using hlt), Array.getElem?_modify, if_pos rfl, hg]
        rfl
      refine hk _ (.inr ⟨g, l.length, cap, _, rfl, hblk, h1, h2, by simp [Sort.putCells, h3], ?_⟩) ?_
      · apply List.ext_getElem?
        intro j
        simp only [Nat.mul_one, List.getElem?_take, IV, List.getElem?_map]
        by_cases hj : j < l.length
        · rw [if_pos hj]
          have hjc : j < cur.size := by omega
          simp only [Sort.putCells, Array.getElem?_toList, Array.getElem?_mapIdx, Array.getElem?_eq_getElem hjc, Option.map_some]
          rw [if_pos ⟨by omega, by simp; omega⟩]
          have hjs : j < s.length := by omega
          simp [List.getElem?_eq_getElem hjs, hjs]
        · rw [if_neg hj, List.getElem?_eq_none (by omega)]; rfl
      · refine Step.trans (S1 := None') ?_ (Step.grow _ os) fun _ x => x.elim
        refine ⟨rfl, rfl, rfl, by simp [Sort.putRow, Sort.mapBlock, Sort.ahead], fun k _ hk => ?_⟩
        simp only [Sort.putRow, Sort.mapBlock, Sort.ahead]
        rw [Array.getElem?_modify, if_neg]
        rintro rfl
        exact hk rfl
end Go.Proofs.VvS

/-
  THE PLAIN LOG, I: the names of segments.
-/
namespace Vv
open Go

/-- "log-" -/
def lg : Name := [108, 111, 103, 45]
def segName (n : Int) : Name := lg ++ Lib.itoa n
/-- which segment a name is of; 0: none -/
def segNo (s : Name) : Int :=
  if Lib.hasPrefix s lg then match Lib.atoiAll (s.drop 4) with
    | .ok v => if 1 ≤ v ∧ v ≤ 1073807360 ∧ Lib.itoa v = s.drop 4 then v else 0
    | _ => 0
  else 0
/-- the segments that a directory has, rising -/
def insI (x : Int) : List Int → List Int
  | [] => [x]
  | y :: r => if x ≤ y then x :: y :: r else y :: insI x r
def isort : List Int → List Int
  | [] => []
  | x :: r => insI x (isort r)
def segs (l : Dir) : List Int := isort (((l.map (·.1)).map segNo).filter fun n => decide (0 < n))
theorem insI_perm (x : Int) (l : List Int) : (insI x l).Perm (x :: l) := by
  induction l with
  | nil => exact List.Perm.refl _
  | cons y r ih =>
    simp only [insI]
    split
    · exact List.Perm.refl _
    · exact (ih.cons y).trans (List.Perm.swap _ _ _)
theorem isort_perm (l : List Int) : (isort l).Perm l := by
  induction l with
  | nil => exact List.Perm.refl _
  | cons x r ih => exact (insI_perm x _).trans (ih.cons x)
theorem insI_sorted {x : Int} {l : List Int} (h : l.Pairwise (· ≤ ·)) : (insI x l).Pairwise (· ≤ ·) := by
  induction l with
  | nil => exact List.pairwise_singleton _ _
  | cons y r ih =>
    obtain ⟨h1, h2⟩ := List.pairwise_cons.1 h
    simp only [insI]
    split
    · rename_i hxy
      exact List.pairwise_cons.2 ⟨fun z hz => by
        rcases List.mem_cons.1 hz with rfl | hz
        · exact hxy
        · exact Int.le_trans hxy (h1 z hz), h⟩
    · rename_i hxy
      refine List.pairwise_cons.2 ⟨fun z hz => ?_, ih h2⟩
      rcases List.mem_cons.1 ((insI_perm x r).mem_iff.1 hz) with rfl | hz
      · omega
      · exact h1 z hz
theorem isort_sorted (l : List Int) : (isort l).Pairwise (· ≤ ·) := by
  induction l with
  | nil => exact List.Pairwise.nil
  | cons x r ih => exact insI_sorted ih
theorem mergeSort_isort (l : List Int) : l.mergeSort (fun x y => decide (x ≤ y)) = isort l := by
  have tr : ∀ a b c : Int, decide (a ≤ b) = true → decide (b ≤ c) = true → decide (a ≤ c) = true := fun a b c h1 h2 => by simp only [decide_eq_true_eq] at *; omega
  have to : ∀ a b : Int, (decide (a ≤ b) || decide (b ≤ a)) = true := fun a b => by simp only [Bool.or_eq_true, decide_eq_true_eq]; omega
  refine List.Perm.eq_of_pairwise (le := fun a b => a ≤ b) (fun a b _ _ h1 h2 => by omega) ?_ (isort_sorted l) ((List.mergeSort_perm l _).trans (isort_perm l).symm)
  exact List.Pairwise.imp (fun h => of_decide_eq_true h) (List.pairwise_mergeSort tr to l)
theorem segs_ms (l : Dir) : segs l = (((l.map (·.1)).map segNo).filter fun n => decide (0 < n)).mergeSort fun x y => decide (x ≤ y) := by
  rw [mergeSort_isort]; rfl

theorem segNo_range (s : Name) : 0 ≤ segNo s ∧ segNo s ≤ 1073807360 := by
  unfold segNo
  split
  · split
    · split
      · rename_i h; omega
      · omega
    · omega
  · omega
end Vv

namespace Go.Proofs.VvS
open Go Go.Proofs Vv Go.RowKit

/-! ### names of segments -/
theorem Name_ok {w : World} {n : Int} {K : Value → World → Prop} (hg : Glob w) (hn : I64 n) (hk : ∀ w', Step None' w w' → K (Str (segName n)) w') : Runs Tryz.prog F_wal_Name #[.int .i64 n] w K := by
  refine c_wal_Name ?_
  unfold H_wal_Name
  (with_reducible refine cf ?_)
  refine Itoa_ok hg hn fun w1 s1 => ?_
  have hl : (Lib.itoa n).length ≤ 100 := by
    unfold I64 at hn
    unfold Lib.itoa
    have : ∀ (k u : Nat), u < 10 ^ (k + 1) → Lib.nDigits u ≤ k + 1 := by
      intro k
      induction k with
      | zero => intro u h; rw [Lib.nDigits_small (by omega)]; omega
      | succ k ih =>
        intro u h
        by_cases hu : u < 10
        · rw [Lib.nDigits_small hu]; omega
        · rw [Lib.nDigits_big hu]
          have := ih (u / 10) (by rw [Nat.div_lt_iff_lt_mul (by omega), ← Nat.pow_succ]; exact h)
          omega
    split
    · simp only [List.length_cons, Lib.decDigits_length]
      have := this 20 n.natAbs (by omega)
      omega
    · rw [Lib.decDigits_length]
      have := this 20 n.toNat (by omega)
      omega
  refine s_add (a := lg) (by simp [lg]; omega) ?_
  exact hk _ s1
theorem b_err_neq {cx : Bool} {K : Value → Prop} {x : Value} (hx : x = .nilIface ∨ ∃ t p, x = .iface t p) (k : K (.bool (!isNil x))) : Bin Tryz.prog .neq T_error cx true x .nilIface K := by
  have hu := Tryz.underlying162
  rcases hx with rfl | ⟨t, p, rfl⟩
  · refine Bin_of (fun w => ?_) k
    have hg : eqGuard .neq T_error (opnd cx) (opnd true) .nilIface .nilIface = pure () := by cases cx <;> rfl
    have he : (Op.equal T_error .nilIface .nilIface).run Tryz.prog w = .ok true w := eql_run fun d => by simp [Op.equalIn, run_underlying hu]
    simp only [hg, binOp, Sem.run_bind, Sem.run_pure, Result.andThen_ok, he]
    rfl
  · refine Bin_of (fun w => ?_) k
    have hg : eqGuard .neq T_error (opnd cx) (opnd true) (.iface t p) .nilIface = pure () := by cases cx <;> rfl
    have he : (Op.equal T_error (.iface t p) .nilIface).run Tryz.prog w = .ok false w := eql_run fun d => by simp [Op.equalIn, run_underlying hu]
    simp only [hg, binOp, Sem.run_bind, Sem.run_pure, Result.andThen_ok, he]
    rfl
theorem itoa_len {n : Int} (hn : I64 n) : (Lib.itoa n).length ≤ 100 := by
  unfold I64 at hn
  unfold Lib.itoa
  have : ∀ (k u : Nat), u < 10 ^ (k + 1) → Lib.nDigits u ≤ k + 1 := by
    intro k
    induction k with
    | zero => intro u h; rw [Lib.nDigits_small (by omega)]; omega
    | succ k ih =>
      intro u h
      by_cases hu : u < 10
      · rw [Lib.nDigits_small hu]; omega
      · rw [Lib.nDigits_big hu]
        have := ih (u / 10) (by rw [Nat.div_lt_iff_lt_mul (by omega), ← Nat.pow_succ]; exact h)
        omega
  split
  · simp only [List.length_cons, Lib.decDigits_length]
    have := this 20 n.natAbs (by omega)
    omega
  · rw [Lib.decDigits_length]
    have := this 20 n.toNat (by omega)
    omega
theorem number_ok' {w : World} {s : Name} {K : Value → World → Prop} (hg : Glob w) (hs : s.length ≤ 100000) (hk : ∀ w', Step None' w w' → K (.int .i64 (segNo s)) w') : Runs Tryz.prog F_wal_number #[Str s] w K := by
  refine c_wal_number ?_
  unfold H_wal_number
  (with_reducible refine cf ?_)
  refine CutPrefix_ok (p := lg) ?_
  (with_reducible refine ext2_0 ?_); (with_reducible refine ext2_1 ?_)
  have htl : (Lib.trimPrefix s lg).length ≤ 100000 := by
    unfold Lib.trimPrefix
    split
    · rw [List.length_drop]; omega
    · exact hs
  (with_reducible refine cf ?_)
  have bad : segNo s = 0 → ∀ w', Step None' w w' → ∀ J : Value → World → Prop, (∀ (t36 : Value) (w_3 : World), (Cond t36 (K (Value.int IntKind.i64 0) w_3) (K (Value.int IntKind.i64 (segNo s)) w_3)) → J t36 w_3) → J (.bool true) w' := fun e w' hs' J hJ => hJ _ _ (Cond_t (by have := hk w' hs'; rw [e] at this; exact this))
  refine Atoi_ok hg (by omega) (fun v hv w1 s1 => ?_) (fun hno n t p w1 s1 => ?_)
  · (with_reducible refine ext2_0 ?_); (with_reducible refine ext2_1 ?_)
    intro J hJ
    have Jt : segNo s = 0 → ∀ w', Step None' w w' → J (.bool true) w' := fun e w' hs' => hJ _ _ (Cond_t (by have := hk w' hs'; rw [e] at this; exact this))
    refine unot ?_
    cases hp : Lib.hasPrefix s lg with
    | false => exact Gate_not rfl (Jt (by unfold segNo; rw [hp]; rfl) _ s1)
    | true =>
      have ht : Lib.trimPrefix s lg = s.drop 4 := by unfold Lib.trimPrefix; rw [hp]; rfl
      rw [ht] at hv ⊢
      have hsn : segNo s = if 1 ≤ v ∧ v ≤ 1073807360 ∧ Lib.itoa v = s.drop 4 then v else 0 := by
        unfold segNo
        rw [hp]
        simp only [if_true, hv]
      refine Gate_is rfl ?_
      refine b_err_neq (.inl rfl) ?_
      refine Gate_is rfl ?_
      (with_reducible refine b_lss ?_)
      refine gt_f (fun h1 => ?_) (fun h1 => Jt (by rw [hsn, if_neg (by omega)]) _ s1)
      (with_reducible refine b_gtr ?_)
      refine gt_f (fun h2 => ?_) (fun h2 => Jt (by rw [hsn, if_neg (by omega)]) _ s1)
      (with_reducible refine cf ?_)
      refine Itoa_ok (hg.none s1) ⟨by omega, by omega⟩ fun w2 s2 => ?_
      refine s_neq ?_
      refine hJ _ _ (cnd (fun h3 => ?_) (fun h3 => ?_))
      · have := hk _ (s1.then_none s2)
        rw [hsn, if_neg (fun h => h3 h.2.2)] at this
        exact this
      · have := hk _ (s1.then_none s2)
        rw [hsn, if_pos ⟨by omega, by omega, Decidable.not_not.1 h3⟩] at this
        exact this
  · (with_reducible refine ext2_0 ?_); (with_reducible refine ext2_1 ?_)
    intro J hJ
    have hz : segNo s = 0 := by
      unfold segNo
      split
      · rename_i hp
        have ht : Lib.trimPrefix s lg = s.drop 4 := by unfold Lib.trimPrefix; rw [hp]; rfl
        rw [ht] at hno
        split
        · rename_i v hv; exact absurd hv (hno v)
        · rfl
      · rfl
    have Jt : J (.bool true) w1 := hJ _ _ (Cond_t (by have := hk w1 s1; rw [hz] at this; exact this))
    refine unot ?_
    cases hp : Lib.hasPrefix s lg with
    | false => exact Gate_not rfl Jt
    | true =>
      refine Gate_is rfl ?_
      refine b_err_neq (.inr ⟨t, p, rfl⟩) ?_
      exact Gate_not rfl Jt

/-! ### rows of whole numbers -/
theorem IV_one (l : List Int) : ∀ u ∈ IV l, u.oneCell' = true := by
  intro u hu; obtain ⟨b, _, rfl⟩ := List.mem_map.1 hu; rfl
theorem IV_len (l : List Int) : (IV l).length = l.length := by simp
theorem Own.ints {w : World} {v : Value} {T : Nat} {l : List Int} (h : Own w v T 1 (IV l)) : View w v 1 l.length (IV l) := by
  obtain ⟨m, hm⟩ := h.view
  have := hm.1
  simp at this
  subst this
  exact hm
theorem iget {t e bytes : TypeId} {z : Value} [hs : SliceOf Tryz.prog t e 1 bytes z] {w : World} {v : Value} {l : List Int} {kd : IntKind} {x : Int} {K : Value → Prop} (h : View w v 1 l.length (IV l)) (i : Nat) (hx : x = i) (hi : i < l.length)
    (k : ∀ p : Addr, foot v p.block → w.cell? p = some (.int .i64 (l[i]'hi)) → K (.pointer (some p))) : Pu Tryz.prog (Instr.indexAt t v (.int kd x)) K :=
  vidx h i hx hi fun b o c e h1 => by
    subst e
    refine k _ rfl ?_
    have := h1 0 (.int .i64 (l[i]'hi)) (by simp [List.getElem?_eq_getElem hi])
    simpa using this
/-- the cell of an element, to be turned -/
theorem Own.set1 {w : World} {v : Value} {T : Nat} {xs : List Value} (h : Own w v T 1 xs) (i : Nat) (hi : i < xs.length) {t e bytes : Nat} {z : Value} [hs : SliceOf Tryz.prog t e 1 bytes z] {kd : IntKind} {x : Int} (hx : x = i) {K : Value → Prop}
    (k : ∀ p : Addr, foot v p.block → (∀ (w' : World) (y : Value) (ys : List Value), Own w' v T 1 ys → ys.length = xs.length → (∃ v0, w'.cell? p = some v0) ∧ w'.frozen? p = false ∧ Own (w'.setCell p y) v T 1 (ys.set i y)) → K (.pointer (some p))) :
    Pu Tryz.prog (Instr.indexAt t v (.int kd x)) K := by
  rcases h with ⟨rfl, e⟩ | ⟨g, n, cap, cur, rfl, hg, h1, h2, h3, h4⟩
  · subst e; simp at hi
  · have hn : n = xs.length := by
      have := congrArg List.length h4
      simp [h3] at this
      omega
    refine idx i hx (by omega) (k _ rfl ?_)
    intro w' y ys hw hyl
    rcases hw with ⟨e, _⟩ | ⟨g', n', cap', cur', e, hg', h1', h2', h3', h4'⟩
    · cases e
    · cases e
      have hlt : i < cur'.size := by omega
      refine ⟨⟨cur'[i], ?_⟩, ?_, .inr ⟨g, n, cap, cur'.setIfInBounds i y, rfl, ?_, h1', h2', by simpa using h3', ?_⟩⟩
      · rw [cell_of_row w' g _ cur' T (0, 0) hg']; simp [hlt]
      · simp [World.frozen?, hg']
      · simp [World.setCell, Array.getElem?_modify, hg']
      · rw [Array.toList_setIfInBounds, List.take_set, h4']

theorem segments_ok {w : World} {d : Nat} {D : Dk} {S : Nat → Prop} {K : Value → World → Prop} (hg : Glob w) (h : DAt w d D S)
    (hk : ∀ v w', Own w' v T_int 1 (IV (segs D.now)) → Made w w' v → K v w') : Runs Tryz.prog F_wal_segments #[.pointer (some ⟨d, 0, none⟩)] w K := by
  refine c_wal_segments ?_
  unfold H_wal_segments
  have hok := h.wf.nowOk
  have hlen := hok.len
  (with_reducible refine cf ?_)
  refine Names_ok h fun nv w1 o1 t1 => ?_
  have hns : ∀ s ∈ D.now.map (·.1), s.length ≤ 16 := by
    intro s hs
    obtain ⟨q, hq, rfl⟩ := List.mem_map.1 hs
    have := (hok.mem q hq).2
    unfold isName at this
    simp at this
    exact this.1.2
  rw [segs_ms] at hk
  have hnl : (D.now.map (·.1)).length = D.now.length := by simp
  generalize D.now.map (·.1) = ns at *
  have hview : ∀ w', Step None' w1 w' → Strs w' nv ns := by
    intro w' hs
    obtain ⟨m, hm⟩ := (o1.step hs fun _ _ x => x).view
    have := hm.1
    simp at this
    subst this
    exact hm
  refine l_view (hview w1 (Step.refl _ _)) ?_
  refine ⟨fun u i wr => ∃ j : Nat, i = .int .i64 j ∧ j ≤ ns.length ∧ Own wr u T_int 1 (IV (((ns.take j).map segNo).filter fun n => decide (0 < n))) ∧ Made w1 wr u, fun _ i _ => match i with | .int _ q => ns.length - q.toNat | _ => 0,
    ⟨0, rfl, by omega, Own.nil _ _ _, Made.nil _⟩, ?_⟩
  rintro u _ w2 ⟨j, rfl, hj, o2, t2⟩
  (with_reducible refine b_lss ?_)
  refine cnd (fun hlt => ?_) (fun hlt => ?_)
  · have hjl : j < ns.length := by omega
    refine Strs.get (hview w2 t2.step) j rfl hjl fun p _ hp => ?_
    refine ld hp ?_
    have hll := hns _ (List.getElem_mem hjl)
    (with_reducible refine cf ?_)
    refine number_ok' ((hg.none t1.step).none t2.step) (by omega) fun w3 s3 => ?_
    (with_reducible refine b_gtr ?_)
    have e : ((ns.take (j + 1)).map segNo).filter (fun n => decide (0 < n)) = ((ns.take j).map segNo).filter (fun n => decide (0 < n)) ++ (if 0 < segNo ns[j] then [segNo ns[j]] else []) := by
      rw [List.take_succ_eq_append_getElem hjl, List.map_append, List.filter_append]
      congr 1
      simp only [List.map_cons, List.map_nil, List.filter_cons, List.filter_nil]
      split <;> rename_i h <;> simp_all
    refine cnd (fun hpos => ?_) (fun hpos => ?_)
    · refine bs1N rfl fun w4 v4 s4 z4 => ?_
      have hcl : (((ns.take j).map segNo).filter fun n => decide (0 < n)).length ≤ 64 := by
        refine Nat.le_trans (List.length_filter_le _ _) ?_
        simp; omega
      refine app (o2.step (s3.then_none s4) fun _ _ x => x) (ASrc.of_view v4) (by simp; rfl) (fun n hn => by rw [IV_len, Nat.mul_one] at hn; unfold maxLen; omega) fun u' w5 o5 t5 => ?_
      (with_reducible refine b_add (by (first | (unfold I64; omega) | omega)) ?_)
      refine ⟨⟨j + 1, by simp, by omega, ?_, (t2.then_step (s3.then_none s4)).turn t5⟩, by simp only []; omega⟩
      rw [e, if_pos hpos]
      simpa using o5
    · (with_reducible refine b_add (by (first | (unfold I64; omega) | omega)) ?_)
      refine ⟨⟨j + 1, by simp, by omega, ?_, t2.then_step s3⟩, by simp only []; omega⟩
      rw [e, if_neg hpos, List.append_nil]
      exact o2.step s3 fun _ _ x => x
  · have hjn : j = ns.length := by omega
    subst hjn
    rw [List.take_length] at o2
    (with_reducible refine cf ?_)
    refine SortInt_ok o2 (by
      refine Nat.le_trans (List.length_filter_le _ _) ?_
      simp; omega) fun w3 o3 s3 => ?_
    refine hk _ _ o3 ?_
    have t12 : Made w w2 u := Made.of_step t1.step t2
    exact ⟨t12.step.then_new s3 t12.new, t12.new⟩
end Go.Proofs.VvS

namespace Go.Proofs.VvS
open Go Go.Proofs Vv Go.RowKit

/-! ### slices.DeleteFunc over whole numbers, with the closure of 'below' -/
theorem below1_ok {w : World} {b : Nat} {x n : Int} {K : Value → World → Prop} (hb : Box w b T_int #[.int .i64 n]) (hk : K (.bool (decide (n ≤ x))) w) : Runs Tryz.prog F_wal_Log_below_1 #[.int .i64 x, .pointer (some ⟨b, 0, none⟩)] w K := by
  refine c_wal_Log_below_1 ?_
  unfold H_wal_Log_below_1
  (with_reducible refine ldB hb (by (simp only [List.getElem?_toArray, List.getElem?_cons_succ, List.getElem?_cons_zero]; rfl)) ?_)
  (with_reducible refine b_geq ?_)
  exact hk
theorem not_own_box {w : World} {v : Value} {T : Nat} {xs cs : List Value} {b : Nat} (h : Own w v T 1 xs) (hb : Box w b T cs.toArray) (hne : ∀ k, foot v k → k ≠ b) : ¬ foot v b := fun hf => hne b hf rfl
theorem IndexInt_ok {w : World} {v : Value} {l : List Int} {b : Nat} {n : Int} {K : Value → World → Prop} (h : View w v 1 l.length (IV l)) (hb : Box w b T_int #[.int .i64 n]) (hl : l.length ≤ 1000000)
    (h0 : (∀ x ∈ l, x < n) → K (.int .i64 (-1)) w) (h1 : ∀ i : Nat, (hi : i < l.length) → (∀ x ∈ l.take i, x < n) → n ≤ l[i] → K (.int .i64 i) w) :
    Runs Tryz.prog F_slices_IndexFunc_int_int #[v, .func (.func F_wal_Log_below_1) #[] #[.pointer (some ⟨b, 0, none⟩)]] w K := by
  refine c_slices_IndexFunc_int_int ?_
  unfold H_slices_IndexFunc_int_int
  refine l_view h ?_
  refine ⟨fun i wr => ∃ j : Nat, i = .int .i64 j ∧ j ≤ l.length ∧ w = wr ∧ ∀ x ∈ l.take j, x < n, fun i _ => match i with | .int _ q => l.length - q.toNat | _ => 0, ⟨0, rfl, by omega, rfl, by simp⟩, ?_⟩
  rintro _ _ ⟨j, rfl, hj, rfl, hall⟩
  (with_reducible refine b_lss ?_)
  refine cnd (fun hlt => ?_) (fun hlt => ?_)
  · have hjl : j < l.length := by omega
    refine iget h j rfl hjl fun p _ hp => ?_
    refine ld hp ?_
    ((with_reducible refine cv ?_); simp only [List.append_toArray, List.nil_append, List.cons_append, List.append_nil])
    refine below1_ok hb ?_
    refine cnd (fun hge => h1 j hjl hall hge) (fun hge => ?_)
    (with_reducible refine b_add (by (first | (unfold I64; omega) | omega)) ?_)
    refine ⟨⟨j + 1, by simp, by omega, rfl, fun x hx => ?_⟩, by simp only []; omega⟩
    rw [List.take_succ_eq_append_getElem hjl] at hx
    rcases List.mem_append.1 hx with hx | hx
    · exact hall x hx
    · simp at hx; omega
  · refine h0 fun x hx => ?_
    rw [List.take_of_length_le (by omega)] at hall
    exact hall x hx

theorem DeleteInt_ok {w : World} {v : Value} {l : List Int} {b : Nat} {n : Int} {K : Value → World → Prop} (h : Own w v T_int 1 (IV l)) (hb : Box w b T_int #[.int .i64 n]) (hvb : ¬ foot v b) (hl : l.length ≤ 1000000)
    (hk : ∀ v' w', Own w' v' T_int 1 (IV (l.filter fun x => decide (x < n))) → Turn w v w' v' → K v' w') :
    Runs Tryz.prog F_slices_DeleteFunc_int_int #[v, .func (.func F_wal_Log_below_1) #[] #[.pointer (some ⟨b, 0, none⟩)]] w K := by
  refine c_slices_DeleteFunc_int_int ?_
  unfold H_slices_DeleteFunc_int_int
  (with_reducible refine cf ?_)
  refine IndexInt_ok (Own.ints h) hb hl (fun hall => ?_) (fun i hi hall hge => ?_)
  · (with_reducible refine b_eql ?_)
    refine cnd_t rfl ?_
    refine hk _ _ ?_ (Turn.refl _ _)
    rw [List.filter_eq_self.2 (fun x hx => decide_eq_true (hall x hx))]
    exact h
  · (with_reducible refine b_eql ?_)
    refine cnd_f (by omega) ?_
    (with_reducible refine b_add (by (first | (unfold I64; omega) | omega)) ?_)
    have htake : l.take i = (l.take (i + 1)).filter fun x => decide (x < n) := by
      rw [List.take_succ_eq_append_getElem hi, List.filter_append, List.filter_eq_self.2 (fun x hx => decide_eq_true (hall x hx))]
      simp; omega
    -- the list that the row shows
    refine ⟨fun x y wr => ∃ (a j : Nat) (c : List Int), x = .int .i64 a ∧ y = .int .i64 j ∧ a < j ∧ j ≤ l.length ∧ c.length = l.length ∧ Own wr v T_int 1 (IV c) ∧ Step (foot v) w wr ∧ c.take a = (l.take j).filter (fun x => decide (x < n)) ∧ c.drop j = l.drop j ∧ Box wr b T_int #[.int .i64 n],
      fun _ y _ => match y with | .int _ q => l.length - q.toNat | _ => 0, ⟨i, i + 1, l, rfl, by simp, by omega, by omega, rfl, h, Step.refl _ _, htake, rfl, hb⟩, ?_⟩
    rintro _ _ w1 ⟨a, j, c, rfl, rfl, haj, hj, hcl, o1, s1, e1, e2, b1⟩
    refine l_view (Own.ints o1) ?_
    (with_reducible refine b_lss ?_)
    refine cnd (fun hlt => ?_) (fun hlt => ?_)
    · intro J hJ
      have hjl : j < l.length := by omega
      have hjc : j < c.length := by omega
      have ecj : c[j] = l[j] := by
        have := congrArg (fun q => q[0]?) e2
        simp [hjc, hjl] at this
        exact this
      refine iget (Own.ints o1) j rfl hjc fun p _ hp => ?_
      refine ld hp ?_
      ((with_reducible refine cv ?_); simp only [List.append_toArray, List.nil_append, List.cons_append, List.append_nil])
      refine below1_ok b1 ?_
      rw [ecj] at hp ⊢
      have e3 : (l.take (j + 1)).filter (fun x => decide (x < n)) = (l.take j).filter (fun x => decide (x < n)) ++ (if l[j] < n then [l[j]] else []) := by
        rw [List.take_succ_eq_append_getElem hjl, List.filter_append]
        congr 1
        simp only [List.filter_cons, List.filter_nil]
        split <;> rename_i h <;> simp_all
      have e4 : c.drop (j + 1) = l.drop (j + 1) := by
        have := congrArg (fun q => q.drop 1) e2
        simpa [List.drop_drop] using this
      refine unotp ?_
      refine cnd (fun hlt2 => ?_) (fun hlt2 => ?_)
      · refine Own.set1 o1 a (by rw [IV_len]; omega) rfl fun p2 hp2 hset => ?_
        obtain ⟨⟨v0, q1⟩, q2, q3⟩ := hset w1 (.int .i64 l[j]) _ o1 rfl
        refine st q1 q2 rfl ?_
        (with_reducible refine b_add (by (first | (unfold I64; omega) | omega)) ?_)
        refine hJ _ _ ?_
        (with_reducible refine b_add (by (first | (unfold I64; omega) | omega)) ?_)
        have q3' : Own (w1.setCell p2 (.int .i64 l[j])) v T_int 1 (IV (c.set a l[j])) := by
          have e : (IV c).set a (.int .i64 l[j]) = IV (c.set a l[j]) := by simp [IV, List.map_set]
          rw [← e]; exact q3
        refine ⟨⟨a + 1, j + 1, c.set a l[j], by simp, by simp, by omega, by omega, by simpa using hcl, q3', ?_, ?_, ?_, ?_⟩, by simp only []; omega⟩
        · exact s1.trans ((Step.refl (foot v) w1).setCell (.inl hp2) _) fun i hi => .inl hi
        · rw [e3, if_pos (by omega), ← e1]
          have hac : a < (c.set a l[j]).length := by simp; omega
          rw [List.take_succ_eq_append_getElem hac, List.take_set_of_le (Nat.le_refl _)]
          simp
        · rw [List.drop_set_of_lt (by omega)]; exact e4
        · exact b1.step ((Step.refl (foot v) w1).setCell (.inl hp2) _) hvb
      · refine hJ _ _ ?_
        (with_reducible refine b_add (by (first | (unfold I64; omega) | omega)) ?_)
        refine ⟨⟨a, j + 1, c, rfl, by simp, by omega, by omega, hcl, o1, s1, ?_, e4, b1⟩, by simp only []; omega⟩
        rw [e3, if_neg (by omega), List.append_nil]; exact e1
    · have hjl : j = l.length := by omega
      subst hjl
      rw [List.take_length] at e1
      rcases o1 with ⟨rfl, e⟩ | ⟨g, m, cap, cur, rfl, hg, g1, g2, g3, g4⟩
      · have : c = [] := by simpa using e
        subst this; simp at hcl; omega
      · have hm : m = l.length := by
          have := congrArg List.length g4
          simp [g3] at this
          omega
        subst hm
        -- s[i:], cleared
        have hal : a ≤ l.length := by omega
        refine Pu_of (v := .slice (some (if cap = a then ⟨g, 0, none⟩ else ⟨g, 0 + a * 1, none⟩)) (l.length - a) (cap - a)) (fun w => ?_) ?_
        · simp only [Instr.sliceAt, Instr.slice, run_underlying Tryz.underlying83, run_sliceBounds (lowI (n := a) rfl) (high0 (m := l.length)) hal (Nat.le_refl _) g1, Go.sizeOf, typeInfo, Sem.run_bind, Result.andThen_ok, Sem.run_pure, run_program]
          obtain ⟨i2, _, hi2, _, hsz, _⟩ := (inferInstance : SliceOf Tryz.prog 83 _ _ _ _).parts
          rw [hi2]
          simp only [Sem.run_pure, Result.andThen_ok, hsz]
          split
          · rfl
          · simp [Addr.add_lit]
        rw [if_neg (by omega)]
        simp only [Nat.zero_add, Nat.mul_one]
        refine BltD_of (w' := w1.setRow g (cur.toList.take (a + 0) ++ List.replicate (l.length - a) (Value.int .i64 0) ++ cur.toList.drop (a + 0 + (List.replicate (l.length - a) (Value.int .i64 0)).length)).toArray) (v := .tuple #[]) ?_ ?_
        · have hst := run_storeCells_at Tryz.prog g a T_int (List.replicate (l.length - a) (Value.int .i64 0)) 0 cur w1 hg (by simp; omega) (by intro u hu; rw [List.eq_of_mem_replicate hu]; rfl)
          have hz : (zeroValue T_int).run Tryz.prog w1 = .ok (.int .i64 0) w1 := (inferInstance : ZeroOf Tryz.prog T_int _).run w1
          have hzc : (Builtin.zeroCells (Value.int .i64 0).cells (l.length - a)).toList = List.replicate (l.length - a) (Value.int .i64 0) := by
            simp [Builtin.zeroCells, Value.cells]
            apply List.ext_getElem?
            intro q
            simp [List.getElem?_replicate]
            split <;> simp_all [Nat.mod_one]
          simp only [builtin, Builtin.clear_, Sem.run_bind, run_underlying Tryz.underlying83, Result.andThen_ok, Sem.run_pure]
          simp only [List.getElem?_toArray, List.getElem?_cons_zero]
          simp only [Sem.run_bind, run_underlying Tryz.underlying83, Result.andThen_ok, Sem.run_pure]
          obtain ⟨q, hq⟩ : ∃ q, l.length - a = q + 1 := ⟨l.length - a - 1, by omega⟩
          rw [hq] at hzc hst ⊢
          simp only [Sem.run_bind, hz, Result.andThen_ok, hzc, hst, Sem.run_pure]
        · refine Pu_of (v := .slice (some ⟨g, 0, none⟩) a cap) (fun w => ?_) ?_
          · simp only [Instr.sliceAt, Instr.slice, run_underlying Tryz.underlying83, run_sliceBounds low0 (highI (n := a) (m := l.length) rfl) (Nat.zero_le _) hal g1, Go.sizeOf, typeInfo, Sem.run_bind, Result.andThen_ok, Sem.run_pure, run_program]
            obtain ⟨i2, _, hi2, _, hsz, _⟩ := (inferInstance : SliceOf Tryz.prog 83 _ _ _ _).parts
            rw [hi2]
            simp only [Sem.run_pure, Result.andThen_ok, hsz]
            split <;> simp [Addr.add_lit]
          refine hk _ _ (.inr ⟨g, a, cap, _, rfl, setRow_heap w1 g cur _ T_int _ hg, by omega, g2, ?_, ?_⟩) ⟨?_, fun k hk => .inl hk⟩
          · simp; omega
          · rw [← e1]
            have : (cur.toList.take (l.length * 1)).take a = (IV c).take a := by rw [g4]
            rw [List.take_take] at this
            simp only [Nat.mul_one] at this ⊢
            rw [Nat.min_eq_left hal] at this
            simp only [Nat.add_zero]
            have hlen : (List.take a cur.toList).length = a := by simp; omega
            rw [List.append_assoc, List.take_append_of_le_length (by omega), List.take_take, Nat.min_self, this]
            simp [IV, List.map_take]
          · exact s1.trans (S1 := fun k => k = g) ⟨rfl, rfl, rfl, by simp [World.setRow], fun k _ hk => setRow_other w1 g k _ hk⟩ fun i hi => .inl (by subst hi; rfl)
end Go.Proofs.VvS

/-
  THE PLAIN LOG, II: what it does.
-/
namespace Go.Proofs.VvS
open Go Go.Proofs Vv Go.RowKit

structure Lg where
  seg : Int
  seq : Nat
  wait : List (List UInt8)
  group : Nat
  step : Nat
  tickets : Nat
  flushed : Nat
  over : Nat
/-- frames of some bodies -/
def framesB : Nat → List (List UInt8) → List UInt8
  | _, [] => []
  | q, x :: r => frame q x ++ framesB ((q + 1) % 2 ^ 64) r
/-- the body of a segment's first frame -/
def firstB (seg : Int) : List UInt8 := 76 :: enc seg.toNat
def Lg.lay (L : Lg) (D : Dk) (ls : List (List UInt8)) : Lg × Dk × Nat :=
  ({ L with seq := (L.seq + ls.length) % 2 ^ 64 }, (D.append (segName L.seg) (framesB L.seq ls)).1, (D.append (segName L.seg) (framesB L.seq ls)).2)
def Lg.begin' (L : Lg) (D : Dk) : Lg × Dk × Nat :=
  let a := Lg.lay { L with seg := L.seg + 1 } D [firstB (L.seg + 1)]
  if a.2.2 ≠ 0 then a else
  let b := a.2.1.sync (segName (L.seg + 1))
  if b.2 ≠ 0 then (a.1, b.1, b.2) else
  (a.1, b.1.syncDir.1, b.1.syncDir.2)
def bods : List (List UInt8) → Option (List Cm)
  | [] => some []
  | [] :: r => bods r
  | (c :: x) :: r => match cread (c :: x) with
    | .ok m => (bods r).map (m :: ·)
    | _ => none
def rdBods (seg : Int) : List (List UInt8) → Option (List Cm)
  | [] => some []
  | x :: r => if x = firstB seg then bods r else none
/-- a segment, read: its commits, how many frames, the next number -/
def rdSeg (seg : Int) (seq : Nat) (b : List UInt8) (known : Bool) : Option (List Cm × Nat × Nat) :=
  match ftake b 0 with
  | some (s, _, _) => if known ∧ s ≠ seq then none else go s
  | none => go seq
  where go (q : Nat) : Option (List Cm × Nat × Nat) := match fall b q with
  | none => none
  | some (bs, _) => (rdBods seg bs).map fun l => (l, bs.length, (q + bs.length) % 2 ^ 64)
/-- segments, read one behind the other; an error's number, or the state -/
def rdAll (D : Dk) (fr : Int) : List Int → (Int × Nat × Bool × List Cm) → Nat ⊕ (Int × Nat × Bool × List Cm)
  | [], s => .inr s
  | n :: r, s => if n < fr then rdAll D fr r s else
    if (D.read (segName n)).2 ≠ 0 then .inl (D.read (segName n)).2 else
    match rdSeg n s.2.1 (D.read (segName n)).1 s.2.2.1 with
    | none => .inl 81
    | some (l, m, q) => rdAll D fr r (n, q, s.2.2.1 || decide (0 < m), s.2.2.2 ++ l)
/-- is a segment not there that must be? -/
def gap (fr : Int) (all : List Int) (i : Nat) : Bool := decide (fr < all.getD i 0) && (decide (i = 0) || decide (all.getD (i - 1) 0 ≠ all.getD i 0 - 1))
/-- Open: the disk, the error, the log with what it tells -/
def wopen (D : Dk) (fr : Int) : Dk × Nat × Option (Lg × List Cm) :=
  if fr < 1 ∨ 1073741824 < fr then (D, 2, none) else
  if D.off then (D, 24, none) else
  let all := segs D.now
  if (List.range all.length).any (gap fr all) then (D, 81, none) else
  match rdAll D fr all (fr - 1, 0, false, []) with
  | .inl e => (D, e, none)
  | .inr s =>
    let b := Lg.begin' ⟨s.1, s.2.1, [], 0, 0, 0, 0, 0⟩ D
    if b.2.2 ≠ 0 then (b.2.1, b.2.2, none) else (b.2.1, 0, some (b.1, s.2.2.2))
/-- Put: the ticket, the error -/
def Lg.put (L : Lg) (c : Cm) : Lg × Nat × Nat :=
  if L.over ≠ 0 then (L, 0, L.over) else
  if right c then ({ L with wait := L.wait ++ [cBytes c], tickets := L.tickets + 1 }, L.tickets + 1, 0) else (L, 0, 80)
/-- the group's next operation, done: the error; the step -/
def Lg.tick (L : Lg) (e : Nat) : Lg :=
  let s := (L.step + 1) % 4
  { L with over := e, step := s, flushed := if s = 0 ∧ e = 0 then L.flushed + L.group else L.flushed }
def Lg.next (L : Lg) (D : Dk) : Lg × Dk :=
  if L.step = 0 then
    if L.wait = [] then (L, D) else
    let a := Lg.lay { L with group := L.wait.length, wait := [] } D L.wait
    (a.1.tick a.2.2, a.2.1)
  else if L.step = 2 then
    let a := L.lay D [[]]
    (a.1.tick a.2.2, a.2.1)
  else
    let b := D.sync (segName L.seg)
    (L.tick b.2, b.1)
def Lg.flush (L : Lg) (D : Dk) : Lg × Dk × Bool × Nat :=
  if L.over ≠ 0 then (L, D, false, L.over) else
  let n := L.next D
  (n.1, n.2, decide (n.1.over = 0) && (decide (n.1.step = 0) && decide (n.1.wait = [])), n.1.over)
/-- the operations of the group that is under way -/
def Lg.settle : Nat → Lg → Dk → Lg × Dk
  | 0, L, D => (L, D)
  | k + 1, L, D => if L.over = 0 ∧ 0 < L.step then Lg.settle k (L.next D).1 (L.next D).2 else (L, D)
def Lg.rotate (L : Lg) (D : Dk) : Lg × Dk × Int × Nat :=
  let a := Lg.settle 4 L D
  if a.1.over ≠ 0 then (a.1, a.2, 0, a.1.over) else
  let b := a.1.begin' a.2
  let L' := { b.1 with over := b.2.2 }
  if b.2.2 ≠ 0 then (L', b.2.1, 0, b.2.2) else (L', b.2.1, L'.seg, 0)
def below (l : Dir) (first : Int) : List Int := (segs l).filter fun x => decide (x < first)
def Lg.drop (L : Lg) (D : Dk) (first : Int) : Lg × Dk × Bool × Nat :=
  if L.over ≠ 0 then (L, D, false, L.over) else
  if first < 1 ∨ L.seg < first then (L, D, false, 2) else
  match below D.now first with
  | [] => (L, D, true, 0)
  | n :: _ =>
    let r := D.delete (segName n)
    ({ L with over := r.2 }, r.1, decide (r.2 = 0) && decide (below r.1.now first = []), r.2)
end Go.Proofs.VvS

namespace Go.Proofs.VvS
open Go Go.Proofs Vv Go.RowKit

/-- rows of bytes that are only read, apart of X -/
def Rws (w : World) (v : Value) (ls : List (List UInt8)) (X : Nat → Prop) : Prop :=
  ∃ vs : List Value, View w v 1 ls.length vs ∧ (∀ (j : Nat) (l : List UInt8), ls[j]? = some l → ∃ u, vs[j]? = some u ∧ Bytes w u l) ∧ (∀ k, foot v k → ¬ X k) ∧ ∀ u ∈ vs, ∀ k, foot u k → ¬ X k
theorem Rws.step {w w' : World} {v : Value} {ls : List (List UInt8)} {X S : Nat → Prop} (h : Rws w v ls X) (hs : Step S w w') (hn : ∀ k, S k → X k) : Rws w' v ls X := by
  obtain ⟨vs, h1, h2, h3, h4⟩ := h
  refine ⟨vs, View.step h1 hs fun k hk hS => h3 k hk (hn k hS), fun j l hj => ?_, h3, h4⟩
  obtain ⟨u, h5, h6⟩ := h2 j l hj
  exact ⟨u, h5, View.step h6 hs fun k hk hS => h4 u (List.mem_of_getElem? h5) k hk (hn k hS)⟩
theorem Rws.len {w : World} {v : Value} {ls : List (List UInt8)} {X : Nat → Prop} (h : Rws w v ls X) : ∃ vs, View w v 1 ls.length vs := let ⟨vs, h1, _⟩ := h; ⟨vs, h1⟩
theorem Rws.get {w : World} {v : Value} {ls : List (List UInt8)} {X : Nat → Prop} {kd : IntKind} {x : Int} {K : Value → Prop} (h : Rws w v ls X) (i : Nat) (hx : x = i) (hi : i < ls.length)
    (k : ∀ (p : Addr) (u : Value), foot v p.block → w.cell? p = some u → Bytes w u (ls[i]'hi) → (∀ k, foot u k → ¬ X k) → K (.pointer (some p))) : Pu Tryz.prog (Instr.indexAt T_s_s_uint8 v (.int kd x)) K := by
  obtain ⟨vs, h1, h2, h3, h4⟩ := h
  obtain ⟨u, h5, h6⟩ := h2 i _ (List.getElem?_eq_getElem hi)
  refine vidx h1 i hx hi fun b o c e hu => ?_
  subst e
  refine k _ u rfl ?_ h6 (h4 u (List.mem_of_getElem? h5))
  have := hu 0 u (by simpa using h5)
  simpa using this

theorem lay_len : ∀ (l : List UInt8) (k : Nat), (lay l k).length ≤ 2 * l.length
  | [], k => by simp [lay]
  | c :: r, k => by
    have := lay_len r (k + 1)
    rw [lay]
    split <;> simp <;> omega
theorem frame_len (q : Nat) (body : List UInt8) : (frame q body).length ≤ 2 * body.length + 200 := by
  unfold frame
  rw [List.length_set]
  refine Nat.le_trans (lay_len _ _) ?_
  have := content_length q body
  unfold padded
  simp only [List.length_append, List.length_replicate]
  omega
theorem framesB_snoc (ls : List (List UInt8)) (x : List UInt8) : ∀ q, q < 2 ^ 64 → framesB q (ls ++ [x]) = framesB q ls ++ frame ((q + ls.length) % 2 ^ 64) x := by
  induction ls with
  | nil => intro q hq; simp [framesB, Nat.mod_eq_of_lt hq]
  | cons y r ih =>
    intro q hq
    simp only [List.cons_append, framesB, List.length_cons, List.append_assoc]
    rw [ih _ (Nat.mod_lt _ (by decide))]
    congr 3
    omega
theorem framesB_len (ls : List (List UInt8)) (hx : ∀ x ∈ ls, x.length ≤ 20000) : ∀ q, (framesB q ls).length ≤ 40200 * ls.length := by
  induction ls with
  | nil => intro q; simp [framesB]
  | cons y r ih =>
    intro q
    have h1 := ih (fun x hx' => hx x (List.mem_cons_of_mem _ hx')) ((q + 1) % 2 ^ 64)
    have h2 := frame_len q y
    have h3 := hx y (by simp)
    simp only [framesB, List.length_append, List.length_cons]
    omega
theorem lay_length (l : List UInt8) : ∀ k, (lay l k).length = l.length + ((k + l.length + 30) / 31 - (k + 30) / 31) := by
  induction l with
  | nil => intro k; simp [lay]
  | cons c r ih =>
    intro k
    rw [lay]
    split <;> simp only [List.length_append, List.length_nil, List.length_cons, ih] <;> omega
theorem frame_mod (q : Nat) (body : List UInt8) : (frame q body).length % 32 = 0 := by
  unfold frame
  rw [List.length_set, lay_length]
  have : (padded q body).length % 31 = 0 := by
    unfold padded
    simp only [List.length_append, List.length_replicate]
    omega
  omega
theorem framesB_mod (ls : List (List UInt8)) : ∀ q, (framesB q ls).length % 32 = 0 := by
  induction ls with
  | nil => intro q; rfl
  | cons y r ih =>
    intro q
    have h1 := ih ((q + 1) % 2 ^ 64)
    have h2 := frame_mod q y
    simp only [framesB, List.length_append]
    omega

theorem wrap_succ (n : Nat) : IntKind.u64.wrap (((n % 2 ^ 64 : Nat) : Int) + 1) = (((n + 1) % 2 ^ 64 : Nat) : Int) := by
  have e : (((n % 2 ^ 64 : Nat) : Int) + 1) = ((n % 2 ^ 64 + 1 : Nat) : Int) := by omega
  rw [e, wrap_un rfl]
  show (((n % 2 ^ 64 + 1) % 2 ^ 64 : Nat) : Int) = _
  congr 1
  omega
/-! ### the tail -/
section
variable {w : World} {b d : Nat} {seg : Int} {q : Nat} {c3 c4 c5 c6 c7 c8 : Value} {S : Nat → Prop} {D : Dk} {K : Value → World → Prop}
/-- a log's cells -/
abbrev TB (w : World) (b d : Nat) (seg : Int) (q : Nat) (c3 c4 c5 c6 c7 c8 : Value) : Prop := Box w b T_wal_Log #[.pointer (some ⟨d, 0, none⟩), .int .i64 seg, .int .u64 q, c3, c4, c5, c6, c7, c8]

theorem tname_ok (hg : Glob w) (hb : TB w b d seg q c3 c4 c5 c6 c7 c8) (hs : I64 seg) (hk : ∀ w', Step None' w w' → K (Str (segName seg)) w') : Runs Tryz.prog F_wal_tail_name #[.pointer (some ⟨b, 0, none⟩)] w K := by
  refine c_wal_tail_name ?_
  unfold H_wal_tail_name
  refine ⟨trivial, ?_⟩
  (with_reducible refine fld0 ?_)
  (with_reducible refine ldB hb (by (simp only [List.getElem?_toArray, List.getElem?_cons_succ, List.getElem?_cons_zero]; rfl)) ?_)
  (with_reducible refine cf ?_)
  exact Name_ok hg hs hk
theorem tsync_ok (hg : Glob w) (hb : TB w b d seg q c3 c4 c5 c6 c7 c8) (hs : I64 seg) (hd : DAt w d D S) (hbS : ¬ S b)
    (hk : ∀ w' S', DAt w' d (D.sync (segName seg)).1 S' → TB w' b d seg q c3 c4 c5 c6 c7 c8 → Evo S w S' w' → K (.int .i64 (D.sync (segName seg)).2) w') : Runs Tryz.prog F_wal_tail_sync #[.pointer (some ⟨b, 0, none⟩)] w K := by
  refine c_wal_tail_sync ?_
  unfold H_wal_tail_sync
  refine ⟨trivial, ?_⟩
  (with_reducible refine fld0 ?_)
  have s0 := drew_step w
  generalize w.drew = w1 at s0 ⊢
  (replace hg := Go.Proofs.VvS.Glob.step hg s0 (fun _ x => x.elim); replace hb := Vv.Box.step hb s0 (fun x => x); replace hd := Go.Proofs.VvS.DAt.step hd s0 (fun _ _ x => x))
  (with_reducible refine ldB hb (by (simp only [List.getElem?_toArray, List.getElem?_cons_succ, List.getElem?_cons_zero]; rfl)) ?_)
  (with_reducible refine cf ?_)
  refine tname_ok hg hb hs fun w2 s2 => ?_
  (replace hg := Go.Proofs.VvS.Glob.step hg s2 (fun _ x => x.elim); replace hb := Vv.Box.step hb s2 (fun x => x); replace hd := Go.Proofs.VvS.DAt.step hd s2 (fun _ _ x => x))
  refine ⟨ldBs hb rfl, ?_⟩
  (with_reducible refine cf ?_)
  refine Sync_ok hd fun w3 S3 h3 e3 => ?_
  exact hk _ _ h3 (hb.step e3.step hbS) (Evo.none_then (s0.then_none s2) e3)

theorem wlay_ok {v : Value} {ls : List (List UInt8)} (hg : Glob w) (hb : TB w b d seg q c3 c4 c5 c6 c7 c8) (hs : I64 seg) (hq : q < 2 ^ 64) (hd : DAt w d D S) (hbS : ¬ S b) (hbl : glim ≤ b) (hv : Rws w v ls fun k => S k ∨ k = b) (hl : ls.length ≤ 10000) (hx : ∀ x ∈ ls, x.length ≤ 20000)
    (hk : ∀ w' S', DAt w' d (D.append (segName seg) (framesB q ls)).1 S' → TB w' b d seg ((q + ls.length) % 2 ^ 64) c3 c4 c5 c6 c7 c8 → Evo (fun k => S k ∨ k = b) w (fun k => S' k ∨ k = b) w' → ¬ S' b → K (.int .i64 (D.append (segName seg) (framesB q ls)).2) w') :
    Runs Tryz.prog F_wal_tail_lay #[.pointer (some ⟨b, 0, none⟩), v] w K := by
  refine c_wal_tail_lay ?_
  unfold H_wal_tail_lay
  obtain ⟨vs0, hvw⟩ := hv.len
  refine l_view hvw ?_
  have hblt := hb.lt
  have hSl := hd.lt
  refine ⟨fun u i wr => ∃ j : Nat, i = .int .i64 j ∧ j ≤ ls.length ∧ Own wr u T_uint8 1 (B8 (framesB q (ls.take j))) ∧ (∀ k, foot u k → w.heap.size ≤ k) ∧ TB wr b d seg ((q + j) % 2 ^ 64) c3 c4 c5 c6 c7 c8 ∧ Step (fun k => k = b) w wr, fun _ i _ => match i with | .int _ m => ls.length - m.toNat | _ => 0,
    ⟨0, rfl, by omega, Own.nil _ _ _, fun k hk => by simp [foot, Value.ownBlock] at hk, by rw [Nat.add_zero, Nat.mod_eq_of_lt hq]; exact hb, Step.refl _ _⟩, ?_⟩
  rintro u _ w1 ⟨j, rfl, hj, o1, hu1, b1, s1⟩
  have hv1 := hv.step s1 fun k hk => .inr hk
  (with_reducible refine b_lss ?_)
  refine cnd (fun hlt => ?_) (fun hlt => ?_)
  · have hjl : j < ls.length := by omega
    have hlen := framesB_len (ls.take j) (fun x hx' => hx x (List.mem_of_mem_take hx')) q
    rw [List.length_take] at hlen
    have hmod := framesB_mod (ls.take j) q
    refine hv1.get j rfl hjl fun p x _ hp hxb _ => ?_
    refine ld hp ?_
    refine ⟨trivial, ?_⟩
    (with_reducible refine fld0 ?_)
    (with_reducible refine ldB b1 (by (simp only [List.getElem?_toArray, List.getElem?_cons_succ, List.getElem?_cons_zero]; rfl)) ?_)
    have hxl := hx _ (List.getElem_mem hjl)
    (with_reducible refine cf ?_)
    refine fPut_ok o1.bytes hxb (by omega) (by omega) (fun h => absurd hmod h) (fun _ h => by omega) fun _ _ u2 w2 o2 t2 => ?_
    (with_reducible refine ext2_0 ?_); (with_reducible refine ext2_1 ?_)
    refine ⟨trivial, ?_⟩
    (with_reducible refine fld0 ?_)
    have b2 := b1.step t2.step fun x => x
    (with_reducible refine ldB b2 (by (simp only [List.getElem?_toArray, List.getElem?_cons_succ, List.getElem?_cons_zero]; rfl)) ?_)
    refine b_addw ?_
    have ew := wrap_succ (q + j)
    rw [ew]
    refine ⟨trivial, ?_⟩
    (with_reducible refine fld0 ?_)
    refine stB b2 (by simp) rfl fun w3 b3 s3 => ?_
    have z1 := s1.size
    have hu2 : ∀ k, foot u2 k → w.heap.size ≤ k := fun k hk => by have := t2.new k hk; omega
    (with_reducible refine b_add (by (first | (unfold I64; omega) | omega)) ?_)
    refine ⟨⟨j + 1, by simp, by omega, ?_, hu2, b3, (s1.then_none t2.step).trans s3 fun i hi => .inl hi⟩, by simp only []; omega⟩
    rw [List.take_succ_eq_append_getElem hjl, framesB_snoc _ _ _ hq, List.length_take, Nat.min_eq_left hj]
    exact o2.step s3 fun k hk e => by have := hu2 k hk; omega
  · have hjn : j = ls.length := by omega
    subst hjn
    rw [List.take_length] at o1
    have hlen := framesB_len ls hx q
    refine ⟨trivial, ?_⟩
    (with_reducible refine fld0 ?_)
    have s0 := drew_step w1
    generalize w1.drew = w2 at s0 ⊢
    have b2 := b1.step s0 fun x => x
    have o2 := o1.step s0 fun _ _ x => x
    have s2 := s1.then_none s0
    have hg2 := hg.step s2 fun k hk => by omega
    (with_reducible refine ldB b2 (by (simp only [List.getElem?_toArray, List.getElem?_cons_succ, List.getElem?_cons_zero]; rfl)) ?_)
    (with_reducible refine cf ?_)
    refine tname_ok hg2 b2 hs fun w3 s3 => ?_
    have b3 := b2.step s3 fun x => x
    have o3 := o2.step s3 fun _ _ x => x
    have s03 := s2.then_none s3
    have d3 := hd.step s03 fun k hk e => hbS (e ▸ hk)
    refine ⟨ldBs b3 rfl, ?_⟩
    (with_reducible refine cf ?_)
    refine Append_ok d3 o3.bytes (fun k hk hS => by have := hu1 k hk; have := hSl k hS; omega) (by omega) fun w4 S4 d4 e4 => ?_
    have hb4 : ¬ S4 b := fun hh => (e4.grow b hh).elim hbS fun h => by have := s03.size; omega
    refine hk _ _ d4 (b3.step e4.step hbS) ⟨(s03.mono fun k hk => .inr hk).trans e4.step fun k hk => .inl (.inl hk), fun k hk => hk.elim (fun h => (e4.grow k h).imp .inl fun h => by have := s03.size; omega) fun h => .inl (.inr h)⟩ hb4
end
end Go.Proofs.VvS

namespace Go.Proofs.VvS
open Go Go.Proofs Vv Go.RowKit

/-- a new row of three elements of one cell -/
theorem bs3N {t e bytes : Nat} {z v1 v2 v3 : Value} [hs : SliceOf Tryz.prog t e 1 bytes z] {w : World} {K : Value → World → Prop} (h1 : v1.oneCell' = true) (h2 : v2.oneCell' = true) (h3 : v3.oneCell' = true)
    (k : ∀ w', View w' (.slice (some ⟨w.heap.size, 0, none⟩) 3 3) 1 3 [v1, v2, v3] → Step None' w w' → w'.heap.size = w.heap.size + 1 → K (.slice (some ⟨w.heap.size, 0, none⟩) 3 3) w') : Do Tryz.prog (Instr.buildSlice t 3 #[(0, v1), (1, v2), (2, v3)]) w K := by
  obtain ⟨i, hu, hi, hz, hsz, hb⟩ := hs.parts
  have hc1 := cells_one h1
  have hc2 := cells_one h2
  have hc3 := cells_one h3
  have hzz := hs.hz
  refine Do_of (w' := w.alloc (.cells #[v1, v2, v3] e)) ?_ (k _ ⟨rfl, .inr ⟨_, _, _, rfl, Nat.le_refl _, by simp, fun j x hx => ?_⟩⟩ ((Step.refl _ _).alloc _) (by simp))
  · have hr2 : (((Array.map (fun x => z.cells[x % z.cells.size]!) (Array.range 3)).setIfInBounds 0 v1).setIfInBounds 1 v2).setIfInBounds 2 v3 = #[v1, v2, v3] := by
      apply Array.ext' ; simp [Array.range]
    simp [Instr.buildSlice, run_underlying hu, Go.sizeOf, typeInfo, hi, hsz, zeroValue, hz, Instr.fill, hc1, hc2, hc3, newRow, newObj, hr2]
    rfl
  · rw [Nat.zero_add, World.cell?_alloc_at _ _ _ _ rfl]; simpa using hx

section
variable {w : World} {b d : Nat} {seg : Int} {q : Nat} {c3 c4 c5 c6 c7 c8 : Value} {S : Nat → Prop} {D : Dk} {K : Value → World → Prop}

theorem first_ok (hs : 0 ≤ seg ∧ seg ≤ 9000000000000000000) (hk : ∀ v w', Own w' v T_uint8 1 (B8 (firstB seg)) → Made w w' v → K v w') : Runs Tryz.prog F_wal_first #[.int .i64 seg] w K := by
  refine c_wal_first ?_
  unfold H_wal_first
  refine bs1N rfl fun w1 v1 s1 z1 => ?_
  have hb : Bytes w1 (.slice (some ⟨w.heap.size, 0, none⟩) 1 1) [76] := v1
  refine cvK (inU64 (by omega)) ?_
  have e : seg = ((seg.toNat : Nat) : Int) := by omega
  rw [e]
  (with_reducible refine cf ?_)
  refine Put_ok hb (by omega) (by simp) fun v w2 o2 t2 => ?_
  exact hk v w2 (by unfold firstB; simpa using o2) (Made.of_step s1 t2)
theorem firstB_len (seg : Int) (hs : 0 ≤ seg ∧ seg ≤ 9000000000000000000) : (firstB seg).length ≤ 11 := by
  have := enc_len10 (n := seg.toNat) (by omega)
  simp [firstB]; omega
theorem Rws.one {v : Value} {l : List UInt8} {X : Nat → Prop} {g : Nat} (hv : View w (.slice (some ⟨g, 0, none⟩) 1 1) 1 1 [v]) (h : Bytes w v l) (hg : ¬ X g) (hX : ∀ k, foot v k → ¬ X k) : Rws w (.slice (some ⟨g, 0, none⟩) 1 1) [l] X := by
  refine ⟨[v], hv, fun j x hj => ?_, fun k hk => ?_, fun u hu k hk => ?_⟩
  · cases j with
    | zero => simp at hj; subst hj; exact ⟨v, rfl, h⟩
    | succ j => simp at hj
  · simp [foot, Value.ownBlock] at hk; subst hk; exact hg
  · simp at hu; subst hu; exact hX k hk

theorem begin1_ok {tb : Nat} (hg : Glob w) (hb : TB w b d seg q c3 c4 c5 c6 c7 c8) (ht : Box w tb T_p_wal_tail #[.pointer (some ⟨b, 0, none⟩)]) (hs : 0 ≤ seg ∧ seg ≤ 9000000000000000000) (hq : q < 2 ^ 64) (hd : DAt w d D S) (hbS : ¬ S b) (hbl : glim ≤ b)
    (hk : ∀ w' S', DAt w' d (D.append (segName seg) (framesB q [firstB seg])).1 S' → TB w' b d seg ((q + 1) % 2 ^ 64) c3 c4 c5 c6 c7 c8 → Evo (fun k => S k ∨ k = b) w (fun k => S' k ∨ k = b) w' → ¬ S' b → K (.int .i64 (D.append (segName seg) (framesB q [firstB seg])).2) w') :
    Runs Tryz.prog F_wal_tail_begin_1 #[.pointer (some ⟨tb, 0, none⟩)] w K := by
  refine c_wal_tail_begin_1 ?_
  unfold H_wal_tail_begin_1
  have hSl := hd.lt
  have hbw := hb.lt
  have s0 := drew_step w
  generalize w.drew = w1 at s0 ⊢
  (replace hg := Go.Proofs.VvS.Glob.step hg s0 (fun _ x => x.elim); replace hb := Vv.Box.step hb s0 (fun x => x); replace ht := Vv.Box.step ht s0 (fun x => x); replace hd := Go.Proofs.VvS.DAt.step hd s0 (fun _ _ x => x))
  (with_reducible refine ldB ht (by (simp only [List.getElem?_toArray, List.getElem?_cons_succ, List.getElem?_cons_zero]; rfl)) ?_)
  (with_reducible refine ldB ht (by (simp only [List.getElem?_toArray, List.getElem?_cons_succ, List.getElem?_cons_zero]; rfl)) ?_)
  refine ⟨trivial, ?_⟩
  (with_reducible refine fld0 ?_)
  (with_reducible refine ldB hb (by (simp only [List.getElem?_toArray, List.getElem?_cons_succ, List.getElem?_cons_zero]; rfl)) ?_)
  (with_reducible refine cf ?_)
  refine first_ok hs fun fv w2 o2 t2 => ?_
  have s2 := t2.step
  have n2 := t2.new
  (replace hg := Go.Proofs.VvS.Glob.step hg s2 (fun _ x => x.elim); replace hb := Vv.Box.step hb s2 (fun x => x); replace ht := Vv.Box.step ht s2 (fun x => x); replace hd := Go.Proofs.VvS.DAt.step hd s2 (fun _ _ x => x))
  refine ⟨ldBs ht rfl, ?_⟩
  refine bs1N (by obtain ⟨a, n, c, rfl, _⟩ := o2.len; rfl) fun w3 v3 s3 z3 => ?_
  (replace o2 := Vv.Own.step o2 s3 (fun _ _ x => x); replace hg := Go.Proofs.VvS.Glob.step hg s3 (fun _ x => x.elim); replace hb := Vv.Box.step hb s3 (fun x => x); replace ht := Vv.Box.step ht s3 (fun x => x); replace hd := Go.Proofs.VvS.DAt.step hd s3 (fun _ _ x => x))
  refine ⟨ldBs ht rfl, ?_⟩
  have z0 := s0.size
  have z2 := s2.size
  have hfl := firstB_len seg hs
  (with_reducible refine cf ?_)
  refine wlay_ok (ls := [firstB seg]) hg hb ⟨by omega, by omega⟩ hq hd hbS hbl (Rws.one v3 o2.bytes (fun h => h.elim (fun h => by have := hSl _ h; omega) fun h => by omega) fun k hk h => h.elim (fun h => by have := hSl _ h; have := n2 k hk; omega) fun h => by have := n2 k hk; omega) (by simp) (by simp; omega) fun w4 S4 d4 b4 e4 n4 => ?_
  exact hk w4 S4 d4 b4 (Evo.none_then ((s0.then_none s2).then_none s3) e4) n4

set_option maxRecDepth 4000 in
theorem begin_ok (hg : Glob w) (hb : TB w b d seg q c3 c4 c5 c6 c7 c8) (hs : 0 ≤ seg ∧ seg ≤ 8000000000000000000) (hq : q < 2 ^ 64) (hd : DAt w d D S) (hbS : ¬ S b) (hbl : glim ≤ b)
    (hk : ∀ w' S' q', DAt w' d (Lg.begin' ⟨seg, q, [], 0, 0, 0, 0, 0⟩ D).2.1 S' → q' = (Lg.begin' ⟨seg, q, [], 0, 0, 0, 0, 0⟩ D).1.seq → TB w' b d (seg + 1) q' c3 c4 c5 c6 c7 c8 → Evo (fun k => S k ∨ k = b) w (fun k => S' k ∨ k = b) w' → ¬ S' b → K (.int .i64 (Lg.begin' ⟨seg, q, [], 0, 0, 0, 0, 0⟩ D).2.2) w') :
    Runs Tryz.prog F_wal_tail_begin #[.pointer (some ⟨b, 0, none⟩)] w K := by
  refine c_wal_tail_begin ?_
  unfold H_wal_tail_begin
  have hSl := hd.lt
  have hbw := hb.lt
  refine bx1 rfl fun w1 t1 s1 z1 => ?_
  (replace hg := Go.Proofs.VvS.Glob.step hg s1 (fun _ x => x.elim); replace hb := Vv.Box.step hb s1 (fun x => x); replace hd := Go.Proofs.VvS.DAt.step hd s1 (fun _ _ x => x))
  (with_reducible refine ldB t1 (by (simp only [List.getElem?_toArray, List.getElem?_cons_succ, List.getElem?_cons_zero]; rfl)) ?_)
  refine ⟨trivial, ?_⟩
  (with_reducible refine fld0 ?_)
  (with_reducible refine ldB hb (by (simp only [List.getElem?_toArray, List.getElem?_cons_succ, List.getElem?_cons_zero]; rfl)) ?_)
  (with_reducible refine b_add (by (first | (unfold I64; omega) | omega)) ?_)
  refine ⟨trivial, ?_⟩
  (with_reducible refine fld0 ?_)
  refine stB hb (by simp) rfl fun w2 b2 s2 => ?_
  replace b2 : TB w2 b d (seg + 1) q c3 c4 c5 c6 c7 c8 := b2
  have t2 := t1.step s2 (by omega)
  have d2 := hd.step s2 fun k hk e => hbS (e ▸ hk)
  have g2 := hg.step s2 fun k hk => by omega
  have s3 := drew_step w2
  generalize w2.drew = w3 at s3 ⊢
  (replace b2 := Vv.Box.step b2 s3 (fun x => x); replace t2 := Vv.Box.step t2 s3 (fun x => x); replace d2 := Go.Proofs.VvS.DAt.step d2 s3 (fun _ _ x => x); replace g2 := Go.Proofs.VvS.Glob.step g2 s3 (fun _ x => x.elim))
  (with_reducible refine ldB t2 (by (simp only [List.getElem?_toArray, List.getElem?_cons_succ, List.getElem?_cons_zero]; rfl)) ?_)
  (with_reducible refine ldB t2 (by (simp only [List.getElem?_toArray, List.getElem?_cons_succ, List.getElem?_cons_zero]; rfl)) ?_)
  refine ⟨trivial, ?_⟩
  (with_reducible refine fld0 ?_)
  (with_reducible refine ldB b2 (by (simp only [List.getElem?_toArray, List.getElem?_cons_succ, List.getElem?_cons_zero]; rfl)) ?_)
  refine bs3N rfl rfl rfl fun w4 v4 s4 z4 => ?_
  (replace b2 := Vv.Box.step b2 s4 (fun x => x); replace t2 := Vv.Box.step t2 s4 (fun x => x); replace d2 := Go.Proofs.VvS.DAt.step d2 s4 (fun _ _ x => x); replace g2 := Go.Proofs.VvS.Glob.step g2 s4 (fun _ x => x.elim))
  (with_reducible refine l_slice ?_)
  have z2 := s2.size
  have z3 := s3.size
  have e04 : Evo (fun k => S k ∨ k = b) w (fun k => S k ∨ k = b) w4 := (((Evo.of_none s1).then_in s2 fun i hi => .inr hi).then_none s3).then_none s4
  have hX : ∀ k, (S k ∨ k = b) → k < w.heap.size := fun k hk => hk.elim (hSl k) fun h => by omega
  -- what the three do
  obtain ⟨A, hA⟩ : ∃ A, A = D.append (segName (seg + 1)) (framesB q [firstB (seg + 1)]) := ⟨_, rfl⟩
  obtain ⟨B, hB⟩ : ∃ B, B = A.1.sync (segName (seg + 1)) := ⟨_, rfl⟩
  obtain ⟨C, hC⟩ : ∃ C, C = B.1.syncDir := ⟨_, rfl⟩
  have hbeg : Lg.begin' ⟨seg, q, [], 0, 0, 0, 0, 0⟩ D = (⟨seg + 1, (q + 1) % 2 ^ 64, [], 0, 0, 0, 0, 0⟩, if A.2 ≠ 0 then (A.1, A.2) else if B.2 ≠ 0 then (B.1, B.2) else (C.1, C.2)) := by
    unfold Lg.begin' Lg.lay
    simp only [List.length_singleton, ← hA, ← hB, ← hC]
    split
    · rfl
    · split <;> rfl
  rw [hbeg] at hk
  refine ⟨fun i wr => ∃ (S' : Nat → Prop) (D' : Dk) (q' j : Nat), i = .int .i64 j ∧ DAt wr d D' S' ∧ TB wr b d (seg + 1) q' c3 c4 c5 c6 c7 c8 ∧ Evo (fun k => S k ∨ k = b) w4 (fun k => S' k ∨ k = b) wr ∧ ¬ S' b ∧
      ((j = 0 ∧ D' = D ∧ q' = q) ∨ (j = 1 ∧ A.2 = 0 ∧ D' = A.1 ∧ q' = (q + 1) % 2 ^ 64) ∨ (j = 2 ∧ A.2 = 0 ∧ B.2 = 0 ∧ D' = B.1 ∧ q' = (q + 1) % 2 ^ 64) ∨ (j = 3 ∧ A.2 = 0 ∧ B.2 = 0 ∧ C.2 = 0 ∧ D' = C.1 ∧ q' = (q + 1) % 2 ^ 64)),
    fun i _ => match i with | .int _ m => 3 - m.toNat | _ => 0, ⟨S, D, q, 0, rfl, d2, b2, Evo.refl _ _, hbS, .inl ⟨rfl, rfl, rfl⟩⟩, ?_⟩
  rintro _ w5 ⟨S5, D5, q5, j, rfl, d5, b5, e5, n5, hst⟩
  have v5 : View w5 (.slice (some ⟨w3.heap.size, 0, none⟩) 3 3) 1 3 _ := View.step v4 e5.step fun k hk h => by
    simp [foot, Value.ownBlock] at hk
    have := hX k h
    omega
  have t5 := t2.step e5.step fun h => by have := hX _ h; omega
  have g5 := g2.step e5.step fun k hk => hk.elim (hd.lim k) fun h => by omega
  have z5 := e5.size
  have lim5 : ∀ k, S5 k → k < w5.heap.size := d5.lt
  have hE : Evo (fun k => S k ∨ k = b) w (fun k => S5 k ∨ k = b) w5 := e04.trans e5
  (with_reducible refine b_lss ?_)
  rcases hst with ⟨rfl, rfl, rfl⟩ | ⟨rfl, hA0, rfl, rfl⟩ | ⟨rfl, hA0, hB0, rfl, rfl⟩ | ⟨rfl, hA0, hB0, hC0, rfl, rfl⟩
  · refine cnd_t (by decide) ?_
    refine vidx v5 0 rfl (by decide) fun bb o c e hu => ?_
    refine ld (hu 0 _ rfl) ?_
    ((with_reducible refine cv ?_); simp only [List.append_toArray, List.nil_append, List.cons_append, List.append_nil])
    refine begin1_ok g5 b5 t5 ⟨by omega, by omega⟩ hq d5 n5 hbl fun w6 S6 d6 b6 e6 n6 => ?_
    rw [← hA] at d6 ⊢
    (with_reducible refine b_neq ?_)
    by_cases h0 : A.2 = 0
    · refine cnd_f (by omega) ?_
      (with_reducible refine b_add (by (first | (unfold I64; omega) | omega)) ?_)
      exact ⟨⟨S6, A.1, _, 1, by simp, d6, b6, e5.trans e6, n6, .inr (.inl ⟨rfl, h0, rfl, rfl⟩)⟩, by decide⟩
    · refine cnd_t (by omega) ?_
      have := hk w6 S6 ((q5 + 1) % 2 ^ 64)
      simp only [if_pos h0] at this
      exact this d6 trivial b6 (hE.trans e6) n6
  · refine cnd_t (by decide) ?_
    refine vidx v5 1 rfl (by decide) fun bb o c e hu => ?_
    refine ld (hu 0 _ rfl) ?_
    ((with_reducible refine cv ?_); simp only [List.append_toArray, List.nil_append, List.cons_append, List.append_nil])
    refine tsync_ok g5 b5 ⟨by omega, by omega⟩ d5 n5 fun w6 S6 d6 b6 e6 => ?_
    rw [← hB] at d6 ⊢
    have n6 : ¬ S6 b := fun h => (e6.grow b h).elim n5 fun h => by omega
    have e6' : Evo (fun k => S5 k ∨ k = b) w5 (fun k => S6 k ∨ k = b) w6 := ⟨e6.step.mono fun k hk => .inl hk, fun k hk => hk.elim (fun h => (e6.grow k h).imp_left .inl) fun h => .inl (.inr h)⟩
    (with_reducible refine b_neq ?_)
    by_cases h0 : B.2 = 0
    · refine cnd_f (by omega) ?_
      (with_reducible refine b_add (by (first | (unfold I64; omega) | omega)) ?_)
      exact ⟨⟨S6, B.1, _, 2, by simp, d6, b6, e5.trans e6', n6, .inr (.inr (.inl ⟨rfl, hA0, h0, rfl, rfl⟩))⟩, by decide⟩
    · refine cnd_t (by omega) ?_
      have := hk w6 S6 ((q + 1) % 2 ^ 64)
      simp only [if_neg (show ¬ A.2 ≠ 0 by omega), if_pos h0] at this
      exact this d6 trivial b6 (hE.trans e6') n6
  · refine cnd_t (by decide) ?_
    refine vidx v5 2 rfl (by decide) fun bb o c e hu => ?_
    refine ld (hu 0 _ rfl) ?_
    ((with_reducible refine cv ?_); simp only [List.append_toArray, List.nil_append, List.cons_append, List.append_nil])
    refine SyncDir_ok d5 fun w6 S6 d6 e6 => ?_
    rw [← hC] at d6 ⊢
    have n6 : ¬ S6 b := fun h => (e6.grow b h).elim n5 fun h => by omega
    have b6 := b5.step e6.step n5
    have e6' : Evo (fun k => S5 k ∨ k = b) w5 (fun k => S6 k ∨ k = b) w6 := ⟨e6.step.mono fun k hk => .inl hk, fun k hk => hk.elim (fun h => (e6.grow k h).imp_left .inl) fun h => .inl (.inr h)⟩
    (with_reducible refine b_neq ?_)
    by_cases h0 : C.2 = 0
    · refine cnd_f (by omega) ?_
      (with_reducible refine b_add (by (first | (unfold I64; omega) | omega)) ?_)
      exact ⟨⟨S6, C.1, _, 3, by simp, d6, b6, e5.trans e6', n6, .inr (.inr (.inr ⟨rfl, hA0, hB0, h0, rfl, rfl⟩))⟩, by decide⟩
    · refine cnd_t (by omega) ?_
      have := hk w6 S6 ((q + 1) % 2 ^ 64)
      simp only [if_neg (show ¬ A.2 ≠ 0 by omega), if_neg (show ¬ B.2 ≠ 0 by omega)] at this
      exact this d6 trivial b6 (hE.trans e6') n6
  · refine cnd_f (by decide) ?_
    have := hk w5 S5 ((q + 1) % 2 ^ 64)
    simp only [if_neg (show ¬ A.2 ≠ 0 by omega), if_neg (show ¬ B.2 ≠ 0 by omega), hC0] at this
    exact this d5 trivial b5 hE n5
end
end Go.Proofs.VvS

namespace Go.Proofs.VvS
open Go Go.Proofs Vv Go.RowKit

/-! ### rows of commits -/
def cmCells (cs : List Cm) (svs : List Value) : List Value := (cs.zip svs).flatMap fun p => [.int .i64 p.1.time, p.2]
structure CRows (base : Nat) (w : World) (v : Value) (cs : List Cm) (svs : List Value) : Prop where
  own : Own w v T_api_Commit 2 (cmCells cs svs)
  len : svs.length = cs.length
  row : ∀ (j : Nat) (c : Cm), cs[j]? = some c → ∃ u, svs[j]? = some u ∧ Own w u T_api_Write 3 (wrRow c.writes)
  new : ∀ k, foot v k → base ≤ k
  apart : ∀ u ∈ svs, ∀ k, foot u k → base ≤ k
  sep : svs.Pairwise fun a b => ∀ k, foot a k → ¬ foot b k
theorem CRows.nil (base : Nat) (w : World) : CRows base w (.slice none 0 0) [] [] :=
  ⟨Own.nil _ _ _, rfl, fun j c h => by simp at h, fun k hk => by simp [foot, Value.ownBlock] at hk, fun u h => by simp at h, List.Pairwise.nil⟩
theorem CRows.step {base : Nat} {w w' : World} {v : Value} {cs : List Cm} {svs : List Value} {S : Nat → Prop} (h : CRows base w v cs svs) (hs : Step S w w') (hn : ∀ k, S k → k < base) : CRows base w' v cs svs :=
  ⟨h.own.step hs fun k hk x => by have := h.new k hk; have := hn k x; omega, h.len, fun j c hj => (h.row j c hj).imp fun u hu => ⟨hu.1, hu.2.step hs fun k hk x => by have := h.apart u (List.mem_of_getElem? hu.1) k hk; have := hn k x; omega⟩, h.new, h.apart, h.sep⟩
theorem CRows.base {base base' : Nat} {w : World} {v : Value} {cs : List Cm} {svs : List Value} (h : CRows base w v cs svs) (hb : base' ≤ base) : CRows base' w v cs svs :=
  ⟨h.own, h.len, h.row, fun k hk => Nat.le_trans hb (h.new k hk), fun u hu k hk => Nat.le_trans hb (h.apart u hu k hk), h.sep⟩
theorem wrap_addn (n m : Nat) : IntKind.u64.wrap (((n : Nat) : Int) + ((m : Nat) : Int)) = (((n + m) % 2 ^ 64 : Nat) : Int) := by
  have e : ((n : Int) + (m : Int)) = ((n + m : Nat) : Int) := by omega
  rw [e, wrap_un rfl]
  rfl
theorem CRows.none {base : Nat} {w w' : World} {v : Value} {cs : List Cm} {svs : List Value} (h : CRows base w v cs svs) (hs : Step None' w w') : CRows base w' v cs svs := h.step hs fun _ x => x.elim
theorem cmCells_len {cs : List Cm} {svs : List Value} (h : svs.length = cs.length) : (cmCells cs svs).length = cs.length * 2 := by
  unfold cmCells
  rw [List.length_flatMap]
  simp [h, List.map_const']
theorem CRows.view {base : Nat} {w : World} {v : Value} {cs : List Cm} {svs : List Value} (h : CRows base w v cs svs) : View w v 2 cs.length (cmCells cs svs) := by
  obtain ⟨m, hm⟩ := h.own.view
  have := hm.1
  rw [cmCells_len h.len] at this
  have : m = cs.length := by omega
  subst this
  exact hm
theorem cmCells_snoc {cs : List Cm} {svs : List Value} (h : svs.length = cs.length) (c : Cm) (sv : Value) : cmCells (cs ++ [c]) (svs ++ [sv]) = cmCells cs svs ++ [.int .i64 c.time, sv] := by
  unfold cmCells
  rw [List.zip_append h.symm, List.flatMap_append]
  rfl
theorem cmCells_app {cs : List Cm} {svs : List Value} (h : svs.length = cs.length) (ds : List Cm) (tvs : List Value) : cmCells (cs ++ ds) (svs ++ tvs) = cmCells cs svs ++ cmCells ds tvs := by
  unfold cmCells
  rw [List.zip_append h.symm, List.flatMap_append]
theorem cmCells_one {cs : List Cm} {svs : List Value} (h : ∀ u ∈ svs, u.oneCell' = true) : ∀ u ∈ cmCells cs svs, u.oneCell' = true := by
  intro u hu
  unfold cmCells at hu
  obtain ⟨p, hp, hu⟩ := List.mem_flatMap.1 hu
  simp at hu
  rcases hu with rfl | rfl
  · rfl
  · exact h _ (List.of_mem_zip hp).2

theorem frames_len {l : List UInt8} : ∀ {k a q : Nat}, (frames l k a q).1.length * 32 + a ≤ l.length ∨ (frames l k a q).1 = [] := by
  intro k
  induction k with
  | zero => intro a q; right; rfl
  | succ k ih =>
    intro a q
    rw [frames]
    cases h : ftake l a with
    | none => right; rfl
    | some p =>
      obtain ⟨s, body, e⟩ := p
      simp only []
      split
      · left
        have hle := ftake_le h
        simp only [List.length_cons]
        rcases @ih e ((q + 1) % 2 ^ 64) with h1 | h1
        · omega
        · rw [h1]; simp; omega
      · right; rfl
theorem fall_len {l : List UInt8} {q : Nat} {bs : List (List UInt8)} {a : Nat} (h : fall l q = some (bs, a)) : bs.length * 32 ≤ l.length := by
  unfold fall at h
  simp only [] at h
  split at h
  · cases h
  · cases h
    rcases @frames_len l (l.length / 32 + 1) 0 q with h1 | h1
    · omega
    · rw [h1]; simp
theorem frames_body {l : List UInt8} : ∀ {k a q : Nat}, ∀ x ∈ (frames l k a q).1, x.length ≤ 65536 := by
  intro k
  induction k with
  | zero => intro a q x hx; simp [frames] at hx
  | succ k ih =>
    intro a q x hx
    rw [frames] at hx
    cases h : ftake l a with
    | none => rw [h] at hx; simp at hx
    | some p =>
      obtain ⟨s, body, e⟩ := p
      rw [h] at hx
      simp only [] at hx
      split at hx
      · simp at hx
        rcases hx with rfl | hx
        · exact (ftake_le h).2.2.2.2.2
        · exact ih x hx
      · simp at hx
theorem fall_body {l : List UInt8} {q : Nat} {bs : List (List UInt8)} {a : Nat} (h : fall l q = some (bs, a)) : ∀ x ∈ bs, x.length ≤ 65536 := by
  unfold fall at h
  simp only [] at h
  split at h
  · cases h
  · cases h
    exact frames_body

section
variable {w : World} {b d : Nat} {seg : Int} {q : Nat} {c3 c4 c5 c6 c7 c8 : Value} {K : Value → World → Prop}
set_option maxRecDepth 4000 in
set_option maxHeartbeats 1000000 in
theorem tread_ok {v : Value} {l : List UInt8} {known : Bool} (hb : TB w b d seg q c3 c4 c5 c6 c7 c8) (hv : Bytes w v l) (hvb : ¬ foot v b) (hl : l.length ≤ 262144) (hs : 0 ≤ seg ∧ seg ≤ 9000000000000000000) (hq : q < 2 ^ 64)
    (h1 : rdSeg seg q l known = none → ∀ w' q', TB w' b d seg q' c3 c4 c5 c6 c7 c8 → Step (fun k => k = b) w w' → K (.tuple #[.slice none 0 0, .int .i64 0, .int .i64 81]) w')
    (h2 : ∀ cs m q', rdSeg seg q l known = some (cs, m, q') → ∀ u svs w', TB w' b d seg q' c3 c4 c5 c6 c7 c8 → CRows w.heap.size w' u cs svs → Step (fun k => k = b) w w' → K (.tuple #[u, .int .i64 (m : Nat), .int .i64 0]) w') :
    Runs Tryz.prog F_wal_tail_read #[.pointer (some ⟨b, 0, none⟩), v, .bool known] w K := by
  refine c_wal_tail_read ?_
  unfold H_wal_tail_read
  have hbw := hb.lt
  (with_reducible refine cf ?_)
  refine fTake_ok (a := 0) hv (by omega) fun u0 w1 s1 _ => ?_
  have b1 := hb.step s1 fun x => x
  have v1 : Bytes w1 v l := View.step hv s1 fun _ _ x => x
  obtain ⟨s, e, u', whole, hft, hs64, hrd⟩ : ∃ (s e : Nat) (u' : Value) (whole : Bool), ftVal (ftake l 0) u0 = .tuple #[.int .u64 s, u', .int .i64 e, .bool whole] ∧ s < 2 ^ 64 ∧
      rdSeg seg q l known = if whole then (if known = true ∧ s ≠ q then none else rdSeg.go seg l s) else rdSeg.go seg l q := by
    unfold rdSeg
    cases hf : ftake l 0 with
    | none => exact ⟨0, 0, .slice none 0 0, false, rfl, by decide, rfl⟩
    | some p =>
      obtain ⟨s, body, e⟩ := p
      exact ⟨s, e, u0, true, rfl, (ftake_le hf).2.2.2.2.1, rfl⟩
  rw [hft]
  (with_reducible refine ext4_0 ?_); (with_reducible refine ext4_1 ?_); (with_reducible refine ext4_2 ?_); (with_reducible refine ext4_3 ?_)
  intro J hJ
  have Jt : rdSeg seg q l known = none → J (.bool true) w1 := fun hn => hJ _ _ (Cond_t (h1 hn w1 q b1 s1.of_none))
  have Jf : ¬ (whole = true ∧ known = true ∧ s ≠ q) → J (.bool false) w1 := fun hno => hJ _ _ (Cond_f (by
    intro J1 hJ1
    have fin : ∀ (w3 : World) (q2 : Nat), TB w3 b d seg q2 c3 c4 c5 c6 c7 c8 → Step (fun k => k = b) w w3 → q2 < 2 ^ 64 → rdSeg seg q l known = rdSeg.go seg l q2 → J1 w3 := by
      intro w3 q2 b3 s3 hq2 hgo
      have v3 : Bytes w3 v l := View.step hv s3 fun k hk e => hvb (e ▸ hk)
      rw [hgo] at h1 h2
      unfold rdSeg.go at h1 h2
      have z3 := s3.size
      refine hJ1 _ ⟨trivial, ?_⟩
      (with_reducible refine fld0 ?_)
      (with_reducible refine ldB b3 (by (simp only [List.getElem?_toArray, List.getElem?_cons_succ, List.getElem?_cons_zero]; rfl)) ?_)
      (with_reducible refine cf ?_)
      refine fAll_ok v3 (by omega) hq2 (fun hn w4 s4 => ?_) (fun bs a ha u w4 vs4 s4 o4 => ?_)
      · (with_reducible refine ext3_0 ?_); (with_reducible refine ext3_1 ?_); (with_reducible refine ext3_2 ?_); (with_reducible refine b_neq ?_)
        refine cnd_t (by decide) ?_
        rw [hn] at h1
        exact h1 rfl w4 q2 (b3.step s4 fun x => x) (s3.then_none s4)
      · rw [ha] at h1 h2
        simp only [Option.map_eq_none_iff] at h1
        have hbl := fall_len ha
        have hbb := fall_body ha
        have b4 := b3.step s4 fun x => x
        have s04 := s3.then_none s4
        (with_reducible refine ext3_0 ?_); (with_reducible refine ext3_1 ?_); (with_reducible refine ext3_2 ?_); (with_reducible refine b_neq ?_)
        refine cnd_f (by decide) ?_
        have rows4 := o4.rows
        obtain ⟨vs5, hv5, _⟩ := rows4
        refine l_view hv5 ?_
        -- the bodies are read
        refine ⟨fun x i wr => ∃ (j : Nat) (cs : List Cm) (svs : List Value), i = .int .i64 j ∧ j ≤ bs.length ∧ cs.length ≤ j ∧ CRows w4.heap.size wr x cs svs ∧ Step None' w4 wr ∧ ((j = 0 ∧ cs = []) ∨ (0 < j ∧ rdBods seg bs = (bods (bs.drop j)).map (cs ++ ·))),
          fun _ i _ => match i with | .int _ m => bs.length - m.toNat | _ => 0, ⟨0, [], [], rfl, by omega, by simp, CRows.nil _ _, Step.refl _ _, .inl ⟨rfl, rfl⟩⟩, ?_⟩
        rintro x _ w5 ⟨j, cs, svs, rfl, hj, hcl, hcr, s5, hst⟩
        have b5 := b4.step s5 fun x => x
        have s05 := s04.then_none s5
        have z5 := s05.size
        (with_reducible refine b_lss ?_)
        refine cnd (fun hlt => ?_) (fun hlt => ?_)
        · have hjl : j < bs.length := by omega
          obtain ⟨y, hy1, hy2⟩ := o4.row j bs[j] (List.getElem?_eq_getElem hjl)
          have hv6 := View.step hv5 s5 fun _ _ x => x
          have y5 := hy2.bytes
          have y5 : Bytes w5 y bs[j] := View.step y5 s5 fun _ _ x => x
          obtain ⟨vs6, hvv, hrow⟩ := (o4.step s5).rows
          obtain ⟨y', hy'1, hy'2⟩ := hrow j bs[j] (List.getElem?_eq_getElem hjl)
          refine vidx hvv j rfl hjl fun bb o c e hu => ?_
          refine ld (hu 0 y' (by simpa using hy'1)) ?_
          have hx64 := hbb _ (List.getElem_mem hjl)
          -- what is known of it
          have hcase0 : j = 0 → rdBods seg bs = if bs[j] = firstB seg then bods (bs.drop 1) else none := by
            intro e
            subst e
            cases bs with
            | nil => simp at hjl
            | cons a r => rfl
          intro J3 hJ3
          have K81 : ∀ w6, Step None' w5 w6 → rdBods seg bs = none → K (.tuple #[.slice none 0 0, .int .i64 0, .int .i64 81]) w6 := fun w6 s6 hn => h1 hn w6 q2 (b5.step s6 fun x => x) (s05.then_none s6)
          -- it goes on
          have go : ∀ w6, Step None' w5 w6 → (j = 0 → bs[j] = firstB seg) → J3 (.bool false) w6 := by
            intro w6 s6 h0
            refine hJ3 _ _ (Cond_f ?_)
            have hy6 : Bytes w6 y' bs[j] := View.step hy'2 s6 fun _ _ x => x
            have hcr6 := hcr.none s6
            intro J4 hJ4
            have J4t : (j = 0 ∨ (0 < j ∧ bs[j] = [])) → J4 (.bool true) w6 := by
              intro hc
              refine hJ4 _ _ (Cond_t ?_)
              (with_reducible refine b_add (by (first | (unfold I64; omega) | omega)) ?_)
              refine ⟨⟨j + 1, cs, svs, by simp, by omega, by omega, hcr6, s5.then_none s6, .inr ⟨by omega, ?_⟩⟩, by simp only []; omega⟩
              rcases hc with hc | ⟨hc, he⟩
              · rcases hst with ⟨_, rfl⟩ | ⟨hp, _⟩
                · rw [hcase0 hc, if_pos (h0 hc), hc]; simp
                · omega
              · rcases hst with ⟨hp, _⟩ | ⟨_, hr⟩
                · omega
                · rw [hr, List.drop_eq_getElem_cons hjl, he, bods]
            (with_reducible refine b_eql ?_)
            refine gt_f (fun hj0 => ?_) (fun hj0 => J4t (.inl (by omega)))
            refine l_view hy6 ?_
            (with_reducible refine b_eql ?_)
            by_cases he : bs[j] = []
            · rw [decide_eq_true (by rw [he]; rfl)]
              exact J4t (.inr ⟨by omega, he⟩)
            · rw [decide_eq_false (by have := List.length_pos_iff.2 he; omega)]
              refine hJ4 _ _ (Cond_f ?_)
              rcases hst with ⟨hp, _⟩ | ⟨hjp, hr⟩
              · omega
              rw [List.drop_eq_getElem_cons hjl] at hr
              obtain ⟨c0, r0, hcr0⟩ : ∃ c0 r0, bs[j] = c0 :: r0 := by
                cases hh : bs[j] with
                | nil => exact absurd hh he
                | cons a r => exact ⟨a, r, rfl⟩
              rw [hcr0, bods, ← hcr0] at hr
              (with_reducible refine cf ?_)
              refine Commit_ok hy6 (by omega) (fun a ha w7 s7 => ?_) (fun ha w7 s7 => ?_) (fun c hc sv w7 s7 ho hf => ?_)
              · (with_reducible refine ext3_0 ?_); (with_reducible refine ext3_1 ?_); (with_reducible refine ext3_2 ?_)
                refine alA fun w8 a8 s8 z8 => ?_
                refine stW a8 rfl rfl (by intro u hu; simp at hu; rcases hu with rfl | rfl <;> rfl) fun w9 a9 s9 => ?_
                (with_reducible refine b_neq ?_)
                refine cnd_t (by decide) ?_
                rw [ha] at hr
                exact K81 _ (((s6.then_none s7).then_none s8).then_new s9 fun i hi => by have := s6.size; have := s7.size; omega) hr
              · (with_reducible refine ext3_0 ?_); (with_reducible refine ext3_1 ?_); (with_reducible refine ext3_2 ?_)
                refine alA fun w8 a8 s8 z8 => ?_
                refine stW a8 rfl rfl (by intro u hu; simp at hu; rcases hu with rfl | rfl <;> rfl) fun w9 a9 s9 => ?_
                (with_reducible refine b_neq ?_)
                refine cnd_t (by decide) ?_
                rw [ha] at hr
                exact K81 _ (((s6.then_none s7).then_none s8).then_new s9 fun i hi => by have := s6.size; have := s7.size; omega) hr
              · have hsv1 := ho.shape1
                have z6 := s6.size
                have z7 := s7.size
                (with_reducible refine ext3_0 ?_); (with_reducible refine ext3_1 ?_); (with_reducible refine ext3_2 ?_)
                refine alA fun w8 a8 s8 z8 => ?_
                refine stW a8 rfl rfl (by intro u hu; simp at hu; rcases hu with rfl | rfl; rfl; exact hsv1) fun w9 a9 s9 => ?_
                (with_reducible refine b_neq ?_)
                refine cnd_f (by decide) ?_
                refine ldW a9 rfl ?_
                have s69 : Step None' w6 w9 := (s7.then_none s8).then_new s9 fun i hi => by omega
                have z9 := s69.size
                have ho9 := (ho.step s8 fun _ _ x => x).step s9 fun k hk e => by have := ho.lt k hk; omega
                refine bsS rfl (by show 0 < 2 ∧ 2 ≤ 1000; decide) ?_
                have v10 : View (w9.alloc (.cells #[.int .i64 c.time, sv] T_api_Commit)) (.slice (some ⟨w9.heap.size, 0, none⟩) 1 1) 2 1 [.int .i64 c.time, sv] := View.oneS w9 _ _
                have s10 : Step None' w9 (w9.alloc (.cells #[.int .i64 c.time, sv] T_api_Commit)) := (Step.refl _ _).alloc _
                have ec : (Value.agg #[.int .i64 c.time, sv]).cells = #[.int .i64 c.time, sv] := rfl
                rw [ec]
                generalize (w9.alloc (.cells #[.int .i64 c.time, sv] T_api_Commit)) = w10 at v10 s10 ⊢
                have hcr10 := (hcr6.none s69).none s10
                have ho10 := ho9.step s10 fun _ _ x => x
                have hlen := cmCells_len hcr.len
                refine app hcr10.own (ASrc.of_view v10) (by intro u hu; simp at hu; rcases hu with rfl | rfl; rfl; exact hsv1) (fun n hn => by rw [hlen] at hn; unfold maxLen; omega) fun x' w11 o11 t11 => ?_
                (with_reducible refine b_add (by (first | (unfold I64; omega) | omega)) ?_)
                have hxold : ∀ k, foot x k → k < w6.heap.size := hcr6.own.lt
                have ho11 := ho10.step t11.step fun k hk hk2 => by have := hf k hk; have := hxold k hk2; omega
                refine ⟨⟨j + 1, cs ++ [c], svs ++ [sv], by simp, by omega, by simp; omega, ⟨by rw [cmCells_snoc hcr.len]; exact o11, by simp [hcr.len], fun i ci hi => ?_, fun k hk => ?_, fun u hu k hk => ?_, ?_⟩, ((s5.then_none s6).then_none (s69.then_none s10)).then_new (S := foot x) t11.step fun i hi => ?_, .inr ⟨by omega, ?_⟩⟩, by simp only []; omega⟩
                · by_cases hil : i < cs.length
                  · rw [List.getElem?_append_left hil] at hi
                    obtain ⟨u, hu1, hu2⟩ := hcr10.row i ci hi
                    refine ⟨u, by rw [List.getElem?_append_left (by have := hcr.len; omega)]; exact hu1, hu2.step t11.step fun k hk hk2 => ?_⟩
                    have t1 := tag_own hu2 hk
                    have t2 := tag_own hcr10.own hk2
                    rw [t1] at t2
                    exact absurd t2 (by decide)
                  · have : i = cs.length := by
                      have := (List.getElem?_eq_some_iff.1 hi).1
                      simp at this; omega
                    subst this
                    simp at hi
                    subst hi
                    exact ⟨sv, by rw [← hcr.len]; simp, ho11⟩
                · rcases t11.grow k hk with h | h
                  · exact hcr.new k h
                  · have := s5.size; have := s10.size; omega
                · have := s5.size
                  rcases List.mem_append.1 hu with hu | hu
                  · exact hcr.apart u hu k hk
                  · simp at hu; subst hu; have := hf k hk; omega
                · rw [List.pairwise_append]
                  refine ⟨hcr.sep, List.pairwise_singleton _ _, fun u hu y hy k hk hk2 => ?_⟩
                  simp at hy
                  subst hy
                  obtain ⟨i, hi⟩ := List.getElem?_of_mem hu
                  have hil := (List.getElem?_eq_some_iff.1 hi).1
                  rw [hcr.len] at hil
                  obtain ⟨u', hu1, hu2⟩ := hcr.row i _ (List.getElem?_eq_getElem hil)
                  rw [hi] at hu1; cases hu1
                  have := hu2.lt k hk
                  have := hf k hk2
                  omega
                · exact hcr.new i hi
                · rw [hr, hc]
                  simp only [Option.map_map]
                  congr 1
                  funext z
                  simp
          (with_reducible refine b_eql ?_)
          refine gt_t (fun hj0 => ?_) (fun hj0 => ?_)
          · have hjz : j = 0 := by omega
            have s6 := drew_step w5
            generalize w5.drew = w6 at s6 ⊢
            have b6 := b5.step s6 fun x => x
            have hy6 : Bytes w6 y' bs[j] := View.step hy'2 s6 fun _ _ x => x
            refine cvStrR hy6 ?_
            refine ⟨trivial, ?_⟩
            (with_reducible refine fld0 ?_)
            (with_reducible refine ldB b6 (by (simp only [List.getElem?_toArray, List.getElem?_cons_succ, List.getElem?_cons_zero]; rfl)) ?_)
            (with_reducible refine cf ?_)
            refine first_ok hs fun fv w7 o7 t7 => ?_
            have hy7 : Bytes w7 y' bs[j] := View.step hy6 t7.step fun _ _ x => x
            refine ⟨by
              obtain ⟨x, hx, hK⟩ := cvStrR (P := Tryz.prog) (w := w7) (s := 39) (d := 9) (v := y') (K := fun x => x = Str bs[j]) hy7 rfl
              rw [← hK]; exact hx, ?_⟩
            refine cvStrR o7.bytes ?_
            refine s_neq ?_
            have s57 := s6.then_none t7.step
            by_cases hne : bs[j] = firstB seg
            · rw [decide_eq_false (fun h => h hne)]
              exact go w7 s57 fun _ => hne
            · rw [decide_eq_true hne]
              refine hJ3 _ _ (Cond_t (K81 w7 s57 ?_))
              rw [hcase0 hjz, if_neg hne]
          · have s6 := drew_step w5
            generalize w5.drew = w6 at s6 ⊢
            exact go w6 s6 fun h => by omega
        · have hjn : j = bs.length := by omega
          subst hjn
          refine ⟨trivial, ?_⟩
          (with_reducible refine fld0 ?_)
          (with_reducible refine ldB b5 (by (simp only [List.getElem?_toArray, List.getElem?_cons_succ, List.getElem?_cons_zero]; rfl)) ?_)
          refine l_view (View.step hv5 s5 fun _ _ x => x) ?_
          refine cvK (inU64 (by omega)) ?_
          refine b_addw ?_
          rw [wrap_addn]
          refine ⟨trivial, ?_⟩
          (with_reducible refine fld0 ?_)
          refine stB b5 (by simp) rfl fun w6 b6 s6 => ?_
          have hv6 := View.step (View.step hv5 s5 fun _ _ x => x) s6 fun k hk e => by have := o4.new k hk; have := s3.size; omega
          refine l_view hv6 ?_
          have hrb : rdBods seg bs = some cs := by
            rcases hst with ⟨h0, hc0⟩ | ⟨_, hr⟩
            · have : bs = [] := List.eq_nil_of_length_eq_zero h0
              subst this; subst hc0; rfl
            · rw [hr, List.drop_length]; simp [bods]
          simp only [hrb, Option.map_some] at h2
          refine h2 cs bs.length ((q2 + bs.length) % 2 ^ 64) rfl x svs w6 b6 ((hcr.step s6 fun k hk => ?_).base (by have := s04.size; omega)) (s05.trans s6 fun i hi => .inl hi)
          have := s04.size; omega
    cases whole with
    | true =>
      refine Cond_t ⟨trivial, ?_⟩
      (with_reducible refine fld0 ?_)
      refine stB b1 (by simp) rfl fun w3 b3 s3 => ?_
      refine fin w3 s b3 ((s1.of_none).trans s3 fun i hi => .inl hi) hs64 ?_
      rw [hrd, if_pos rfl, if_neg (fun h => hno ⟨rfl, h⟩)]
    | false =>
      refine Cond_f (fin w1 q b1 s1.of_none hq ?_)
      rw [hrd]; rfl))
  cases whole with
  | false => exact Gate_not rfl (Jf (by simp))
  | true =>
    refine Gate_is rfl ?_
    cases known with
    | false => exact Gate_not rfl (Jf (by simp))
    | true =>
      refine Gate_is rfl ⟨trivial, ?_⟩
      (with_reducible refine fld0 ?_)
      (with_reducible refine ldB b1 (by (simp only [List.getElem?_toArray, List.getElem?_cons_succ, List.getElem?_cons_zero]; rfl)) ?_)
      (with_reducible refine b_neq ?_)
      by_cases hsq : (s : Int) ≠ (q : Int)
      · rw [decide_eq_true hsq]
        exact Jt (by rw [hrd, if_pos rfl, if_pos ⟨rfl, by omega⟩])
      · rw [decide_eq_false hsq]
        exact Jf (fun h => h.2.2 (by omega))
end
end Go.Proofs.VvS
