/-
  WalNames: every input answers true. Part 2 of its proof: VvRules2 VvRules3 VvRules4 VvTac VvRules5 VvRules6 VvRules7 VvMap VvRules8 VvDk.
-/
import Derived.Test.YtolefmkgllngnaaGreatDoorV01
import Derived.Great.BuildSlice
import Derived.Maps.RangeRun
import Derived.Carry

/-
  MORE RULES: numbers, texts, rows.
-/
namespace Vv
open Go Go.RowKit
variable {P : Program} {w : World}

/-! ### tests -/
theorem cnd {p : Prop} [Decidable p] {A B : Prop} (h1 : p → A) (h2 : ¬ p → B) : Cond (.bool (decide p)) A B :=
  Cond_of (fun h => h1 (of_decide_eq_true h)) (fun h => h2 (of_decide_eq_false h))
theorem cnd_t {p : Prop} [Decidable p] {A B : Prop} (h : p) (k : A) : Cond (.bool (decide p)) A B := cnd (fun _ => k) (fun n => absurd h n)
theorem cnd_f {p : Prop} [Decidable p] {A B : Prop} (h : ¬ p) (k : B) : Cond (.bool (decide p)) A B := cnd (fun n => absurd n h) (fun _ => k)
theorem gt_t {p : Prop} [Decidable p] {A B : Prop} (h1 : p → A) (h2 : ¬ p → B) : Gate (.bool (decide p)) true A B :=
  Gate_of (fun h => h1 (of_decide_eq_true h)) (fun h => h2 (of_decide_eq_false h))
theorem gt_f {p : Prop} [Decidable p] {A B : Prop} (h1 : ¬ p → A) (h2 : p → B) : Gate (.bool (decide p)) false A B :=
  Gate_of (fun h => h1 (of_decide_eq_false h)) (fun h => h2 (of_decide_eq_true h))
theorem unot {b : Bool} {K : Value → Prop} (k : K (.bool (!b))) : Pu P (Op.unary .not (.bool b)) K := Pu_of (fun w => by simp [Op.unary, Sem.run]) k
theorem unotp {p : Prop} [Decidable p] {K : Value → Prop} (k : K (.bool (decide (¬ p)))) : Pu P (Op.unary .not (.bool (decide p))) K := unot (by rw [← decide_not]; exact k)

/-! ### whole numbers -/
section
variable {op : BinOp} {t : TypeId} {cx cy : Bool} {kd : IntKind} {a b : Int} {K : Value → Prop}
theorem b_eql (k : K (.bool (decide (a = b)))) : Bin P .eql t cx cy (.int kd a) (.int kd b) K :=
  Bin_of (fun w => by simp [eqGuard_at_int, binOp_eql, Sem.run_pure]; rfl) k
theorem b_neq (k : K (.bool (decide (a ≠ b)))) : Bin P .neq t cx cy (.int kd a) (.int kd b) K :=
  Bin_of (fun w => by simp [eqGuard_at_int, binOp_neq, Sem.run_pure, bne]; rfl) k
theorem b_lss (k : K (.bool (decide (a < b)))) : Bin P .lss t cx cy (.int kd a) (.int kd b) K := Bin_of (fun w => by simp [eqGuard_at_int, binOp_lss]) k
theorem b_leq (k : K (.bool (decide (a ≤ b)))) : Bin P .leq t cx cy (.int kd a) (.int kd b) K := Bin_of (fun w => by simp [eqGuard_at_int, binOp_leq]) k
theorem b_gtr (k : K (.bool (decide (b < a)))) : Bin P .gtr t cx cy (.int kd a) (.int kd b) K := Bin_of (fun w => by simp [eqGuard_at_int, binOp_gtr]) k
theorem b_geq (k : K (.bool (decide (b ≤ a)))) : Bin P .geq t cx cy (.int kd a) (.int kd b) K := Bin_of (fun w => by simp [eqGuard_at_int, binOp_geq]) k
theorem b_addw (k : K (.int kd (kd.wrap (a + b)))) : Bin P .add t cx cy (.int kd a) (.int kd b) K := Bin_of (fun w => by simp [eqGuard_at_int, binOp_add, Op.intArith]) k
theorem b_subw (k : K (.int kd (kd.wrap (a - b)))) : Bin P .sub t cx cy (.int kd a) (.int kd b) K := Bin_of (fun w => by simp [eqGuard_at_int, binOp_sub, Op.intArith]) k
theorem b_mulw (k : K (.int kd (kd.wrap (a * b)))) : Bin P .mul t cx cy (.int kd a) (.int kd b) K := Bin_of (fun w => by simp [eqGuard_at_int, binOp_mul, Op.intArith]) k
def I64 (n : Int) : Prop := -9223372036854775808 ≤ n ∧ n ≤ 9223372036854775807
theorem b_add (h : I64 (a + b)) (k : K (.int .i64 (a + b))) : Bin P .add t cx cy (.int .i64 a) (.int .i64 b) K := b_addw (by rw [IntWalk.i64_in _ h]; exact k)
theorem b_sub (h : I64 (a - b)) (k : K (.int .i64 (a - b))) : Bin P .sub t cx cy (.int .i64 a) (.int .i64 b) K := b_subw (by rw [IntWalk.i64_in _ h]; exact k)
theorem b_mul (h : I64 (a * b)) (k : K (.int .i64 (a * b))) : Bin P .mul t cx cy (.int .i64 a) (.int .i64 b) K := b_mulw (by rw [IntWalk.i64_in _ h]; exact k)
theorem b_quo (ha : 0 ≤ a) (ha' : a ≤ 9223372036854775807) (hb : 0 < b) (k : K (.int .i64 (a / b))) : Bin P .quo t cx cy (.int .i64 a) (.int .i64 b) K :=
  Bin_of (fun w => by
    have hb' : b ≠ 0 := by omega
    simp [eqGuard_at_int, binOp_quo, Op.intDiv, hb', IntWalk.i64_quo a b ⟨ha, ha', hb⟩]) k
theorem b_rem (ha : 0 ≤ a) (hb : 0 < b) (k : K (.int kd (a % b))) : Bin P .rem t cx cy (.int kd a) (.int kd b) K :=
  Bin_of (fun w => by
    have hb' : b ≠ 0 := by omega
    simp [eqGuard_at_int, binOp_rem, Op.intDiv, hb', IntWalk.rem_in a b ha]) k
end

/-! ### types that are known -/
class Und (P : Program) (t : TypeId) (d : outParam TypeDesc) : Prop where
  h : P.underlying t = some d

theorem eqIn_bool {t : TypeId} [ht : Und P t .bool] (d : Nat) (x y : Bool) (w : World) : (Op.equalIn (d + 1) t (.bool x) (.bool y)).run P w = .ok (x == y) w := by
  simp [Op.equalIn, run_underlying ht.h]
theorem eqIn_ptr {t e : TypeId} [ht : Und P t (.pointer e)] (d : Nat) (a : Option Addr) (w : World) : (Op.equalIn (d + 1) t (.pointer a) (.pointer none)).run P w = .ok a.isNone w := by
  cases a <;> simp [Op.equalIn, run_underlying ht.h]
theorem eqIn_sl {t e : TypeId} [ht : Und P t (.slice e)] (d : Nat) (a : Option Addr) (n c : Nat) (w : World) : (Op.equalIn (d + 1) t (.slice a n c) (.slice none 0 0)).run P w = .ok a.isNone w := by
  cases a <;> simp [Op.equalIn, run_underlying ht.h]
theorem eql_run {t : TypeId} {x y : Value} {b : Bool} {w : World} (hx : ∀ d, (Op.equalIn (d + 1) t x y).run P w = .ok b w) : (Op.equal t x y).run P w = .ok b w := hx 9999

section
variable {t : TypeId} {cx cy : Bool} {K : Value → Prop}
theorem b_bool_eql [ht : Und P t .bool] {x y : Bool} (k : K (.bool (x == y))) : Bin P .eql t cx cy (.bool x) (.bool y) K :=
  Bin_of (fun w => by simp only [eqGuard_at_bool, binOp, Sem.run_bind, Sem.run_pure, Result.andThen_ok, eql_run (fun d => eqIn_bool d x y w)]) k
theorem b_bool_neq [ht : Und P t .bool] {x y : Bool} (k : K (.bool (!(x == y)))) : Bin P .neq t cx cy (.bool x) (.bool y) K :=
  Bin_of (fun w => by simp only [eqGuard_at_bool, binOp, Sem.run_bind, Sem.run_pure, Result.andThen_ok, eql_run (fun d => eqIn_bool d x y w)]) k
theorem b_ptr_nil {e : TypeId} [ht : Und P t (.pointer e)] {a : Option Addr} (k : K (.bool a.isNone)) : Bin P .eql t cx cy (.pointer a) (.pointer none) K :=
  Bin_of (fun w => by simp only [eqGuard_at_pointer, binOp, Sem.run_bind, Sem.run_pure, Result.andThen_ok, eql_run (fun d => eqIn_ptr d a w)]) k
theorem b_ptr_nnil {e : TypeId} [ht : Und P t (.pointer e)] {a : Option Addr} (k : K (.bool (!a.isNone))) : Bin P .neq t cx cy (.pointer a) (.pointer none) K :=
  Bin_of (fun w => by simp only [eqGuard_at_pointer, binOp, Sem.run_bind, Sem.run_pure, Result.andThen_ok, eql_run (fun d => eqIn_ptr d a w)]) k
theorem b_sl_nil {e : TypeId} [ht : Und P t (.slice e)] {a : Option Addr} {n c : Nat} (k : K (.bool a.isNone)) : Bin P .eql t cx cy (.slice a n c) (.slice none 0 0) K :=
  Bin_of (fun w => by simp only [eqGuard_at_slice, binOp, Sem.run_bind, Sem.run_pure, Result.andThen_ok, eql_run (fun d => eqIn_sl d a n c w)]) k

theorem l_slice {e ty : TypeId} {cs : Array Bool} [ht : Und P t (.slice e)] {a : Option Addr} {n c : Nat} (k : K (.int .i64 n)) : BltR P .len #[t] ty cs #[.slice a n c] w K :=
  BltR_of (by simp [builtin, Builtin.len_, run_underlying ht.h, goInt]) k
theorem l_str {ty : TypeId} {cs : Array Bool} [ht : Und P t .string] {s : ByteArray} (k : K (.int .i64 s.size)) : BltR P .len #[t] ty cs #[.string s] w K :=
  BltR_of (by simp [builtin, Builtin.len_, run_underlying ht.h, goInt]) k
theorem l_map {ty kt et r : TypeId} {cs : Array Bool} [ht : Und P t (.map kt et)] {es : Array MapEntry} {clk : Nat} (hm : w.heap[r]? = some (.map es clk)) (k : K (.int .i64 es.size)) : BltR P .len #[t] ty cs #[.map (some r)] w K :=
  BltR_of (by simp [builtin, Builtin.len_, run_underlying ht.h, goInt, getObj, Sem.run, hm]) k
theorem cvI {s d : TypeId} {ds : TypeDesc} {kd k0 : IntKind} [hs : Und P s ds] [hd : Und P d (.int kd)] {n : Int} {K : Value → World → Prop} (k : K (.int kd (kd.wrap n)) w) : Do P (convert s d (.int k0 n)) w K :=
  Do_of (by simp [convert, run_underlying hs.h, run_underlying hd.h, Conv.intToInt]) k
theorem cvIR {s d : TypeId} {ds : TypeDesc} {kd k0 : IntKind} [hs : Und P s ds] [hd : Und P d (.int kd)] {n : Int} (k : K (.int kd (kd.wrap n))) : Rd P (convert s d (.int k0 n)) w K :=
  Rd_of (by simp [convert, run_underlying hs.h, run_underlying hd.h, Conv.intToInt]) k
theorem cvIS {s d : TypeId} {ds : TypeDesc} {kd k0 : IntKind} [hs : Und P s ds] [hd : Und P d (.int kd)] {n : Int} : (convert s d (.int k0 n)).run P w = .ok (.int kd (kd.wrap n)) w := by
  simp [convert, run_underlying hs.h, run_underlying hd.h, Conv.intToInt]

theorem ext2_0 {a b : Value} (k : K a) : Pu P (Instr.extract (.tuple #[a, b]) 0) K := Pu_of (fun _ => by simp [Instr.extract]) k
theorem ext2_1 {a b : Value} (k : K b) : Pu P (Instr.extract (.tuple #[a, b]) 1) K := Pu_of (fun _ => by simp [Instr.extract]) k
theorem ext3_0 {a b c : Value} (k : K a) : Pu P (Instr.extract (.tuple #[a, b, c]) 0) K := Pu_of (fun _ => by simp [Instr.extract]) k
theorem ext3_1 {a b c : Value} (k : K b) : Pu P (Instr.extract (.tuple #[a, b, c]) 1) K := Pu_of (fun _ => by simp [Instr.extract]) k
theorem ext3_2 {a b c : Value} (k : K c) : Pu P (Instr.extract (.tuple #[a, b, c]) 2) K := Pu_of (fun _ => by simp [Instr.extract]) k
theorem ext4_0 {a b c d : Value} (k : K a) : Pu P (Instr.extract (.tuple #[a, b, c, d]) 0) K := Pu_of (fun _ => by simp [Instr.extract]) k
theorem ext4_1 {a b c d : Value} (k : K b) : Pu P (Instr.extract (.tuple #[a, b, c, d]) 1) K := Pu_of (fun _ => by simp [Instr.extract]) k
theorem ext4_2 {a b c d : Value} (k : K c) : Pu P (Instr.extract (.tuple #[a, b, c, d]) 2) K := Pu_of (fun _ => by simp [Instr.extract]) k
theorem ext4_3 {a b c d : Value} (k : K d) : Pu P (Instr.extract (.tuple #[a, b, c, d]) 3) K := Pu_of (fun _ => by simp [Instr.extract]) k

/-! ### addresses -/
theorem fld {T f off ty b o : Nat} [hF : FieldAt P T f off ty] (k : K (.pointer (some ⟨b, o + off, none⟩))) : Pu P (Instr.fieldAt T (.pointer (some ⟨b, o, none⟩)) f) K := by
  have h := hF.h
  unfold fieldB at h
  split at h
  · rename_i fs hu
    split at h
    · rename_i fd hfd
      split at h
      · cases h
      · rename_i hz
        simp only [Option.some.injEq, Prod.mk.injEq] at h
        obtain ⟨rfl, rfl⟩ := h
        refine Pu_of (fun w => ?_) k
        have hsz : ∃ i, P.info? fd.type = some i ∧ i.size ≠ 0 := by
          unfold Program.cellsOf at hz
          cases hi : P.info? fd.type with
          | none => simp [hi] at hz
          | some i => exact ⟨i, rfl, by simpa [hi] using hz⟩
        obtain ⟨i, hi, hi0⟩ := hsz
        simp [Instr.fieldAt, run_underlying hu, hfd, Instr.sureAddr, fieldPlace, Go.sizeOf, typeInfo, hi, hi0, Addr.add_lit]
    · cases h
  · cases h
theorem fld0 {T f off ty b : Nat} [hF : FieldAt P T f off ty] (k : K (.pointer (some ⟨b, off, none⟩))) : Pu P (Instr.fieldAt T (.pointer (some ⟨b, 0, none⟩)) f) K := fld (by rw [Nat.zero_add]; exact k)
theorem SliceOf.parts {t e size bytes : Nat} {z : Value} (h : SliceOf P t e size bytes z) : ∃ i, P.underlying t = some (.slice e) ∧ P.info? e = some i ∧ i.zero = some z ∧ i.size = size ∧ i.bytes = bytes := by
  have h := h.h
  unfold sliceB at h
  split at h
  · rename_i e' hu
    split at h
    · rename_i i hi
      split at h
      · rename_i z' hz
        simp only [Option.some.injEq, Prod.mk.injEq] at h
        obtain ⟨rfl, rfl, rfl, rfl⟩ := h
        exact ⟨i, hu, hi, hz, rfl, rfl⟩
      · cases h
    · cases h
  · cases h
/-- the address of an element -/
theorem idx {e size bytes : Nat} {z : Value} [hs : SliceOf P t e size bytes z] {b o n c : Nat} {kd : IntKind} {x : Int} (i : Nat) (hx : x = i) (hi : i < n) (k : K (.pointer (some ⟨b, o + i * size, none⟩))) : Pu P (Instr.indexAt t (.slice (some ⟨b, o, none⟩) n c) (.int kd x)) K := by
  obtain ⟨inf, hu, hi1, _, hi2, _⟩ := hs.parts
  subst hx
  refine Pu_of (fun w => ?_) k
  have h1 : ((i : Int) < (n : Int)) := by omega
  simp [Instr.indexAt, asIntOf, run_underlying hu, Go.sizeOf, typeInfo, hi1, hi2, h1, Addr.add_lit]
  intro h; omega
end

/-! ### texts -/
abbrev Str (l : List UInt8) : Value := .string ⟨l.toArray⟩
section
variable {t : TypeId} {cx cy : Bool} {K : Value → Prop} {a b : List UInt8}
theorem s_eql (k : K (.bool (decide (a = b)))) : Bin P .eql t cx cy (Str a) (Str b) K :=
  Bin_of (fun w => by simp [eqGuard_at_string, binOp, Op.stringOp]; rw [Bool.eq_iff_iff]; simp) k
theorem s_neq (k : K (.bool (decide (a ≠ b)))) : Bin P .neq t cx cy (Str a) (Str b) K :=
  Bin_of (fun w => by simp [eqGuard_at_string, binOp, Op.stringOp]; rw [Bool.eq_iff_iff]; simp) k
theorem s_lss (k : K (.bool (Op.bytesLess a b))) : Bin P .lss t cx cy (Str a) (Str b) K :=
  Bin_of (fun w => by simp [eqGuard_at_string, binOp, Op.stringOp]) k
theorem s_geq (k : K (.bool (!Op.bytesLess a b))) : Bin P .geq t cx cy (Str a) (Str b) K :=
  Bin_of (fun w => by simp [eqGuard_at_string, binOp, Op.stringOp]) k
theorem s_add (h : a.length + b.length ≤ 9223372036854775807) (k : K (Str (a ++ b))) : Bin P .add t cx cy (Str a) (Str b) K :=
  Bin_of (fun w => by
    have h' : ¬ (9223372036854775807 < ((a.length : Int) + (b.length : Int))) := by omega
    have e : (ByteArray.mk a.toArray ++ ByteArray.mk b.toArray) = ByteArray.mk (a ++ b).toArray := by apply ByteArray.ext; simp
    simp [eqGuard_at_string, binOp, Op.stringOp, ByteArray.size, h', e]) k
end
end Vv

/-
  RULES: what makes memory, what appends.
-/
namespace Vv
open Go Go.RowKit
variable {P : Program} {w : World}

def zeroB (P : Program) (T : TypeId) : Option Value := (P.info? T).bind (·.zero)
class ZeroOf (P : Program) (T : TypeId) (z : outParam Value) : Prop where
  h : zeroB P T = some z
theorem ZeroOf.run {T : TypeId} {z : Value} (h : ZeroOf P T z) (w : World) : (zeroValue T).run P w = .ok z w := by
  have h := h.h
  unfold zeroB at h
  obtain ⟨i, hi, hz⟩ := Option.bind_eq_some_iff.1 h
  simp [zeroValue, typeInfo, hi, hz]

theorem bx {T : TypeId} {v : Value} {K : Value → World → Prop} (k : K (.pointer (some ⟨w.heap.size, 0, none⟩)) (w.alloc (.cells v.cells T))) : Do P (Instr.box T v) w K :=
  Do_of (by simp [Instr.box, newVar, newRow, newObj, Sem.run]) k
theorem al {T : TypeId} {z : Value} [hz : ZeroOf P T z] {K : Value → World → Prop} (k : K (.pointer (some ⟨w.heap.size, 0, none⟩)) (w.alloc (.cells z.cells T))) : Do P (Instr.alloc T true (.tuple #[])) w K :=
  Do_of (by simp [Instr.alloc, hz.run, newVar, newRow, newObj]; rfl) k
/-- a slice of one element of one cell -/
theorem bs1 {t e bytes : Nat} {z v : Value} [hs : SliceOf P t e 1 bytes z] {K : Value → World → Prop} (hv : v.oneCell' = true) (k : K (.slice (some ⟨w.heap.size, 0, none⟩) 1 1) (w.alloc (.cells #[v] e))) : Do P (Instr.buildSlice t 1 #[(0, v)]) w K := by
  obtain ⟨i, hu, hi, hz, hsz, hb⟩ := hs.parts
  have hc : v.cells = #[v] := by cases v <;> simp_all [Value.cells, Value.oneCell']
  have hzz := hs.hz
  refine Do_of ?_ k
  have hr : (Array.map (fun x => z.cells[x % z.cells.size]!) (Array.range 1)).size = 1 := by simp
  have hr2 : (Array.map (fun x => z.cells[x % z.cells.size]!) (Array.range 1)).setIfInBounds 0 v = #[v] := by
    apply Array.ext' ; simp [Array.range]
  simp [Instr.buildSlice, run_underlying hu, Go.sizeOf, typeInfo, hi, hsz, zeroValue, hz, Instr.fill, hc, newRow, newObj, hr2]
  rfl

end Vv

/-
  RULES: bits, shifts, conversions, rows of bytes.
-/
namespace Vv
open Go Go.RowKit
variable {P : Program} {w : World}

/-! ### bits -/
theorem wrap_un {k : IntKind} (hs : k.signed = false) {n : Nat} : k.wrap (n : Int) = ((n % 2 ^ k.bits : Nat) : Int) := by
  simp [IntKind.wrap, hs]
theorem bits_un (op : BinOp) {k : IntKind} (hs : k.signed = false) {x y : Int} (hx : 0 ≤ x) (hy : 0 ≤ y) (hx2 : x < 2 ^ k.bits) (hy2 : y < 2 ^ k.bits) :
    bits op k x y = match op with
      | .and => ((x.toNat &&& y.toNat : Nat) : Int) | .or => ((x.toNat ||| y.toNat : Nat) : Int) | .xor => ((x.toNat ^^^ y.toNat : Nat) : Int) | _ => bits op k x y := by
  obtain ⟨a, rfl⟩ := Int.eq_ofNat_of_zero_le hx
  obtain ⟨b, rfl⟩ := Int.eq_ofNat_of_zero_le hy
  have ha : a < 2 ^ k.bits := by exact_mod_cast hx2
  have hb : b < 2 ^ k.bits := by exact_mod_cast hy2
  cases op <;> first | rfl | skip
  · simp only [bits, BitVec.ofInt_natCast, BitVec.toNat_and, BitVec.toNat_ofNat, wrap_un hs, Int.toNat_natCast]
    rw [Nat.mod_eq_of_lt ha, Nat.mod_eq_of_lt hb, Nat.mod_eq_of_lt (Nat.and_lt_two_pow _ hb)]
  · simp only [bits, BitVec.ofInt_natCast, BitVec.toNat_or, BitVec.toNat_ofNat, wrap_un hs, Int.toNat_natCast]
    rw [Nat.mod_eq_of_lt ha, Nat.mod_eq_of_lt hb, Nat.mod_eq_of_lt (Nat.or_lt_two_pow ha hb)]
  · simp only [bits, BitVec.ofInt_natCast, BitVec.toNat_xor, BitVec.toNat_ofNat, wrap_un hs, Int.toNat_natCast]
    rw [Nat.mod_eq_of_lt ha, Nat.mod_eq_of_lt hb, Nat.mod_eq_of_lt (Nat.xor_lt_two_pow ha hb)]

section
variable {t : TypeId} {cx cy : Bool} {k : IntKind} {x y : Int} {K : Value → Prop}
def Un (k : IntKind) (x : Int) : Prop := k.signed = false ∧ 0 ≤ x ∧ x < 2 ^ k.bits
theorem un8 (h : 0 ≤ x ∧ x < 256) : Un .u8 x := ⟨rfl, h.1, by have := h.2; simpa [IntKind.bits] using this⟩
theorem un32 (h : 0 ≤ x ∧ x < 4294967296) : Un .u32 x := ⟨rfl, h.1, by have := h.2; simpa [IntKind.bits] using this⟩
theorem un64 (h : 0 ≤ x ∧ x < 18446744073709551616) : Un .u64 x := ⟨rfl, h.1, by have := h.2; simpa [IntKind.bits] using this⟩
theorem b_and (hx : Un k x) (hy : Un k y) (h : K (.int k ((x.toNat &&& y.toNat : Nat) : Int))) : Bin P .and t cx cy (.int k x) (.int k y) K :=
  Bin_of (fun w => by simp only [eqGuard_at_int, binOp_and, intBits_and, bits_un .and hx.1 hx.2.1 hy.2.1 hx.2.2 hy.2.2]; rfl) h
theorem b_or (hx : Un k x) (hy : Un k y) (h : K (.int k ((x.toNat ||| y.toNat : Nat) : Int))) : Bin P .or t cx cy (.int k x) (.int k y) K :=
  Bin_of (fun w => by simp only [eqGuard_at_int, binOp_or, intBits_or, bits_un .or hx.1 hx.2.1 hy.2.1 hx.2.2 hy.2.2]; rfl) h
theorem b_xor (hx : Un k x) (hy : Un k y) (h : K (.int k ((x.toNat ^^^ y.toNat : Nat) : Int))) : Bin P .xor t cx cy (.int k x) (.int k y) K :=
  Bin_of (fun w => by simp only [eqGuard_at_int, binOp_xor, intBits_xor, bits_un .xor hx.1 hx.2.1 hy.2.1 hx.2.2 hy.2.2]; rfl) h
theorem u_neg (h : K (.int k (k.wrap (-x)))) : Pu P (Op.unary .neg (.int k x)) K := Pu_of (fun w => by simp [Op.unary, Op.intArith]) h
theorem u_xor (hs : k.signed = false) (hx : Un k x) (h : K (.int k ((k.max.toNat ^^^ x.toNat : Nat) : Int))) : Pu P (Op.unary .xor (.int k x)) K :=
  Pu_of (fun w => by
    have hm : Un k k.max := by revert hs; cases k <;> simp [IntKind.signed, Un, IntKind.max, IntKind.bits]
    rw [unary_xor, hs, if_neg (by decide), intBits_xor, bits_un .xor hx.1 hm.2.1 hx.2.1 hm.2.2 hx.2.2]; rfl) h
theorem b_shr {yk : IntKind} (hy : 0 ≤ y ∧ y ≤ k.bits) (h : K (.int k (x / 2 ^ y.toNat))) : Bin P .shr t cx cy (.int k x) (.int yk y) K :=
  Bin_of (fun w => by
    have e : min y.toNat k.bits = y.toNat := by omega
    simp only [eqGuard_at_int, binOp_shr, shift_shr_any k yk x y hy.1, e]; rfl) h
theorem b_shl {yk : IntKind} (hy : 0 ≤ y ∧ y ≤ k.bits) (h : K (.int k (k.wrap (x * 2 ^ y.toNat)))) : Bin P .shl t cx cy (.int k x) (.int yk y) K :=
  Bin_of (fun w => by
    have e : min y.toNat k.bits = y.toNat := by omega
    simp only [eqGuard_at_int, binOp_shl, shift_shl_any k yk x y hy.1, e]; rfl) h
end

/-! ### conversions between whole numbers -/
section
variable {s d : TypeId} {ds : TypeDesc} {kd k0 : IntKind} {n : Int}
/-- what is in the range stays -/
def In (k : IntKind) (n : Int) : Prop := k.wrap n = n
theorem in64 (h : I64 n) : In .i64 n := IntWalk.i64_in n h
theorem inU64 (h : 0 ≤ n ∧ n ≤ 18446744073709551615) : In .u64 n := IntWalk.u64_in n h
theorem inU32 (h : 0 ≤ n ∧ n ≤ 4294967295) : In .u32 n := IntWalk.u32_in n h
theorem inU8 (h : 0 ≤ n ∧ n ≤ 255) : In .u8 n := IntWalk.u8_in n h
theorem cvK [hs : Und P s ds] [hd : Und P d (.int kd)] {K : Value → World → Prop} (h : In kd n) (k : K (.int kd n) w) : Do P (convert s d (.int k0 n)) w K := cvI (by rw [h]; exact k)
theorem cvKR [hs : Und P s ds] [hd : Und P d (.int kd)] {K : Value → Prop} (h : In kd n) (k : K (.int kd n)) : Rd P (convert s d (.int k0 n)) w K := cvIR (by rw [h]; exact k)
theorem cv8 [hs : Und P s ds] [hd : Und P d (.int .u8)] {m : Nat} {K : Value → World → Prop} (k : K (.int .u8 (UInt8.ofNat m).toNat) w) : Do P (convert s d (.int k0 (m : Nat))) w K :=
  cvI (by rw [wrap_un rfl]; simpa [IntKind.bits, UInt8.toNat_ofNat'] using k)
end

/-! ### rows of bytes -/
def B8 (l : List UInt8) : List Value := l.map fun b => .int .u8 b.toNat
@[simp] theorem B8_append (a b : List UInt8) : B8 (a ++ b) = B8 a ++ B8 b := by simp [B8]
@[simp] theorem B8_length (a : List UInt8) : (B8 a).length = a.length := by simp [B8]
theorem B8_one (l : List UInt8) : ∀ u ∈ B8 l, u.oneCell' = true := by
  intro u hu; simp [B8] at hu; obtain ⟨b, _, rfl⟩ := hu; rfl
theorem B8_get {l : List UInt8} {j : Nat} {u : Value} (h : (B8 l)[j]? = some u) : ∃ b, l[j]? = some b ∧ u = .int .u8 b.toNat := by
  simp [B8] at h
  obtain ⟨b, h1, h2⟩ := h
  exact ⟨b, h1, h2.symm⟩

/-- a slice that shows these bytes, in whatever block -/
abbrev Bytes (w : World) (v : Value) (l : List UInt8) : Prop := View w v 1 l.length (B8 l)
theorem Own.bytes {T : Nat} {v : Value} {l : List UInt8} (h : Own w v T 1 (B8 l)) : Bytes w v l := by
  obtain ⟨m, hm⟩ := h.view
  have := hm.1
  simp at this
  subst this
  exact hm

/-- the world goes on, the row too: only the row's block and new ones are turned -/
structure Turn (w : World) (v : Value) (w' : World) (v' : Value) : Prop where
  step : Step (foot v) w w'
  grow : ∀ k, foot v' k → foot v k ∨ w.heap.size ≤ k
theorem Turn.refl (w : World) (v : Value) : Turn w v w v := ⟨Step.refl _ _, fun _ h => .inl h⟩
theorem Turn.trans {a b c : World} {u v x : Value} (h : Turn a u b v) (k : Turn b v c x) : Turn a u c x :=
  ⟨h.step.trans k.step h.grow, fun i hi => (k.grow i hi).elim (h.grow i) fun h2 => .inr (Nat.le_trans h.step.size h2)⟩
theorem Turn.then_step {a b c : World} {u v : Value} (h : Turn a u b v) (k : Step None' b c) : Turn a u c v := ⟨h.step.then_none k, h.grow⟩
theorem Turn.of_step {a b c : World} {u v : Value} (h : Step None' a b) (k : Turn b u c v) : Turn a u c v :=
  ⟨(h.mono fun _ x => x.elim).trans k.step fun _ h => .inl h, fun i hi => (k.grow i hi).imp_right fun h2 => Nat.le_trans h.size h2⟩
theorem Turn.alloc {a b : World} {u v : Value} (h : Turn a u b v) (o : Obj) : Turn a u (b.alloc o) v := h.then_step ((Step.refl _ _).alloc o)

/-- no old block is turned; the row is nil or new -/
structure Made (w w' : World) (v : Value) : Prop where
  step : Step None' w w'
  new : ∀ k, foot v k → w.heap.size ≤ k
theorem Made.nil (w : World) : Made w w (.slice none 0 0) := ⟨Step.refl _ _, fun k h => by simp [None'] at h⟩
theorem Made.turn {a b c : World} {u v : Value} (h : Made a b u) (k : Turn b u c v) : Made a c v :=
  ⟨⟨k.step.os.trans h.step.os, k.step.tape.trans h.step.tape, k.step.output.trans h.step.output, Nat.le_trans h.step.size k.step.size, fun i hi hn =>
    (k.step.keep i (Nat.lt_of_lt_of_le hi h.step.size) fun hf => Nat.not_lt.2 (h.new i hf) hi).trans (h.step.keep i hi hn)⟩,
   fun i hi => (k.grow i hi).elim (h.new i) fun h2 => Nat.le_trans h.step.size h2⟩
theorem Made.then_step {a b c : World} {v : Value} (h : Made a b v) (k : Step None' b c) : Made a c v := ⟨h.step.then_none k, h.new⟩
theorem Made.of_step {a b c : World} {v : Value} (h : Step None' a b) (k : Made b c v) : Made a c v := ⟨h.then_none k.step, fun i hi => Nat.le_trans h.size (k.new i hi)⟩
theorem Made.alloc (w : World) (o : Obj) (off n c : Nat) : Made w (w.alloc o) (.slice (some ⟨w.heap.size, off, none⟩) n c) := ⟨(Step.refl _ _).alloc o, fun i hi => by simp [foot, Value.ownBlock] at hi; omega⟩

section
variable {t e : TypeId}
/-- what is appended, of whatever kind: m elements, whose cells are these -/
def ASrc (P : Program) (u : TypeId) (w : World) (x : Value) (size m : Nat) (news : List Value) : Prop :=
  news.length = m * size ∧ (∃ d, P.underlying u = some d ∧ (d = .string ∨ ∃ e', d = .slice e')) ∧ Builtin.lenOf x = pure m ∧ ∀ w1 : World, w1.heap = w.heap → (Builtin.firstCells size m x).run P w1 = .ok news.toArray w1
theorem ASrc.of_view {u : TypeId} {x : Value} {size m : Nat} {news : List Value} [hu : Und P u (.slice e)] (h : View w x size m news) : ASrc P u w x size m news := by
  obtain ⟨hl, h⟩ := h
  rcases h with ⟨rfl, rfl⟩ | ⟨b, o, c, rfl, _, _, h1⟩
  · have : news = [] := List.eq_nil_of_length_eq_zero (by simpa using hl)
    subst this
    exact ⟨hl, ⟨_, hu.h, .inr ⟨_, rfl⟩⟩, rfl, fun w1 he => run_firstCells_none ..⟩
  · refine ⟨hl, ⟨_, hu.h, .inr ⟨_, rfl⟩⟩, rfl, fun w1 he => ?_⟩
    refine run_firstCells_some (P := P) w1 size m _ m c news hl fun j v hv => ?_
    rw [Addr.add_lit, World.cell?_of_block (w := w) (by rw [he])]
    exact h1 j v hv
theorem ASrc.of_str {u : TypeId} {l : List UInt8} [hu : Und P u .string] : ASrc P u w (Str l) 1 l.length (B8 l) := by
  refine ⟨by simp, ⟨_, hu.h, .inl rfl⟩, by simp [Builtin.lenOf, Str, ByteArray.size], fun w1 _ => ?_⟩
  simp only [Builtin.firstCells, Str, Sem.run_pure, Result.ok.injEq, and_true]
  apply Array.ext'
  simp [B8, ByteArray.extract, ByteArray.copySlice, ByteArray.size]

theorem append_all {u ty : TypeId} {i : TypeInfo} {z : Value} {size bytes : Nat} (ht : P.underlying t = some (.slice e)) (hi : P.info? e = some i) (hz : i.zero = some z)
    (hsize : i.size = size) (hby : i.bytes = bytes) (hzs : z.cells.size = size) {v : Value} {xs : List Value} (hown : Own w v e size xs)
    {x : Value} {m : Nat} {news : List Value} (hx : ASrc P u w x size m news) (h1 : ∀ u ∈ news, u.oneCell' = true)
    (hlen : ∀ n, xs.length = n * size → n + m ≤ maxLen ∧ (n + m) * bytes ≤ 140737488355328) :
    ∃ v' w', (Builtin.append_ #[t, u] ty #[v, x]).run P w = .ok v' w' ∧ Own w' v' e size (xs ++ news) ∧ Turn w v w' v' := by
  subst hsize
  subst hby
  obtain ⟨hl, ⟨d, hu, hd⟩, hlo, hfc⟩ := hx
  have grown : ∀ (n old : Nat) (ys : List Value), ys.length = n * i.size → n + m ≤ maxLen →
      Own (w.drew.alloc (.cells (ys.toArray ++ news.toArray ++ Builtin.zeroCells z.cells (grownCap w (n + m) old e - (n + m))) e)) (.slice (some ⟨w.heap.size, 0, none⟩) (n + m) (grownCap w (n + m) old e)) e i.size (ys ++ news) := by
    intro n old ys hys h63
    have hge := grownCap_ge w (n + m) old e
    refine .inr ⟨w.heap.size, _, _, _, rfl, heap_alloc_new w.drew _, hge, grownCap_le_maxLen w (n + m) old e h63, ?_, ?_⟩
    · simp only [Array.size_append, List.size_toArray, size_zeroCells, hzs, hys, hl, ← Nat.add_mul]
      congr 1
      omega
    · simp only [Array.toList_append, List.append_assoc]
      rw [← List.append_assoc]
      have hlen : (n + m) * i.size = (ys ++ news).length := by rw [List.length_append, hys, hl, Nat.add_mul]
      rw [hlen]
      exact List.take_left
  have turnNew : ∀ (o : Obj) (n c : Nat), Turn w v (w.drew.alloc o) (.slice (some ⟨w.heap.size, 0, none⟩) n c) := fun o n c =>
    ⟨((Step.refl _ w).drew).alloc o, fun k hk => by simp [foot, Value.ownBlock] at hk; exact .inr (by omega)⟩
  rcases hown with ⟨rfl, rfl⟩ | ⟨g, n, cap, cur, rfl, hg, hnc, hcm, hcs, htake⟩
  · obtain ⟨h63, hb⟩ := hlen 0 (by simp)
    by_cases hm : m = 0
    · subst hm
      have hn : news = [] := List.eq_nil_of_length_eq_zero (by simpa using hl)
      subst hn
      refine ⟨.slice none 0 0, w, ?_, .inl ⟨rfl, rfl⟩, Turn.refl _ _⟩
      rcases hd with rfl | ⟨e', rfl⟩ <;> simp [Builtin.append_, run_underlying ht, run_underlying hu, Go.sizeOf, typeInfo, hi, hlo, hfc w rfl]
    · have h63' : ¬ (9223372036854775807 < (m : Int)) := by simp only [maxLen] at h63; omega
      have h48' : ¬ (281474976710656 < Builtin.nextslicecap m 0 * i.bytes) := by rw [nextslicecap_zero (by omega)]; simp only [Nat.zero_add] at hb; omega
      have hgr := grown 0 0 [] (by simp) h63
      simp only [Nat.zero_add, List.nil_append, Array.empty_append] at hgr ⊢
      refine ⟨_, _, ?_, hgr, turnNew _ _ _⟩
      rcases hd with rfl | ⟨e', rfl⟩ <;> simp [Builtin.append_, run_underlying ht, run_underlying hu, Go.sizeOf, typeInfo, zeroValue, hi, hz, hlo, hm, h63', h48', Question.forced, run_firstCells_none, hfc w.drew rfl, newRow, grownCap]
  · have hxl : xs.length = n * i.size := by rw [← htake, List.length_take, Array.length_toList, hcs, Nat.min_eq_left (Nat.mul_le_mul_right _ hnc)]
    obtain ⟨h63, hb⟩ := hlen n hxl
    by_cases hroom : n + m ≤ cap
    · have hfit : n * i.size + news.length ≤ cur.size := by rw [hl, hcs, ← Nat.add_mul]; exact Nat.mul_le_mul_right _ hroom
      have hst := run_storeCells_at P g (n * i.size) e news 0 cur w hg (by simpa using hfit) h1
      simp only [Nat.add_zero] at hst
      refine ⟨_, w.setRow g (cur.toList.take (n * i.size) ++ news ++ cur.toList.drop (n * i.size + news.length)).toArray, ?_, .inr ⟨g, n + m, cap, _, rfl, setRow_heap w g cur _ e _ hg, hroom, hcm, ?_, ?_⟩, ⟨⟨rfl, rfl, rfl, by simp [World.setRow], fun k _ hk => setRow_other w g k _ (fun e => hk (by simp [foot, Value.ownBlock, e]))⟩, fun k hk => .inl hk⟩⟩
      · rcases hd with rfl | ⟨e', rfl⟩ <;> simp [Builtin.append_, run_underlying ht, run_underlying hu, Go.sizeOf, typeInfo, hi, hlo, hroom, hfc w rfl, Addr.add_lit, hst]
      · simp only [List.size_toArray, List.length_append, List.length_take, List.length_drop, Array.length_toList]
        omega
      · rw [htake]
        have hlen : (n + m) * i.size = (xs ++ news).length := by rw [List.length_append, hxl, hl, Nat.add_mul]
        rw [hlen]
        exact List.take_left
    · have holds : ∀ j u, xs[j]? = some u → w.drew.cell? ((⟨g, 0, none⟩ : Addr).add j) = some u := by
        intro j u hu
        have hadd : (⟨g, 0, none⟩ : Addr).add j = ⟨g, j, none⟩ := by unfold Addr.add; split <;> simp_all
        rw [hadd, cell_of_row w.drew g j cur e (0, 0) hg]
        rw [← htake, List.getElem?_take] at hu
        split at hu
        · simpa using hu
        · cases hu
      have h63' : ¬ (9223372036854775807 < ((n : Int) + (m : Int))) := by simp only [maxLen] at h63; omega
      have h48' : ¬ (281474976710656 < Builtin.nextslicecap (n + m) cap * i.bytes) := Nat.not_lt.2 (growslice_fits (by omega) hb)
      have hfo := run_firstCells_some (P := P) w.drew i.size n ⟨g, 0, none⟩ n cap xs hxl holds
      refine ⟨_, _, ?_, grown n cap xs hxl h63, turnNew _ _ _⟩
      rcases hd with rfl | ⟨e', rfl⟩ <;> simp [Builtin.append_, run_underlying ht, run_underlying hu, Go.sizeOf, typeInfo, zeroValue, hi, hz, hlo, hroom, h63', h48', Question.forced, hfo, hfc w.drew rfl, newRow, grownCap]
      all_goals
        congr 2
        apply Array.ext'
        simp [List.append_assoc]

/-- append, onto a row that is owned -/
theorem app {u : TypeId} {sz bytes : Nat} {z : Value} [hs : SliceOf P t e sz bytes z] {v x : Value} {xs news : List Value} {m : Nat} {ty : TypeId} {cs : Array Bool} {K : Value → World → Prop}
    (hown : Own w v e sz xs) (hx : ASrc P u w x sz m news) (h1 : ∀ u ∈ news, u.oneCell' = true)
    (hl : ∀ n, xs.length = n * sz → n + m ≤ maxLen ∧ (n + m) * bytes ≤ 140737488355328)
    (hk : ∀ v' w', Own w' v' e sz (xs ++ news) → Turn w v w' v' → K v' w') :
    BltD P .append #[t, u] ty cs #[v, x] w K := by
  obtain ⟨i, hu, hi, hz, hsz, hb⟩ := hs.parts
  obtain ⟨v', w', hr, h2, h3⟩ := append_all (P := P) (ty := ty) hu hi hz hsz hb hs.hz hown hx h1 hl
  exact BltD_of (by simp [builtin, hr]) (hk _ _ h2 h3)
theorem app8 {u : TypeId} [hs : SliceOf P t e 1 1 (.int .u8 0)] {v x : Value} {l news : List UInt8} {ty : TypeId} {cs : Array Bool} {K : Value → World → Prop}
    (hown : Own w v e 1 (B8 l)) (hx : ASrc P u w x 1 news.length (B8 news)) (hl : l.length + news.length ≤ 1000000000)
    (hk : ∀ v' w', Own w' v' e 1 (B8 (l ++ news)) → Turn w v w' v' → K v' w') :
    BltD P .append #[t, u] ty cs #[v, x] w K :=
  app hown hx (B8_one _) (fun n hn => by simp at hn; unfold maxLen; omega) (by simpa using hk)
end

/-! ### rows that are empty; parts of rows; one element -/
/-- a slice of no elements -/
theorem bs0 {t e size bytes : Nat} {z : Value} [hs : SliceOf P t e size bytes z] {K : Value → World → Prop} (k : K (.slice (some ⟨w.heap.size, 0, none⟩) 0 0) (w.alloc (.cells #[] e))) : Do P (Instr.buildSlice t 0 #[]) w K := by
  obtain ⟨i, hu, hi, hz, hsz, hb⟩ := hs.parts
  refine Do_of ?_ k
  simp [Instr.buildSlice, run_underlying hu, Go.sizeOf, typeInfo, hi, hsz, Instr.fill, newRow, newObj]
  have e0 : Array.map (fun _ => (default : Value)) (Array.range 0) = #[] := by apply Array.ext'; simp [Array.range]
  rw [e0]
  rfl
theorem Own.empty (w : World) (e size : Nat) : Own (w.alloc (.cells #[] e)) (.slice (some ⟨w.heap.size, 0, none⟩) 0 0) e size [] :=
  .inr ⟨_, 0, 0, #[], rfl, heap_alloc_new w _, Nat.le_refl _, Nat.zero_le _, by simp, by simp⟩
theorem foot_new (w : World) (o n c : Nat) : ∀ k, foot (.slice (some ⟨w.heap.size, o, none⟩) n c) k → w.heap.size ≤ k := fun k hk => by
  simp [foot, Value.ownBlock] at hk; omega
/-- the cell of an element of a view -/
theorem vidx {t e size bytes : Nat} {z : Value} [hs : SliceOf P t e size bytes z] {v : Value} {m : Nat} {xs : List Value} {kd : IntKind} {x : Int} {K : Value → Prop} (h : View w v size m xs) (i : Nat) (hx : x = i) (hi : i < m)
    (k : ∀ b o c, v = .slice (some ⟨b, o, none⟩) m c → (∀ j u, xs[i * size + j]? = some u → w.cell? ⟨b, o + i * size + j, none⟩ = some u) → K (.pointer (some ⟨b, o + i * size, none⟩))) : Pu P (Instr.indexAt t v (.int kd x)) K := by
  rcases h.2 with ⟨rfl, rfl⟩ | ⟨b, o, c, rfl, _, _, h1⟩
  · omega
  · refine idx i hx hi (k b o c rfl fun j u hu => ?_)
    rw [Nat.add_assoc]
    exact h1 _ u hu
/-- a byte of a row: where it lies -/
theorem bidx {t : Nat} {e : Nat} [hs : SliceOf P t e 1 1 (.int .u8 0)] {v : Value} {l : List UInt8} {kd : IntKind} {x : Int} {K : Value → Prop} (h : Bytes w v l) (i : Nat) (hx : x = i) (hi : i < l.length)
    (k : ∀ p : Addr, foot v p.block → w.cell? p = some (.int .u8 (l[i]'hi).toNat) → K (.pointer (some p))) : Pu P (Instr.indexAt t v (.int kd x)) K :=
  vidx h i hx hi fun b o c e h1 => by
    subst e
    refine k _ rfl ?_
    have := h1 0 (.int .u8 (l[i]'hi).toNat) (by simp [B8, List.getElem?_eq_getElem hi])
    simpa using this
theorem l_view {t e ty size m : Nat} {xs : List Value} {cs : Array Bool} [ht : Und P t (.slice e)] {v : Value} {K : Value → Prop} (h : View w v size m xs) (k : K (.int .i64 m)) : BltR P .len #[t] ty cs #[v] w K := by
  obtain ⟨a, c, rfl, _⟩ := h.shape
  exact l_slice k
theorem run_l_view {t e ty size m : Nat} {xs : List Value} {cs : Array Bool} [ht : Und P t (.slice e)] {v : Value} (h : View w v size m xs) : (builtin .len #[t] ty cs #[v]).run P w = .ok (.value (.int .i64 m)) w := by
  obtain ⟨a, c, rfl, _⟩ := h.shape
  simp [builtin, Builtin.len_, run_underlying ht.h, goInt]
/-- a row of bytes is a text -/
theorem cvStr {s d e : TypeId} [hs : Und P s (.slice e)] [he : Und P e (.int .u8)] [hd : Und P d .string] {v : Value} {l : List UInt8} {K : Value → World → Prop} (h : Bytes w v l) (k : K (Str l) w) : Do P (convert s d v) w K := by
  refine Do_of ?_ k
  rcases h.2 with ⟨rfl, hm⟩ | ⟨b, o, c, rfl, _, _, h1⟩
  · have : l = [] := List.eq_nil_of_length_eq_zero hm
    subst this
    simp [convert, run_underlying hs.h, run_underlying hd.h, run_underlying he.h, Conv.bytesToString]
    rfl
  · refine run_convert_bytes_back w s d e _ c l hs.h he.h hd.h fun j hj => ?_
    rw [Addr.add_lit]
    exact h1 j _ (by simp [B8, List.getElem?_eq_getElem hj])
theorem cvStrR {s d e : TypeId} [hs : Und P s (.slice e)] [he : Und P e (.int .u8)] [hd : Und P d .string] {v : Value} {l : List UInt8} {K : Value → Prop} (h : Bytes w v l) (k : K (Str l)) : Rd P (convert s d v) w K :=
  let ⟨_, _, hr, k'⟩ := cvStr (P := P) (s := s) (d := d) (e := e) (K := fun v w' => w' = w ∧ K v) h ⟨rfl, k⟩
  ⟨_, by obtain ⟨rfl, _⟩ := k'; exact hr, k'.2⟩

end Vv

/-
  ONE STEP: 'vs' tries the rules that need nothing but types and 'omega'.
-/
namespace Vv
open Go Go.RowKit

end Vv

/-
  RULES: parts of rows.
-/
namespace Vv
open Go Go.RowKit
variable {P : Program} {w : World}

/-- what a bound says -/
def Low (low : Option Value) (lo : Nat) : Prop := (low = none ∧ lo = 0) ∨ ∃ kd, low = some (.int kd lo)
def High (high : Option Value) (hi m : Nat) : Prop := (high = none ∧ hi = m) ∨ ∃ kd, high = some (.int kd hi)
theorem low0 : Low none 0 := .inl ⟨rfl, rfl⟩
theorem lowI {kd : IntKind} {x : Int} {n : Nat} (h : x = n) : Low (some (.int kd x)) n := .inr ⟨kd, by rw [h]⟩
theorem high0 {m : Nat} : High none m m := .inl ⟨rfl, rfl⟩
theorem highI {kd : IntKind} {x : Int} {n m : Nat} (h : x = n) : High (some (.int kd x)) n m := .inr ⟨kd, by rw [h]⟩

theorem run_bound {kd : IntKind} {x y : Nat} {code : BoundsCode} (h : x ≤ y) (w : World) : (Instr.sliceBound (.int kd x) y code).run P w = .ok x w := by
  have h' : (0 : Int) ≤ (x : Int) ∧ (x : Int) ≤ (y : Int) := by omega
  simp only [Instr.sliceBound, asIntOf, Sem.run_bind, Sem.run_pure, Result.andThen_ok, if_pos h', Int.toNat_natCast]
theorem run_sliceBounds {low high : Option Value} {lo hi m c : Nat} (hl : Low low lo) (hh : High high hi m) (h1 : lo ≤ hi) (h2 : hi ≤ m) (h3 : m ≤ c) (w : World) : (Instr.sliceBounds true m c low high none).run P w = .ok (lo, hi, c) w := by
  have hc : hi ≤ c := by omega
  rcases hl with ⟨rfl, rfl⟩ | ⟨kd, rfl⟩ <;> rcases hh with ⟨rfl, rfl⟩ | ⟨kd', rfl⟩ <;> simp [Instr.sliceBounds, run_bound h1, run_bound hc]

theorem vslice {t e size bytes : Nat} {z : Value} [hs : SliceOf P t e size bytes z] {v : Value} {m : Nat} {xs : List Value} {low high : Option Value} {K : Value → Prop} (h : View w v size m xs) (lo hi : Nat)
    (hl : Low low lo) (hh : High high hi m) (h1 : lo ≤ hi) (h2 : hi ≤ m)
    (k : ∀ v', (∀ w', View w' v size m xs → View w' v' size (hi - lo) ((xs.take (hi * size)).drop (lo * size))) → (∀ i, foot v' i → foot v i) → K v') : Pu P (Instr.sliceAt t v low high none) K := by
  obtain ⟨i, hu, hi', hz, hsz, hb⟩ := hs.parts
  have hlen : ((xs.take (hi * size)).drop (lo * size)).length = (hi - lo) * size := by
    have e := h.1
    have e2 : hi * size ≤ m * size := Nat.mul_le_mul_right _ h2
    rw [List.length_drop, List.length_take, e, Nat.min_eq_left e2, Nat.sub_mul]
  rcases h.2 with ⟨rfl, rfl⟩ | ⟨b, o, c, rfl, hc, hlt, hu1⟩
  · have : hi = 0 := by omega
    subst this
    have : lo = 0 := by omega
    subst this
    refine Pu_of (v := .slice none 0 0) (fun w => ?_) (k _ (fun w' _ => ⟨hlen, .inl ⟨rfl, rfl⟩⟩) fun _ hf => hf)
    simp [Instr.sliceAt, Instr.slice, run_underlying hu, run_sliceBounds hl hh h1 h2 (Nat.le_refl _), Go.sizeOf, typeInfo, hi']
  · refine Pu_of (v := .slice (some (if c = lo then ⟨b, o, none⟩ else ⟨b, o + lo * size, none⟩)) (hi - lo) (c - lo)) (fun w => ?_) (k _ (fun w' hw => ⟨hlen, ?_⟩) fun j hf => ?_)
    · simp only [Instr.sliceAt, Instr.slice, run_underlying hu, run_sliceBounds hl hh h1 h2 hc, Go.sizeOf, typeInfo, hi', Sem.run_bind, Result.andThen_ok, Sem.run_pure, run_program, hsz]
      split
      · rfl
      · simp [Addr.add_lit]
    · by_cases hcl : c = lo
      · have e0 : hi = lo := by omega
        subst e0
        rw [if_pos hcl]
        refine .inr ⟨b, o, _, rfl, by omega, hw.lt b rfl, fun j u hj => ?_⟩
        have : j < ((xs.take (hi * size)).drop (hi * size)).length := (List.getElem?_eq_some_iff.1 hj).1
        rw [hlen] at this
        simp at this
      · rw [if_neg hcl]
        refine .inr ⟨b, _, _, rfl, by omega, hw.lt b rfl, fun j u hj => ?_⟩
        rcases hw.2 with ⟨e, _⟩ | ⟨b', o', c', e, _, _, hu2⟩
        · cases e
        · cases e
          rw [Nat.add_assoc]
          refine hu2 _ u ?_
          rw [List.getElem?_drop, List.getElem?_take] at hj
          split at hj
          · exact hj
          · cases hj
    · split at hf <;> exact hf

theorem B8_take (l : List UInt8) (n : Nat) : (B8 l).take n = B8 (l.take n) := by simp [B8]
theorem B8_drop (l : List UInt8) (n : Nat) : (B8 l).drop n = B8 (l.drop n) := by simp [B8]
theorem bslice {t e : Nat} [hs : SliceOf P t e 1 1 (.int .u8 0)] {v : Value} {l : List UInt8} {low high : Option Value} {K : Value → Prop} (h : Bytes w v l) (lo hi : Nat)
    (hl : Low low lo) (hh : High high hi l.length) (h1 : lo ≤ hi) (h2 : hi ≤ l.length)
    (k : ∀ v', (∀ w', Bytes w' v l → Bytes w' v' ((l.take hi).drop lo)) → (∀ i, foot v' i → foot v i) → K v') : Pu P (Instr.sliceAt t v low high none) K :=
  vslice h lo hi hl hh h1 h2 fun v' hv hf => k v' (fun w' hw => by
    have := hv w' hw
    rw [Nat.mul_one, Nat.mul_one, B8_take, B8_drop] at this
    have e : ((l.take hi).drop lo).length = hi - lo := by rw [List.length_drop, List.length_take, Nat.min_eq_left h2]
    rw [← e] at this
    exact this) hf

/-- the least and the greatest of two -/
theorem b_min {ty : TypeId} {ats : Array TypeId} {cs : Array Bool} {kd : IntKind} {a b : Int} {K : Value → Prop} (k : K (.int kd (if b < a then b else a))) : BltP P .min ats ty cs #[.int kd a, .int kd b] K :=
  BltP_of (fun w => by simp [builtin, Builtin.min_, Builtin.min2]) k
theorem b_max {ty : TypeId} {ats : Array TypeId} {cs : Array Bool} {kd : IntKind} {a b : Int} {K : Value → Prop} (k : K (.int kd (if a < b then b else a))) : BltP P .max ats ty cs #[.int kd a, .int kd b] K :=
  BltP_of (fun w => by simp [builtin, Builtin.max_, Builtin.max2]) k
end Vv

/-
  RULES: blocks of a known row (variables that are shared, structs).
-/
namespace Vv
open Go Go.RowKit
variable {P : Program} {w : World}

/-- a block of these cells -/
def Box (w : World) (b : Nat) (T : TypeId) (cs : Array Value) : Prop := w.heap[b]? = some (.cells cs T (0, 0))
theorem Box.lt {b : Nat} {T : TypeId} {cs : Array Value} (h : Box w b T cs) : b < w.heap.size := (Array.getElem?_eq_some_iff.1 h).1
theorem Box.cell {b o : Nat} {T : TypeId} {cs : Array Value} {v : Value} (h : Box w b T cs) (hv : cs[o]? = some v) : w.cell? ⟨b, o, none⟩ = some v := by
  rw [cell_of_row w b o cs T (0, 0) h]; exact hv
theorem Box.step {w' : World} {S : Nat → Prop} {b : Nat} {T : TypeId} {cs : Array Value} (h : Box w b T cs) (hs : Step S w w') (hn : ¬ S b) : Box w' b T cs := (hs.keep b h.lt hn).trans h
theorem Box.alloc {b : Nat} {T : TypeId} {cs : Array Value} (h : Box w b T cs) (o : Obj) : Box (w.alloc o) b T cs := h.step ((Step.refl None' w).alloc o) fun x => x
theorem Box.drew {b : Nat} {T : TypeId} {cs : Array Value} (h : Box w b T cs) : Box w.drew b T cs := h
theorem Box.new (w : World) (T : TypeId) (cs : Array Value) : Box (w.alloc (.cells cs T)) w.heap.size T cs := heap_alloc_new w _
theorem ldB {T T0 : TypeId} [hT : Plain P T] {b o : Nat} {cs : Array Value} {v : Value} {K : Value → Prop} (h : Box w b T0 cs) (hv : cs[o]? = some v) (k : K v) : Rd P (Instr.loadAt T (.pointer (some ⟨b, o, none⟩))) w K := ld (h.cell hv) k
theorem ldBs {T T0 : TypeId} [hT : Plain P T] {b o : Nat} {cs : Array Value} {v : Value} (h : Box w b T0 cs) (hv : cs[o]? = some v) : (Instr.loadAt T (.pointer (some ⟨b, o, none⟩))).run P w = .ok v w := ldStill (h.cell hv)
theorem stB {T T0 : TypeId} [hT : Plain P T] {b o : Nat} {cs : Array Value} {v : Value} {K : Unit → World → Prop} (h : Box w b T0 cs) (ho : o < cs.size) (h1 : v.oneCell' = true)
    (k : ∀ w', Box w' b T0 (cs.setIfInBounds o v) → Step (fun i => i = b) w w' → K () w') : Do P (Instr.storeAt T (.pointer (some ⟨b, o, none⟩)) v) w K := by
  refine st (h.cell (Array.getElem?_eq_getElem ho)) ?_ h1 (k _ ?_ ?_)
  · simp [World.frozen?, show w.heap[b]? = _ from h]
  · simp [Box, World.setCell, Array.getElem?_modify, show w.heap[b]? = _ from h]
  · exact ((Step.refl (fun i => i = b) w).setCell (p := ⟨b, o, none⟩) (.inl rfl) v)
theorem Turn.made_nil {w w' : World} {v' : Value} (h : Turn w (.slice none 0 0) w' v') : Made w w' v' :=
  ⟨⟨h.step.os, h.step.tape, h.step.output, h.step.size, fun k hk hn => h.step.keep k hk (by simp [None'])⟩, fun k hk => (h.grow k hk).elim (fun x => by simp [None'] at x) id⟩

theorem Own.shape1 {w : World} {v : Value} {T size : Nat} {xs : List Value} (h : Own w v T size xs) : v.oneCell' = true := by
  obtain ⟨a, n, c, rfl, _⟩ := h.len; rfl


theorem Step.then_new {S : Nat → Prop} {a b c : World} (h : Step None' a b) (k : Step S b c) (hs : ∀ i, S i → a.heap.size ≤ i) : Step None' a c := h.trans k fun i hi => .inr (hs i hi)
/-- a row of rows of bytes -/
def BRows (w : World) (v : Value) (ls : List (List UInt8)) : Prop := ∃ vs : List Value, View w v 1 ls.length vs ∧ ∀ (j : Nat) (l : List UInt8), ls[j]? = some l → ∃ u, vs[j]? = some u ∧ Bytes w u l
theorem View.oneCell {w : World} {v : Value} {size m : Nat} {xs : List Value} (h : View w v size m xs) : v.oneCell' = true := by
  obtain ⟨a, c, rfl, _⟩ := h.shape; rfl
theorem BRows.one {w : World} {u : Value} {l : List UInt8} (h : Bytes w u l) (T : Nat) : BRows (w.alloc (.cells #[u] T)) (.slice (some ⟨w.heap.size, 0, none⟩) 1 1) [l] :=
  ⟨[u], View.one _ _ _, fun j x hx => by
    cases j with
    | zero => simp at hx; subst hx; exact ⟨u, rfl, View.alloc h _⟩
    | succ j => simp at hx⟩
theorem BRows.two {w : World} {u v : Value} {l m : List UInt8} (h : Bytes w u l) (h2 : Bytes w v m) (T : Nat) : BRows (w.alloc (.cells #[u, v] T)) (.slice (some ⟨w.heap.size, 0, none⟩) 2 2) [l, m] :=
  ⟨[u, v], ⟨rfl, .inr ⟨_, _, _, rfl, Nat.le_refl _, by simp, fun j x hx => by
    rw [Nat.zero_add, World.cell?_alloc_at _ _ _ _ rfl]; simpa using hx⟩⟩, fun j x hx => by
    match j with
    | 0 => simp at hx; subst hx; exact ⟨u, rfl, View.alloc h _⟩
    | 1 => simp at hx; subst hx; exact ⟨v, rfl, View.alloc h2 _⟩
    | j + 2 => simp at hx⟩
/-- a slice of two elements of one cell -/
theorem bs2 {t e bytes : Nat} {z v v2 : Value} [hs : SliceOf P t e 1 bytes z] {K : Value → World → Prop} (hv : v.oneCell' = true) (hv2 : v2.oneCell' = true) (k : K (.slice (some ⟨w.heap.size, 0, none⟩) 2 2) (w.alloc (.cells #[v, v2] e))) : Do P (Instr.buildSlice t 2 #[(0, v), (1, v2)]) w K := by
  obtain ⟨i, hu, hi, hz, hsz, hb⟩ := hs.parts
  have hc : v.cells = #[v] := by cases v <;> simp_all [Value.cells, Value.oneCell']
  have hc2 : v2.cells = #[v2] := by cases v2 <;> simp_all [Value.cells, Value.oneCell']
  have hzz := hs.hz
  refine Do_of ?_ k
  have hr2 : ((Array.map (fun x => z.cells[x % z.cells.size]!) (Array.range 2)).setIfInBounds 0 v).setIfInBounds 1 v2 = #[v, v2] := by
    apply Array.ext' ; simp [Array.range]
  simp [Instr.buildSlice, run_underlying hu, Go.sizeOf, typeInfo, hi, hsz, zeroValue, hz, Instr.fill, hc, hc2, newRow, newObj, hr2]
  rfl
theorem Own.set8 {w : World} {v : Value} {T : Nat} {l : List UInt8} (h : Own w v T 1 (B8 l)) (i : Nat) (hi : i < l.length) {t : Nat} {e : Nat} [hs : SliceOf P t e 1 1 (.int .u8 0)] {kd : IntKind} {x : Int} (hx : x = i) {K : Value → Prop}
    (k : ∀ p : Addr, foot v p.block → (∀ (w' : World) (b : UInt8), Own w' v T 1 (B8 l) → (∃ v0, w'.cell? p = some v0) ∧ w'.frozen? p = false ∧ Own (w'.setCell p (.int .u8 b.toNat)) v T 1 (B8 (l.set i b))) → K (.pointer (some p))) :
    Pu P (Instr.indexAt t v (.int kd x)) K := by
  rcases h with ⟨rfl, e⟩ | ⟨g, n, cap, cur, rfl, hg, h1, h2, h3, h4⟩
  · have e2 := congrArg List.length e; rw [B8_length, List.length_nil] at e2; omega
  · have hn : n = l.length := by
      have := congrArg List.length h4
      simp [h3] at this
      omega
    refine idx i hx (by omega) (k _ rfl ?_)
    intro w' b hw
    rcases hw with ⟨e, _⟩ | ⟨g', n', cap', cur', e, hg', h1', h2', h3', h4'⟩
    · cases e
    · cases e
      have hlt : i < cur'.size := by omega
      refine ⟨⟨cur'[i], ?_⟩, ?_, .inr ⟨g, n, cap, cur'.setIfInBounds i (.int .u8 b.toNat), rfl, ?_, h1', h2', by simpa using h3', ?_⟩⟩
      · rw [cell_of_row w' g _ cur' T (0, 0) hg']; simp [hlt]
      · simp [World.frozen?, hg']
      · simp [World.setCell, Array.getElem?_modify, hg']
      · rw [Array.toList_setIfInBounds, List.take_set, h4']
        simp [B8, List.map_set]

end Vv

/-
  RULES: structs.
-/
namespace Vv
open Go Go.RowKit
variable {P : Program} {w : World}

theorem StructOf.parts {T n : Nat} (h : StructOf P T n) : ∃ fs i, P.underlying T = some (.struct fs) ∧ P.info? T = some i ∧ i.size = n := by
  have h := h.h
  unfold structB at h
  split at h
  · rename_i fs i h1 h2
    simp at h
    exact ⟨fs, i, h1, h2, h⟩
  · cases h
theorem run_loadS {T n : Nat} [hT : StructOf P T n] {b o : Nat} {xs : List Value} (hx : ∀ j v, xs[j]? = some v → w.cell? ⟨b, o + j, none⟩ = some v) (hn : xs.length = n) : (loadVar T ⟨b, o, none⟩).run P w = .ok (.agg xs.toArray) w := by
  obtain ⟨fs, i, h1, h2, h3⟩ := hT.parts
  have hl := run_loadCells_list (P := P) (w := w) ⟨b, o, none⟩ xs (fun j v hv => by rw [Addr.add_lit]; exact hx j v hv)
  rw [hn] at hl
  simp [loadVar, isAgg, run_underlying h1, Go.sizeOf, typeInfo, h2, h3, hl]
/-- a load of a struct -/
theorem ldS {T n : Nat} [hT : StructOf P T n] {b o : Nat} {K : Value → Prop} (xs : List Value) (hx : ∀ j v, xs[j]? = some v → w.cell? ⟨b, o + j, none⟩ = some v) (hn : xs.length = n) (k : K (.agg xs.toArray)) : Rd P (Instr.loadAt T (.pointer (some ⟨b, o, none⟩))) w K :=
  Rd_of (by simp [Instr.loadAt, Instr.sureAddr, run_loadS (P := P) hx hn]) k
theorem Box.cells {b : Nat} {T : TypeId} {cs : Array Value} (h : Box w b T cs) : ∀ j v, cs.toList[j]? = some v → w.cell? ⟨b, 0 + j, none⟩ = some v := fun j v hv => by
  rw [Nat.zero_add]; exact h.cell (by simpa using hv)
/-- a load of the whole block -/
theorem ldW {T T0 n : Nat} [hT : StructOf P T n] {b : Nat} {cs : Array Value} {K : Value → Prop} (h : Box w b T0 cs) (hn : cs.size = n) (k : K (.agg cs)) : Rd P (Instr.loadAt T (.pointer (some ⟨b, 0, none⟩))) w K :=
  ldS cs.toList h.cells (by simpa using hn) (by simpa using k)
theorem ldWs {T T0 n : Nat} [hT : StructOf P T n] {b : Nat} {cs : Array Value} (h : Box w b T0 cs) (hn : cs.size = n) : (Instr.loadAt T (.pointer (some ⟨b, 0, none⟩))).run P w = .ok (.agg cs) w := by
  have := run_loadS (P := P) (T := T) h.cells (by simpa using hn)
  simp [Instr.loadAt, Instr.sureAddr, this]
/-- a result that is a variable -/
theorem rvW {T T0 n : Nat} [hT : StructOf P T n] {b : Nat} {cs : Array Value} {K : Value → Prop} (h : Box w b T0 cs) (hn : cs.size = n) (k : K (.agg cs)) : Rd P (do loadVar T (← asAddr (.pointer (some ⟨b, 0, none⟩)))) w K :=
  Rd_of (by have := run_loadS (P := P) (T := T) h.cells (by simpa using hn); simp [asAddr, this]) k
theorem rvB {T T0 : Nat} [hT : Plain P T] {b o : Nat} {cs : Array Value} {v : Value} {K : Value → Prop} (h : Box w b T0 cs) (hv : cs[o]? = some v) (k : K v) : Rd P (do loadVar T (← asAddr (.pointer (some ⟨b, o, none⟩)))) w K :=
  Rd_of (by have := ldBs (P := P) (T := T) h hv; simpa [Instr.loadAt, Instr.sureAddr, asAddr] using this) k
/-- a store of a whole block -/
theorem stW {T T0 n : Nat} [hT : StructOf P T n] {b : Nat} {cs xs : Array Value} {K : Unit → World → Prop} (h : Box w b T0 cs) (hn : cs.size = n) (hx : xs.size = n) (h1 : ∀ u ∈ xs.toList, u.oneCell' = true)
    (k : ∀ w', Box w' b T0 xs → Step (fun i => i = b) w w' → K () w') : Do P (Instr.storeAt T (.pointer (some ⟨b, 0, none⟩)) (.agg xs)) w K := by
  obtain ⟨fs, i, h2, h3, h4⟩ := hT.parts
  have hst := run_storeCells_at P b 0 T0 xs.toList 0 cs w h (by simp [hx, hn]) h1
  have e : (List.take (0 + 0) cs.toList ++ xs.toList ++ List.drop (0 + 0 + xs.toList.length) cs.toList).toArray = xs := by
    apply Array.ext'
    simp
    omega
  rw [e] at hst
  refine Do_of (w' := w.setRow b xs) ?_ (k _ (setRow_heap w b cs _ T0 _ h) ⟨rfl, rfl, rfl, by simp [World.setRow], fun j _ hj => setRow_other w b j _ hj⟩)
  simp [Instr.storeAt, Instr.sureAddr, storeVar, Go.sizeOf, typeInfo, h3, h4, Value.cells, hx, hst]
/-- a struct is made -/
theorem bld {T : Nat} {parts : Array (Nat × Value)} {K : Value → Prop} (cells : Array Value) (h : P.built T parts.toList = some cells) (k : K (.agg cells)) : Pu P (Instr.build T parts) K :=
  Pu_of (fun w => run_build w T parts cells h) k
/-- a slice of one element of many cells -/
theorem bsS {t e size bytes : Nat} {z v : Value} [hs : SliceOf P t e size bytes z] {K : Value → World → Prop} (hv : v.cells.size = size) (hp : 0 < size ∧ size ≤ 1000)
    (k : K (.slice (some ⟨w.heap.size, 0, none⟩) 1 1) (w.alloc (.cells v.cells e))) : Do P (Instr.buildSlice t 1 #[(0, v)]) w K := by
  obtain ⟨i, hu, hi, hz, hsz, hb⟩ := hs.parts
  subst hsz
  refine Do_of (run_buildSlice w t e 1 _ v.cells i z hu hi hz (by omega) (by omega) ?_) k
  have h := Go.Great.fill_whole hp.1 [v] ((Array.range (1 * i.size)).map (z.cells[· % z.cells.size]!)) (by simpa using hv) (by simp)
  simpa using h
/-- what it shows -/
theorem View.oneS (w : World) (xs : Array Value) (T : Nat) : View (w.alloc (.cells xs T)) (.slice (some ⟨w.heap.size, 0, none⟩) 1 1) xs.size 1 xs.toList :=
  ⟨by simp, .inr ⟨_, _, _, rfl, Nat.le_refl _, by simp, fun j x hx => by
    rw [Nat.zero_add, World.cell?_alloc_at _ _ _ _ rfl]; simpa using hx⟩⟩
end Vv

/-
  RULES: maps by names; ranging over one.
-/
namespace Vv
open Go Go.RowKit
open Go.ChangeMaps (setBlock)
variable {P : Program} {w : World}

theorem eraseIdx_map' {α β : Type} (f : α → β) : ∀ (l : List α) (j : Nat), (l.eraseIdx j).map f = (l.map f).eraseIdx j
  | [], j => by simp
  | x :: r, 0 => by simp
  | x :: r, j + 1 => by simp [eraseIdx_map' f r j]
theorem cons_eraseIdx_perm {α : Type} : ∀ {l : List α} {j : Nat} {x : α}, l[j]? = some x → (x :: l.eraseIdx j).Perm l
  | [], j, x, h => by simp at h
  | y :: r, 0, x, h => by simp at h; subst h; simp
  | y :: r, j + 1, x, h => by
    simp at h
    rw [List.eraseIdx_cons_succ]
    exact (List.Perm.swap _ _ _).trans ((cons_eraseIdx_perm h).cons y)
abbrev Ents := List (List UInt8 × Value)
/-- no name stands twice -/
def Uniq {α : Type} (m : List (List UInt8 × α)) : Prop := (m.map (·.1)).Nodup
def nlook {α : Type} (m : List (List UInt8 × α)) (k : List UInt8) : Option α := (m.find? (fun p => p.1 == k)).map (·.2)
def drop' {α : Type} (m : List (List UInt8 × α)) (k : List UInt8) : List (List UInt8 × α) := m.filter fun p => !(p.1 == k)

theorem look_some {α : Type} {m : List (List UInt8 × α)} (hu : Uniq m) {k : List UInt8} {v : α} : nlook m k = some v ↔ (k, v) ∈ m := by
  induction m with
  | nil => simp [nlook]
  | cons p r ih =>
    have hu' : Uniq r := (List.nodup_cons.1 hu).2
    have hn : p.1 ∉ r.map (·.1) := (List.nodup_cons.1 hu).1
    unfold nlook at ih ⊢
    rw [List.find?_cons]
    cases hb : p.1 == k with
    | true =>
      have e : p.1 = k := by simpa using hb
      constructor
      · intro h; simp at h; subst h; subst e; simp
      · intro h
        rcases List.mem_cons.1 h with h | h
        · rw [← h]; simp
        · exact absurd (List.mem_map.2 ⟨_, h, e.symm⟩) hn
    | false =>
      have e : p.1 ≠ k := by simpa using hb
      simp only [ih hu']
      constructor
      · intro h; exact List.mem_cons_of_mem _ h
      · intro h
        rcases List.mem_cons.1 h with h | h
        · exact absurd (congrArg Prod.fst h).symm e
        · exact h
theorem look_none {α : Type} {m : List (List UInt8 × α)} {k : List UInt8} : nlook m k = none ↔ ∀ v, (k, v) ∉ m := by
  unfold nlook
  simp only [Option.map_eq_none_iff, List.find?_eq_none]
  constructor
  · intro h v hv; exact h _ hv (by simp)
  · intro h p hp e
    have e : p.1 = k := by simpa using e
    subst e
    exact h p.2 hp
theorem Uniq.perm {α : Type} {m m' : List (List UInt8 × α)} (h : Uniq m) (hp : m.Perm m') : Uniq m' := (hp.map _).nodup_iff.1 h
theorem look_perm {α : Type} {m m' : List (List UInt8 × α)} (h : Uniq m) (hp : m.Perm m') (k : List UInt8) : nlook m k = nlook m' k := by
  cases e : nlook m' k with
  | none => exact look_none.2 fun v hv => look_none.1 e v (hp.mem_iff.1 hv)
  | some v => exact (look_some h).2 (hp.mem_iff.2 ((look_some (h.perm hp)).1 e))
theorem Uniq.drop {α : Type} {m : List (List UInt8 × α)} (h : Uniq m) (k : List UInt8) : Uniq (drop' m k) := by
  unfold Uniq drop' at *
  exact h.sublist (List.filter_sublist.map _)
theorem Uniq.put {α : Type} {m : List (List UInt8 × α)} (h : Uniq m) (k : List UInt8) (v : α) : Uniq ((k, v) :: drop' m k) := by
  refine List.nodup_cons.2 ⟨?_, h.drop k⟩
  intro hm
  obtain ⟨p, hp, e⟩ := List.mem_map.1 hm
  simp [drop'] at hp
  exact hp.2 e

/-- what a map's entries are -/
def strs (m : Ents) : List (Value × Value) := m.map fun p => (Str p.1, p.2)
/-- a map's block that holds just these entries -/
def MBox (w : World) (b : Nat) (m : Ents) : Prop :=
  ∃ es clk, w.heap[b]? = some (.map es clk) ∧ (∃ l : Ents, es.toList.map (fun e => (e.key, e.val)) = strs l ∧ l.Perm m) ∧ Uniq m ∧ (es.toList.map (·.born)).Nodup ∧ ∀ e ∈ es.toList, e.born < clk

theorem MBox.lt {b : Nat} {m : Ents} (h : MBox w b m) : b < w.heap.size := by
  obtain ⟨es, clk, h, _⟩ := h
  exact (Array.getElem?_eq_some_iff.1 h).1
theorem MBox.blk {b : Nat} {m : Ents} (h : MBox w b m) : b < w.heap.size := h.lt
theorem MBox.step {w' : World} {S : Nat → Prop} {b : Nat} {m : Ents} (h : MBox w b m) (hs : Step S w w') (hn : ¬ S b) : MBox w' b m := by
  have hlt := h.lt
  obtain ⟨es, clk, h, r⟩ := h
  exact ⟨es, clk, (hs.keep b hlt hn).trans h, r⟩
theorem MBox.perm {b : Nat} {m m' : Ents} (h : MBox w b m) (hp : m.Perm m') : MBox w b m' := by
  obtain ⟨es, clk, h, ⟨l, h1, h2⟩, h3, h4⟩ := h
  exact ⟨es, clk, h, ⟨l, h1, h2.trans hp⟩, h3.perm hp, h4⟩
theorem MBox.uniq {b : Nat} {m : Ents} (h : MBox w b m) : Uniq m := by
  obtain ⟨es, clk, h, _, h3, h4⟩ := h; exact h3
theorem MBox.ne_box {b c : Nat} {m : Ents} {T : TypeId} {cs : Array Value} (h : MBox w b m) (h2 : Box w c T cs) : b ≠ c := by
  rintro rfl
  obtain ⟨es, clk, h, _⟩ := h
  rw [show w.heap[b]? = _ from h2] at h
  cases h
def mcount (w : World) (b : Nat) : Nat := match w.heap[b]? with
  | some (.map es _) => es.size
  | _ => 0
theorem MBox.count {b : Nat} {m : Ents} (h : MBox w b m) : mcount w b = m.length := by
  obtain ⟨es, clk, h, ⟨l, h2, h3⟩, _⟩ := h
  unfold mcount
  rw [h]
  have := congrArg List.length h2
  simp [strs] at this
  simp only []
  rw [this, h3.length_eq]
theorem MBox.drew {b : Nat} {m : Ents} (h : MBox w b m) : MBox w.drew b m := h

theorem findNow_strs (k : List UInt8) : ∀ (es : List MapEntry) (l : Ents) (i : Nat), es.map (fun e => (e.key, e.val)) = strs l →
    Instr.findNow .string (Str k) es i = some ((l.findIdx? (fun p => p.1 == k)).bind fun j => (l[j]?).map fun p => (i + j, p.2)) := by
  intro es
  induction es with
  | nil =>
    intro l i h
    cases l with
    | nil => rfl
    | cons p r => simp [strs] at h
  | cons e es ih =>
    intro l i h
    cases l with
    | nil => simp [strs] at h
    | cons p r =>
      simp only [strs, List.map_cons, List.cons.injEq, Prod.mk.injEq] at h
      obtain ⟨⟨h1, h2⟩, h3⟩ := h
      unfold Instr.findNow
      rw [h1, List.findIdx?_cons]
      have hs : Instr.sameNow .string (Str k) (Str p.1) = some (p.1 == k) := by
        simp only [Instr.sameNow]
        congr 1
        rw [Bool.eq_iff_iff]
        have e : ((ByteArray.mk k.toArray) == (ByteArray.mk p.1.toArray)) = (k.toArray == p.1.toArray) := rfl
        rw [e]
        simp
        exact eq_comm
      rw [hs]
      cases hb : p.1 == k with
      | true => simp [h2]
      | false =>
        simp only [Bool.false_eq_true, if_false]
        rw [ih r (i + 1) h3]
        congr 1
        cases r.findIdx? (fun p => p.1 == k) with
        | none => rfl
        | some j => simp only [Option.bind_some, Option.map_some, List.getElem?_cons_succ]; congr 1; funext x; congr 1; omega
theorem findKey_strs {kt : TypeId} [hk : Und P kt .string] (k : List UInt8) (es : List MapEntry) (l : Ents) (h : es.map (fun e => (e.key, e.val)) = strs l) (w : World) :
    (Instr.findKey kt (Str k) es).run P w = .ok ((l.findIdx? (fun p => p.1 == k)).bind fun j => (l[j]?).map fun p => (j, p.2)) w := by
  simp [Instr.findKey, run_underlying hk.h, findNow_strs k es l 0 h]
theorem run_checkKey_str {kt : TypeId} [hk : Und P kt .string] (em : Bool) (n : Nat) (k : List UInt8) (w : World) : (Instr.checkKey em (n + 1) kt (Str k)).run P w = .ok () w := by
  simp [Instr.checkKey, run_underlying hk.h]

theorem idx_look {l : Ents} {k : List UInt8} : ((l.findIdx? (fun p => p.1 == k)).bind fun j => (l[j]?).map fun p => p.2) = nlook l k := by
  unfold nlook
  induction l with
  | nil => rfl
  | cons p r ih =>
    rw [List.findIdx?_cons, List.find?_cons]
    cases hb : p.1 == k with
    | true => simp
    | false =>
      simp only [Bool.false_eq_true, if_false]
      rw [← ih]
      cases r.findIdx? (fun p => p.1 == k) with
      | none => rfl
      | some j => simp
theorem idx_none {l : Ents} {k : List UInt8} (h : nlook l k = none) : l.findIdx? (fun p => p.1 == k) = none := by
  rw [List.findIdx?_eq_none_iff]
  intro p hp
  cases hb : p.1 == k with
  | false => rfl
  | true =>
    have e : p.1 = k := by simpa using hb
    subst e
    exact absurd hp (look_none.1 h p.2)
theorem idx_some {l : Ents} {k : List UInt8} {v : Value} (h : nlook l k = some v) : ∃ j, l.findIdx? (fun p => p.1 == k) = some j ∧ l[j]? = some (k, v) := by
  rw [← idx_look] at h
  obtain ⟨j, h1, h2⟩ := Option.bind_eq_some_iff.1 h
  obtain ⟨p, h3, h4⟩ := Option.map_eq_some_iff.1 h2
  refine ⟨j, h1, ?_⟩
  have := (List.findIdx?_eq_some_iff_getElem.1 h1)
  obtain ⟨hj, h5, _⟩ := this
  rw [List.getElem?_eq_getElem hj] at h3 ⊢
  cases h3
  simp at h5
  rw [← h5, ← h4]

section
variable {t kt et : TypeId} [ht : Und P t (.map kt et)] [hk : Und P kt .string]
include ht hk

/-- 'm[k]' -/
theorem mlook {z : Value} [hz : ZeroOf P et z] {b : Nat} {m : Ents} {k : List UInt8} {K : Value → Prop} (h : MBox w b m) (c : K ((nlook m k).getD z)) : Rd P (Instr.lookup t (.map (some b)) (Str k) false) w K := by
  obtain ⟨es, clk, h1, ⟨l, h2, h3⟩, h4, h5⟩ := h
  refine Rd_of ?_ c
  rw [← look_perm (h4.perm h3.symm) h3]
  simp only [Instr.lookup, Sem.run_bind, run_underlying ht.h, Result.andThen_ok, getObj, Sem.run, h1, Sem.run_pure, run_checkKey_str, findKey_strs k es.toList l h2, ← idx_look]
  cases l.findIdx? (fun p => p.1 == k) with
  | none => simp [hz.run]
  | some j =>
    simp only [Option.bind_some]
    cases l[j]? with
    | none => simp [hz.run]
    | some p => simp
theorem mlooks {z : Value} [hz : ZeroOf P et z] {b : Nat} {m : Ents} {k : List UInt8} (h : MBox w b m) : (Instr.lookup t (.map (some b)) (Str k) false).run P w = .ok ((nlook m k).getD z) w := by
  obtain ⟨v, h1, h2⟩ := mlook (P := P) (t := t) (kt := kt) (et := et) (k := k) (K := fun v => v = (nlook m k).getD z) h rfl
  rw [← h2]; exact h1
/-- 'v, ok := m[k]' -/
theorem mlook2 {z : Value} [hz : ZeroOf P et z] {b : Nat} {m : Ents} {k : List UInt8} {K : Value → Prop} (h : MBox w b m) (c : K (.tuple #[(nlook m k).getD z, .bool (nlook m k).isSome])) : Rd P (Instr.lookup t (.map (some b)) (Str k) true) w K := by
  obtain ⟨es, clk, h1, ⟨l, h2, h3⟩, h4, h5⟩ := h
  refine Rd_of ?_ c
  rw [← look_perm (h4.perm h3.symm) h3]
  simp only [Instr.lookup, Sem.run_bind, run_underlying ht.h, Result.andThen_ok, getObj, Sem.run, h1, Sem.run_pure, run_checkKey_str, findKey_strs k es.toList l h2, ← idx_look]
  cases l.findIdx? (fun p => p.1 == k) with
  | none => simp [hz.run]
  | some j =>
    simp only [Option.bind_some]
    cases l[j]? with
    | none => simp [hz.run]
    | some p => simp

omit ht hk in
theorem setBlock_step {b : Nat} (o : Obj) : Step (fun i => i = b) w (setBlock w b o) :=
  ⟨rfl, rfl, rfl, by simp [setBlock], fun k _ hk => by simp only [setBlock]; exact Array.getElem?_setIfInBounds_ne (fun e => hk e.symm)⟩
omit ht hk in
theorem run_setObj_map {b : Nat} {es : Array MapEntry} {clk : Nat} (h : w.heap[b]? = some (.map es clk)) (es' : Array MapEntry) (clk' : Nat) : (setObj b (.map es' clk')).run P w = .ok () (setBlock w b (.map es' clk')) := by
  simp [setObj, Sem.run, h, setBlock]
omit ht hk in
theorem setBlock_get {b : Nat} {o0 : Obj} (h : w.heap[b]? = some o0) (o : Obj) : (setBlock w b o).heap[b]? = some o := by
  simp only [setBlock]
  rw [Array.getElem?_setIfInBounds_self_of_lt (Array.getElem?_eq_some_iff.1 h).1]

omit ht hk in
theorem drop_eq {l : Ents} {k : List UInt8} (h : nlook l k = none) : drop' l k = l := by
  unfold drop'
  rw [List.filter_eq_self]
  intro p hp
  simp
  rintro rfl
  exact look_none.1 h p.2 hp
omit ht hk in
theorem perm_erase {l : Ents} (hu : Uniq l) {k : List UInt8} {v : Value} {j : Nat} (h : l[j]? = some (k, v)) : l.eraseIdx j = drop' l k := by
  induction l generalizing j with
  | nil => simp at h
  | cons p r ih =>
    have hu' : Uniq r := (List.nodup_cons.1 hu).2
    have hn : p.1 ∉ r.map (·.1) := (List.nodup_cons.1 hu).1
    cases j with
    | zero =>
      simp at h
      subst h
      have : nlook r k = none := look_none.2 fun v hv => hn (List.mem_map.2 ⟨_, hv, rfl⟩)
      simp only [List.eraseIdx_zero, List.tail_cons]
      have e := drop_eq this
      unfold drop' at e ⊢
      rw [List.filter_cons_of_neg (by simp)]
      exact e.symm
    | succ j =>
      simp at h
      have hne : p.1 ≠ k := fun e => hn (List.mem_map.2 ⟨_, List.mem_of_getElem? h, e.symm⟩)
      have e := ih hu' h
      unfold drop' at e ⊢
      rw [List.eraseIdx_cons_succ, List.filter_cons_of_pos (by simpa using hne), e]
omit ht hk in
theorem perm_set {l : Ents} (hu : Uniq l) {k : List UInt8} {v v0 : Value} {j : Nat} (h : l[j]? = some (k, v0)) : (l.set j (k, v)).Perm ((k, v) :: drop' l k) := by
  induction l generalizing j with
  | nil => simp at h
  | cons p r ih =>
    have hu' : Uniq r := (List.nodup_cons.1 hu).2
    have hn : p.1 ∉ r.map (·.1) := (List.nodup_cons.1 hu).1
    cases j with
    | zero =>
      have e := perm_erase hu h
      simp only [List.eraseIdx_zero, List.tail_cons] at e
      rw [List.set_cons_zero, ← e]
    | succ j =>
      simp at h
      have hne : p.1 ≠ k := fun e => hn (List.mem_map.2 ⟨_, List.mem_of_getElem? h, e.symm⟩)
      have e := ih hu' h
      unfold drop' at e ⊢
      rw [List.set_cons_succ, List.filter_cons_of_pos (by simpa using hne)]
      exact (e.cons p).trans (List.Perm.swap _ _ _)
omit ht hk in
theorem drop_perm {l m : Ents} (h : l.Perm m) (k : List UInt8) : (drop' l k).Perm (drop' m k) := h.filter _

/-- 'm[k] = v' -/
theorem mput {b : Nat} {m : Ents} {k : List UInt8} {v : Value} {K : Unit → World → Prop} (h : MBox w b m) (c : ∀ w', MBox w' b ((k, v) :: drop' m k) → Step (fun i => i = b) w w' → K () w') : Do P (Instr.mapUpdate t (.map (some b)) (Str k) v) w K := by
  obtain ⟨es, clk, h1, ⟨l, h2, h3⟩, h4, h5, h6⟩ := h
  have hu := h4.perm h3.symm
  cases e : nlook l k with
  | none =>
    have hi := idx_none e
    refine Do_of (w' := setBlock w b (.map (es.push { key := Str k, val := v, born := clk }) (clk + 1))) ?_ (c _ ⟨_, _, setBlock_get h1 _, ⟨l ++ [(k, v)], ?_, ?_⟩, h4.put k v, ?_, ?_⟩ (setBlock_step _))
    · simp only [Instr.mapUpdate, Sem.run_bind, run_underlying ht.h, Result.andThen_ok, getObj, Sem.run, h1, Sem.run_pure, run_checkKey_str, findKey_strs k es.toList l h2, hi, Option.bind_none]
      simp [run_setObj_map h1]
    · simp [h2, strs]
    · have e2 := drop_eq e
      exact (List.perm_append_comm.trans (List.Perm.refl _)).trans (((List.Perm.of_eq e2.symm).trans (drop_perm h3 k)).cons _)
    · simp only [Array.toList_push, List.map_append, List.map_cons, List.map_nil]
      refine List.nodup_append.2 ⟨h5, by simp, ?_⟩
      intro a ha b' hb
      simp at hb
      subst hb
      obtain ⟨x, hx, rfl⟩ := List.mem_map.1 ha
      exact Nat.ne_of_lt (h6 x hx)
    · intro x hx
      simp at hx
      rcases hx with hx | rfl
      · have := h6 x (by simpa using hx); omega
      · simp
  | some v0 =>
    obtain ⟨j, h7, h8⟩ := idx_some e
    have hj : j < es.size := by
      have h9 := congrArg List.length h2
      simp [strs] at h9
      have := (List.getElem?_eq_some_iff.1 h8).1
      omega
    have hkey : es[j].key = Str k := by
      have h9 := congrArg (fun q => (q[j]?).map (·.1)) h2
      simp [strs, h8, hj] at h9
      exact h9
    refine Do_of (w' := setBlock w b (.map (es.modify j fun e => { e with key := Str k, val := v }) clk)) ?_ (c _ ⟨_, _, setBlock_get h1 _, ⟨l.set j (k, v), ?_, ?_⟩, h4.put k v, ?_, ?_⟩ (setBlock_step _))
    · simp only [Instr.mapUpdate, Sem.run_bind, run_underlying ht.h, Result.andThen_ok, getObj, Sem.run, h1, Sem.run_pure, run_checkKey_str, findKey_strs k es.toList l h2, h7, h8, Option.bind_some, Option.map_some, Array.getElem?_eq_getElem hj, Option.getD_some, hkey]
      have e : ((ByteArray.mk k.toArray) == (ByteArray.mk k.toArray)) = true := (show ((ByteArray.mk k.toArray) == (ByteArray.mk k.toArray)) = (k.toArray == k.toArray) from rfl).trans (by simp)
      simp [Instr.keyThatStays, Instr.sameBits, run_setObj_map h1, e]
    · apply List.ext_getElem?
      intro i
      have h9 := congrArg (fun q => q[i]?) h2
      simp only [List.getElem?_map, strs, Array.toList_modify, List.getElem?_modify, List.getElem?_set] at h9 ⊢
      have hjl := (List.getElem?_eq_some_iff.1 h8).1
      by_cases hij : j = i
      · subst hij
        simp [hjl, hj]
      · simp only [hij, if_false]
        simp only [id_map', Option.map_id_fun', id_eq]
        exact h9
    · exact (perm_set hu h8).trans ((drop_perm h3 k).cons _)
    · have : (Array.modify es j fun e => { e with key := Str k, val := v }).toList.map (·.born) = es.toList.map (·.born) := by
        apply List.ext_getElem?
        intro i
        simp only [List.getElem?_map, Array.toList_modify, List.getElem?_modify]
        by_cases hij : j = i
        · subst hij; simp [hj]
        · simp [hij]
      rw [this]; exact h5
    · intro x hx
      simp only [Array.toList_modify] at hx
      obtain ⟨i, hi⟩ := List.getElem?_of_mem hx
      rw [List.getElem?_modify] at hi
      obtain ⟨y, hy, rfl⟩ := Option.map_eq_some_iff.1 hi
      have := h6 y (List.mem_of_getElem? hy)
      split <;> exact this

/-- 'delete(m, k)' -/
theorem mdel {b : Nat} {m : Ents} {k : List UInt8} {ats : Array TypeId} {ty : TypeId} {cs : Array Bool} {K : Value → World → Prop} (h : MBox w b m) (c : ∀ w', MBox w' b (drop' m k) → Step (fun i => i = b) w w' → K (.tuple #[]) w') :
    BltD P .delete #[t, ats[0]!] ty cs #[.map (some b), Str k] w K := by
  obtain ⟨es, clk, h1, ⟨l, h2, h3⟩, h4, h5, h6⟩ := h
  have hu := h4.perm h3.symm
  cases e : nlook l k with
  | none =>
    have hi := idx_none e
    refine BltD_of (w' := setBlock w b (.map es clk)) ?_ (c _ ⟨_, _, setBlock_get h1 _, ⟨l, h2, ?_⟩, h4.drop k, h5, h6⟩ (setBlock_step _))
    · simp [builtin, Builtin.delete_, run_underlying ht.h, getObj, Sem.run, h1, run_checkKey_str, findKey_strs k es.toList l h2, hi, run_setObj_map h1]
    · exact (List.Perm.of_eq (drop_eq e).symm).trans (drop_perm h3 k)
  | some v0 =>
    obtain ⟨j, h7, h8⟩ := idx_some e
    have hj : j < es.size := by
      have h9 := congrArg List.length h2
      simp [strs] at h9
      have := (List.getElem?_eq_some_iff.1 h8).1
      omega
    refine BltD_of (w' := setBlock w b (.map (es.eraseIdxIfInBounds j) clk)) ?_ (c _ ⟨_, _, setBlock_get h1 _, ⟨l.eraseIdx j, ?_, ?_⟩, h4.drop k, ?_, ?_⟩ (setBlock_step _))
    · simp [builtin, Builtin.delete_, run_underlying ht.h, getObj, Sem.run, h1, run_checkKey_str, findKey_strs k es.toList l h2, h7, h8, run_setObj_map h1]
    · simp only [Array.eraseIdxIfInBounds, hj, dif_pos, Array.toList_eraseIdx, eraseIdx_map', h2, strs]
    · exact (List.Perm.of_eq (perm_erase hu h8)).trans (drop_perm h3 k)
    · simp only [Array.eraseIdxIfInBounds, hj, dif_pos, Array.toList_eraseIdx, eraseIdx_map']
      exact h5.sublist (List.eraseIdx_sublist _ _)
    · intro x hx
      simp only [Array.eraseIdxIfInBounds, hj, dif_pos, Array.toList_eraseIdx] at hx
      exact h6 x (List.mem_of_mem_eraseIdx hx)

omit hk in
theorem mlen {b : Nat} {m : Ents} {ty : TypeId} {cs : Array Bool} {K : Value → Prop} (h : MBox w b m) (c : K (.int .i64 m.length)) : BltR P .len #[t] ty cs #[.map (some b)] w K := by
  obtain ⟨es, clk, h1, ⟨l, h2, h3⟩, _⟩ := h
  refine l_map h1 ?_
  have h9 := congrArg List.length h2
  simp [strs] at h9
  rw [h9, h3.length_eq]; exact c
omit ht hk in
/-- 'directory{}' -/
theorem mmake {K : Value → World → Prop} (c : ∀ w', MBox w' w.heap.size [] → Step None' w w' → w'.heap.size = w.heap.size + 1 → K (.map (some w.heap.size)) w') : Do P (Instr.makeMap t none) w K := by
  refine Do_of (w' := w.alloc (.map #[] 0)) ?_ (c _ ⟨#[], 0, heap_alloc_new w _, ⟨[], rfl, List.Perm.refl _⟩, by simp [Uniq], by simp, by simp⟩ ((Step.refl _ _).alloc _) (by simp))
  simp [Instr.makeMap, newObj, Sem.run]
end

/-! ### ranging -/
/-- an iterator over a map that nobody turns: what came out, what is left -/
def MIter (w : World) (it b : Nat) (m left : Ents) : Prop :=
  ∃ es clk seen, w.heap[b]? = some (.map es clk) ∧ w.heap[it]? = some (.mapIter (some b) clk seen clk) ∧ (∃ l : Ents, es.toList.map (fun e => (e.key, e.val)) = strs l ∧ l.Perm m) ∧ Uniq m ∧ (es.toList.map (·.born)).Nodup ∧ (∀ e ∈ es.toList, e.born < clk) ∧
    ∃ l2 : Ents, (leftOf es seen).toList.map (fun e => (e.key, e.val)) = strs l2 ∧ l2.Perm left

theorem MIter.mbox {it b : Nat} {m left : Ents} (h : MIter w it b m left) : MBox w b m := by
  obtain ⟨es, clk, seen, h1, h2, h3, h4, h5, h6, _⟩ := h
  exact ⟨es, clk, h1, h3, h4, h5, h6⟩
theorem MIter.lt {it b : Nat} {m left : Ents} (h : MIter w it b m left) : it < w.heap.size ∧ b < w.heap.size := by
  obtain ⟨es, clk, seen, h1, h2, _⟩ := h
  exact ⟨(Array.getElem?_eq_some_iff.1 h2).1, (Array.getElem?_eq_some_iff.1 h1).1⟩
theorem MIter.blk {it b : Nat} {m left : Ents} (h : MIter w it b m left) : it < w.heap.size ∧ b < w.heap.size := h.lt
theorem MIter.step {w' : World} {S : Nat → Prop} {it b : Nat} {m left : Ents} (h : MIter w it b m left) (hs : Step S w w') (hn : ¬ S it ∧ ¬ S b) : MIter w' it b m left := by
  have hlt := h.lt
  obtain ⟨es, clk, seen, h1, h2, r⟩ := h
  exact ⟨es, clk, seen, (hs.keep b hlt.2 hn.2).trans h1, (hs.keep it hlt.1 hn.1).trans h2, r⟩
theorem mrange {t kt et : TypeId} [ht : Und P t (.map kt et)] {b : Nat} {m : Ents} {K : Value → World → Prop} (h : MBox w b m)
    (c : ∀ w', MIter w' w.heap.size b m m → Step None' w w' → w'.heap.size = w.heap.size + 1 → K (.pointer (some ⟨w.heap.size, 0, none⟩)) w') : Do P (Instr.range t (.map (some b))) w K := by
  have hlt := h.lt
  obtain ⟨es, clk, h1, ⟨l, h2, h3⟩, h4, h5, h6⟩ := h
  refine Do_of (run_range_map w t kt et b es clk ht.h h1) (c _ ⟨es, clk, #[], ?_, heap_alloc_new w _, ⟨l, h2, h3⟩, h4, h5, h6, l, ?_, h3⟩ ((Step.refl _ _).alloc _) (by simp))
  · exact (((Step.refl None' w).alloc _).keep b hlt fun x => x).trans h1
  · have e : (leftOf es #[]).toList = es.toList := by simp [leftOf, Array.filter_eq_self.2]
    rw [e]; exact h2
/-- the next entry, whichever -/
theorem mnext {it b : Nat} {m left : Ents} {ty : TypeId} {K : Value → World → Prop} (h : MIter w it b m left) (h0 : left = [] → K (.tuple #[.bool false]) w)
    (h1 : ∀ k v rest w', left.Perm ((k, v) :: rest) → MIter w' it b m rest → Step (fun i => i = it) w w' → w'.heap.size = w.heap.size → (Instr.entry (.pointer (some ⟨it, 0, none⟩))).run P w' = .ok (.tuple #[Str k, v]) w' → K (.tuple #[.bool true, Str k, v]) w') : Do P (Instr.next (.pointer (some ⟨it, 0, none⟩)) false ty) w K := by
  have hlt := h.lt
  obtain ⟨es, clk, seen, g1, g2, g3, g4, g5, g6, l2, g7, g8⟩ := h
  rcases run_next_at (P := P) w ty it b clk clk seen es clk g2 g1 g6 (Nat.le_refl _) with ⟨e, hr⟩ | ⟨e, he, w1, hw, hr⟩
  · refine Do_of hr (h0 ?_)
    have : (leftOf es seen).toList = [] := by simpa using Array.eq_empty_of_size_eq_zero e
    rw [this] at g7
    have : l2 = [] := by cases l2 with | nil => rfl | cons p r => simp [strs] at g7
    subst this
    exact g8.symm.eq_nil
  · have hes : e ∈ es.toList := by
      have : (leftOf es seen).toList ⊆ es.toList := by intro x hx; simp [leftOf] at hx ⊢; exact hx.1
      exact this he
    have hne : it ≠ b := by
      rintro rfl
      rw [g1] at g2
      cases g2
    have hst : Step (fun i => i = it) w (setBlock w1 it (.mapIter (some b) clk (seen.push e.born) clk)) := by
      rcases hw with rfl | rfl
      · exact setBlock_step _
      · exact ((Step.refl (fun i => i = it) w).drew).trans (setBlock_step _) fun i hi => .inl hi
    have hit : w1.heap[it]? = some (.mapIter (some b) clk seen clk) := by rcases hw with rfl | rfl <;> exact g2
    have hsz : (setBlock w1 it (.mapIter (some b) clk (seen.push e.born) clk)).heap.size = w.heap.size := by rcases hw with rfl | rfl <;> simp [setBlock]
    have hsub : (leftOf es (seen.push e.born)).toList = (leftOf es seen).toList.filter fun x => !(x.born == e.born) := by
      simp only [leftOf, Array.toList_filter, List.filter_filter]
      apply List.filter_congr
      intro x _
      simp [Array.contains_push]
      rw [Bool.eq_iff_iff]; simp
      constructor
      · rintro ⟨a, b⟩; exact ⟨fun h => b h, a⟩
      · rintro ⟨a, b⟩; exact ⟨b, fun h => a h⟩
    -- the entry in the list of names
    obtain ⟨j, hj⟩ := List.getElem?_of_mem he
    have h9 := congrArg (fun q => q[j]?) g7
    simp only [List.getElem?_map, strs, hj, Option.map_some] at h9
    obtain ⟨⟨k, v⟩, hp1, hp2⟩ := Option.map_eq_some_iff.1 h9.symm
    simp at hp2
    have hnd : ((leftOf es seen).toList.map (·.born)).Nodup := g5.sublist ((by simp only [leftOf, Array.toList_filter]; exact List.filter_sublist : (leftOf es seen).toList.Sublist es.toList).map _)
    have herase : ∀ (L : List MapEntry) (j : Nat), (L.map (·.born)).Nodup → L[j]? = some e → L.filter (fun x => !(x.born == e.born)) = L.eraseIdx j := by
      intro L
      induction L with
      | nil => intro j _ h; simp at h
      | cons x r ih =>
        intro j hn hj
        obtain ⟨hn1, hn2⟩ := List.nodup_cons.1 hn
        cases j with
        | zero =>
          simp at hj
          subst hj
          rw [List.filter_cons_of_neg (by simp), List.eraseIdx_zero, List.tail_cons, List.filter_eq_self]
          intro y hy
          simp
          intro e
          exact hn1 (List.mem_map.2 ⟨y, hy, e⟩)
        | succ j =>
          simp at hj
          have : x.born ≠ e.born := fun e' => hn1 (List.mem_map.2 ⟨e, List.mem_of_getElem? hj, e'.symm⟩)
          rw [List.filter_cons_of_pos (by simpa using this), List.eraseIdx_cons_succ, ih j hn2 hj]
    refine Do_of hr ?_
    have hen := run_entry_at (P := P) (setBlock w1 it (.mapIter (some b) clk (seen.push e.born) clk)) it b clk seen es clk e (setBlock_get hit _) ((hst.keep b hlt.2 (fun e => hne e.symm)).trans g1) hes g5
    rw [← hp2.1, ← hp2.2] at hen ⊢
    refine h1 k v (l2.eraseIdx j) _ (g8.symm.trans ?_) ⟨es, clk, seen.push e.born, ?_, setBlock_get hit _, g3, g4, g5, g6, l2.eraseIdx j, ?_, List.Perm.refl _⟩ hst hsz hen
    · exact (cons_eraseIdx_perm hp1).symm
    · exact (hst.keep b hlt.2 (fun e => hne e.symm)).trans g1
    · rw [hsub, herase _ j hnd hj, eraseIdx_map', g7, strs, strs, eraseIdx_map']
end Vv

/-
  RULES: what makes memory, with the new world under a name of its own; footprints that grow ('Evo').
-/
namespace Vv
open Go Go.RowKit
variable {P : Program} {w : World}

theorem ext1_0 {a : Value} {K : Value → Prop} (k : K a) : Pu P (Instr.extract (.tuple #[a]) 0) K := Pu_of (fun _ => by simp [Instr.extract]) k
theorem cells_one {v : Value} (h : v.oneCell' = true) : v.cells = #[v] := by cases v <;> simp_all [Value.cells, Value.oneCell']
/-- a new variable of one cell -/
theorem bx1 {T : TypeId} {v : Value} {K : Value → World → Prop} (h1 : v.oneCell' = true)
    (k : ∀ w', Box w' w.heap.size T #[v] → Step None' w w' → w'.heap.size = w.heap.size + 1 → K (.pointer (some ⟨w.heap.size, 0, none⟩)) w') : Do P (Instr.box T v) w K :=
  bx (k _ (by rw [cells_one h1]; exact Box.new _ _ _) ((Step.refl _ _).alloc _) (by simp))
/-- a new variable that is a struct -/
theorem bxA {T : TypeId} {cs : Array Value} {K : Value → World → Prop}
    (k : ∀ w', Box w' w.heap.size T cs → Step None' w w' → w'.heap.size = w.heap.size + 1 → K (.pointer (some ⟨w.heap.size, 0, none⟩)) w') : Do P (Instr.box T (.agg cs)) w K :=
  bx (k _ (Box.new _ _ _) ((Step.refl _ _).alloc _) (by simp))
theorem al1 {T : TypeId} {z : Value} [hz : ZeroOf P T z] {K : Value → World → Prop} (h1 : z.oneCell' = true)
    (k : ∀ w', Box w' w.heap.size T #[z] → Step None' w w' → w'.heap.size = w.heap.size + 1 → K (.pointer (some ⟨w.heap.size, 0, none⟩)) w') : Do P (Instr.alloc T true (.tuple #[])) w K :=
  al (k _ (by rw [cells_one h1]; exact Box.new _ _ _) ((Step.refl _ _).alloc _) (by simp))
theorem alA {T : TypeId} {cs : Array Value} [hz : ZeroOf P T (.agg cs)] {K : Value → World → Prop}
    (k : ∀ w', Box w' w.heap.size T cs → Step None' w w' → w'.heap.size = w.heap.size + 1 → K (.pointer (some ⟨w.heap.size, 0, none⟩)) w') : Do P (Instr.alloc T true (.tuple #[])) w K :=
  al (k _ (Box.new _ _ _) ((Step.refl _ _).alloc _) (by simp))

/-- a new row of one element -/
theorem bs1N {t e bytes : Nat} {z v : Value} [hs : SliceOf P t e 1 bytes z] {K : Value → World → Prop} (hv : v.oneCell' = true)
    (k : ∀ w', View w' (.slice (some ⟨w.heap.size, 0, none⟩) 1 1) 1 1 [v] → Step None' w w' → w'.heap.size = w.heap.size + 1 → K (.slice (some ⟨w.heap.size, 0, none⟩) 1 1) w') : Do P (Instr.buildSlice t 1 #[(0, v)]) w K :=
  bs1 hv (k _ (View.one _ _ _) ((Step.refl _ _).alloc _) (by simp))

/-- the world goes on, a part of it too: only the part and new blocks are turned -/
structure Evo (S : Nat → Prop) (w : World) (S' : Nat → Prop) (w' : World) : Prop where
  step : Step S w w'
  grow : ∀ k, S' k → S k ∨ w.heap.size ≤ k
theorem Evo.refl (S : Nat → Prop) (w : World) : Evo S w S w := ⟨Step.refl _ _, fun _ h => .inl h⟩
theorem Evo.trans {A B C : Nat → Prop} {a b c : World} (h : Evo A a B b) (k : Evo B b C c) : Evo A a C c :=
  ⟨h.step.trans k.step h.grow, fun i hi => (k.grow i hi).elim (h.grow i) fun h2 => .inr (Nat.le_trans h.step.size h2)⟩
theorem Evo.of_none {S : Nat → Prop} {a b : World} (h : Step None' a b) : Evo S a S b := ⟨h.of_none, fun _ h => .inl h⟩
theorem Evo.then_none {A B : Nat → Prop} {a b c : World} (h : Evo A a B b) (k : Step None' b c) : Evo A a B c := h.trans (.of_none k)
theorem Evo.none_then {A B : Nat → Prop} {a b c : World} (h : Step None' a b) (k : Evo A b B c) : Evo A a B c := (Evo.of_none h).trans k
theorem Evo.drew {A B : Nat → Prop} {a b : World} (h : Evo A a B b) : Evo A a B b.drew := ⟨h.step.drew, h.grow⟩
/-- a step inside the part -/
theorem Evo.then_in {A B S : Nat → Prop} {a b c : World} (h : Evo A a B b) (k : Step S b c) (hs : ∀ i, S i → B i) : Evo A a B c := h.trans ⟨k.mono hs, fun _ h => .inl h⟩
/-- a step inside the part or what is new -/
theorem Evo.then_new {A B S : Nat → Prop} {a b c : World} (h : Evo A a B b) (k : Step S b c) (hs : ∀ i, S i → A i ∨ a.heap.size ≤ i) : Evo A a B c :=
  ⟨h.step.trans k hs, h.grow⟩
theorem Evo.shrink {A B B' : Nat → Prop} {a b : World} (h : Evo A a B b) (hs : ∀ i, B' i → B i ∨ a.heap.size ≤ i) : Evo A a B' b := ⟨h.step, fun i hi => (hs i hi).elim (h.grow i) .inr⟩
theorem Evo.turn {v v' : Value} {a b : World} (h : Turn a v b v') : Evo (foot v) a (foot v') b := ⟨h.step, h.grow⟩
theorem Evo.size {A B : Nat → Prop} {a b : World} (h : Evo A a B b) : a.heap.size ≤ b.heap.size := h.step.size
/-- what is apart of the part stays apart -/
theorem Evo.apart {A B : Nat → Prop} {a b : World} (h : Evo A a B b) {i : Nat} (hi : i < a.heap.size) (hn : ¬ A i) : ¬ B i := fun x => (h.grow i x).elim hn fun y => by omega

end Vv

/-
  THE PLAIN DISK: files by numbers, directories as rising lists of names, what is done to them. No program is in sight.
-/
namespace Vv

abbrev Name := List UInt8
abbrev Dir := List (Name × Nat)
/-- the order of names: Go's on strings -/
def nlt (a b : Name) : Bool := Go.Op.bytesLess a b

def okc (c : UInt8) : Bool := (97 ≤ c.toNat && c.toNat ≤ 122) || (65 ≤ c.toNat && c.toNat ≤ 90) || (48 ≤ c.toNat && c.toNat ≤ 57) || c.toNat == 45 || c.toNat == 46
def isName (s : Name) : Bool := !s.isEmpty && decide (s.length ≤ 16) && s.all okc

structure Fl where
  b : List UInt8
  syn : Nat
inductive Ch where
  | make (to : Name) (at' : Nat)
  | del (s : Name)
  | ren (a b : Name)
structure Dk where
  fs : List Fl
  now : Dir
  old : Dir
  log : List Ch
  n : Nat
  cut : Int
  off : Bool

/-- a name more, in its place -/
def dirput : Dir → Name → Nat → Dir
  | [], s, i => [(s, i)]
  | (t, j) :: r, s, i => if nlt t s then (t, j) :: dirput r s i else (s, i) :: (t, j) :: r
def dwith (l : Dir) (s : Name) (i : Nat) : Dir := dirput (drop' l s) s i
def chd (l : Dir) : Ch → Dir
  | .make s i => dwith l s i
  | .del s => drop' l s
  | .ren a b => dwith (drop' l a) b ((nlook l a).getD 0)

theorem dirput_perm (l : Dir) (s : Name) (i : Nat) : (dirput l s i).Perm ((s, i) :: l) := by
  induction l with
  | nil => exact List.Perm.refl _
  | cons p r ih =>
    obtain ⟨t, j⟩ := p
    simp only [dirput]
    split
    · exact (ih.cons _).trans (List.Perm.swap _ _ _)
    · exact List.Perm.refl _
theorem dwith_perm (l : Dir) (s : Name) (i : Nat) : (dwith l s i).Perm ((s, i) :: drop' l s) := dirput_perm _ _ _

def newDk : Dk := ⟨[], [], [], [], 0, -1, false⟩
def Dk.cutAt (D : Dk) (c : Int) : Dk := { D with cut := c, off := false }
/-- the power may go -/
def Dk.pow (D : Dk) : Dk := { D with off := D.off || decide (0 ≤ D.cut ∧ D.cut ≤ D.n) }
/-- why an operation on names can't be done -/
def Dk.why (D : Dk) (there : Bool) (names : List Name) : Nat :=
  if D.off then 24 else if names.any (fun s => !isName s) then 20 else
  if there && (nlook D.now (names.headD [])).isNone then 21 else if 65536 ≤ D.n then 23 else 0
def Dk.size (D : Dk) (i : Nat) : Nat := (D.fs[i]?.map (·.b.length)).getD 0
def Dk.append (D0 : Dk) (s : Name) (b : List UInt8) : Dk × Nat :=
  let D := D0.pow
  if D.why false [s] ≠ 0 then (D, D.why false [s]) else
  match nlook D.now s with
  | none => if 64 ≤ D.now.length ∨ 262144 < b.length then (D, 23) else
      ({ D with fs := D.fs ++ [⟨b, 0⟩], now := dwith D.now s D.fs.length, log := D.log ++ [.make s D.fs.length], n := D.n + 1 }, 0)
  | some i => if 262144 < D.size i + b.length then (D, 23) else
      ({ D with fs := D.fs.modify i fun f => { f with b := f.b ++ b }, n := D.n + 1 }, 0)
def Dk.read (D : Dk) (s : Name) : List UInt8 × Nat :=
  if D.off then ([], 24) else if !isName s then ([], 20) else
  match nlook D.now s with
  | none => ([], 21)
  | some i => ((D.fs[i]?.map (·.b)).getD [], 0)
def Dk.sync (D0 : Dk) (s : Name) : Dk × Nat :=
  let D := D0.pow
  if D.why true [s] ≠ 0 then (D, D.why true [s]) else
  ({ D with fs := D.fs.modify ((nlook D.now s).getD 0) fun f => { f with syn := f.b.length }, n := D.n + 1 }, 0)
def Dk.delete (D0 : Dk) (s : Name) : Dk × Nat :=
  let D := D0.pow
  if D.why true [s] ≠ 0 then (D, D.why true [s]) else
  ({ D with now := drop' D.now s, log := D.log ++ [.del s], n := D.n + 1 }, 0)
def Dk.rename (D0 : Dk) (a b : Name) : Dk × Nat :=
  let D := D0.pow
  if D.why true [a, b] ≠ 0 then (D, D.why true [a, b]) else
  ({ D with now := chd D.now (.ren a b), log := D.log ++ [.ren a b], n := D.n + 1 }, 0)
def Dk.syncDir (D0 : Dk) : Dk × Nat :=
  let D := D0.pow
  if D.why false [] ≠ 0 then (D, D.why false []) else
  ({ D with old := D.now, log := [], n := D.n + 1 }, 0)
def Dk.poke (D : Dk) (s : Name) (at' : Int) (x : UInt8) : Dk × Nat :=
  if !isName s then (D, 20) else
  match nlook D.now s with
  | none => (D, 21)
  | some i => if at' < 0 ∨ (D.size i : Int) ≤ at' then (D, 2) else
      ({ D with fs := D.fs.modify i fun f => { f with b := f.b.set at'.toNat x } }, 0)
/-- min(max(x, 0), m) -/
def clip (x : Int) (m : Nat) : Nat := min x.toNat m
/-- the last bytes are turned -/
def torn (b : List UInt8) (t : Nat) : List UInt8 := b.take (b.length - t) ++ (b.drop (b.length - t)).map (· ^^^ 255)
def crashFl (f : Fl) (keep tear : Int) : List UInt8 :=
  let k := clip keep (f.b.length - f.syn)
  torn (f.b.take (f.syn + k)) (clip tear k)
structure Fate where
  keep : Int
  dirs : Int
  tear : Int
def Dk.crash (D : Dk) (f : Fate) : Dk :=
  let l := (D.log.take (clip f.dirs D.log.length)).foldl chd D.old
  let fs := l.map fun p => let b := crashFl ((D.fs[p.2]?).getD ⟨[], 0⟩) f.keep f.tear; (⟨b, b.length⟩ : Fl)
  let d := l.mapIdx fun i p => (p.1, i)
  { fs := fs, now := d, old := d, log := [], n := 0, cut := -1, off := false }

/-! ### the order of names -/
theorem nlt_eq : ∀ (x y : Name), nlt x y = decide (x < y)
  | [], [] => by simp [nlt, Go.Op.bytesLess]
  | _ :: _, [] => by simp [nlt, Go.Op.bytesLess]
  | [], _ :: _ => by simp [nlt, Go.Op.bytesLess]
  | a :: x, b :: y => by
    have ih := nlt_eq x y
    unfold nlt at ih ⊢
    rw [Go.Op.bytesLess, ih]
    simp only [List.cons_lt_cons_iff]
    by_cases h1 : a < b <;> by_cases h2 : a = b <;> by_cases h3 : x < y <;> simp [h1, h2, h3]
theorem nlt_iff {a b : Name} : nlt a b = true ↔ a < b := by rw [nlt_eq]; simp
theorem nlt_irr (a : Name) : nlt a a = false := by rw [nlt_eq]; simp [List.lt_irrefl]
theorem nlt_trans {a b c : Name} (h : nlt a b = true) (k : nlt b c = true) : nlt a c = true := nlt_iff.2 (List.lt_trans (nlt_iff.1 h) (nlt_iff.1 k))
theorem nlt_asymm {a b : Name} (h : nlt a b = true) : nlt b a = false := by
  cases e : nlt b a with
  | false => rfl
  | true => have := nlt_trans h e; rw [nlt_irr] at this; cases this
theorem nlt_tri (a b : Name) : nlt a b = true ∨ a = b ∨ nlt b a = true := by
  simp only [nlt_iff]
  rcases Std.Trichotomous.rel_or_eq_or_rel_swap (r := fun (x y : Name) => x < y) (a := a) (b := b) with h | h | h
  · exact .inl h
  · exact .inr (.inl h)
  · exact .inr (.inr h)
theorem nlt_ne {a b : Name} (h : nlt a b = true) : a ≠ b := fun e => by rw [e, nlt_irr] at h; cases h

/-! ### what always holds -/
def Rising {α : Type} (l : List (Name × α)) : Prop := l.Pairwise fun p q => nlt p.1 q.1 = true
theorem Rising.uniq {α : Type} {l : List (Name × α)} (h : Rising l) : Uniq l := by
  unfold Uniq
  rw [List.Nodup, List.pairwise_map]
  exact List.Pairwise.imp (fun h => nlt_ne h) h
theorem Rising.drop {α : Type} {l : List (Name × α)} (h : Rising l) (s : Name) : Rising (drop' l s) := List.Pairwise.filter _ h
theorem mem_dirput {l : Dir} {s : Name} {i : Nat} {p : Name × Nat} : p ∈ dirput l s i ↔ p = (s, i) ∨ p ∈ l := by
  rw [(dirput_perm l s i).mem_iff, List.mem_cons]
theorem Rising.put {l : Dir} (h : Rising l) {s : Name} {i : Nat} (hn : ∀ p ∈ l, p.1 ≠ s) : Rising (dirput l s i) := by
  induction l with
  | nil => exact List.pairwise_singleton _ _
  | cons p r ih =>
    obtain ⟨t, j⟩ := p
    obtain ⟨h1, h2⟩ := List.pairwise_cons.1 h
    have hts : t ≠ s := hn (t, j) (by simp)
    simp only [dirput]
    split
    · rename_i hlt
      refine List.pairwise_cons.2 ⟨fun q hq => ?_, ih h2 fun q hq => hn q (List.mem_cons_of_mem _ hq)⟩
      rcases mem_dirput.1 hq with rfl | hq
      · exact hlt
      · exact h1 q hq
    · rename_i hlt
      have hst : nlt s t = true := by
        rcases nlt_tri t s with h | h | h
        · exact absurd h hlt
        · exact absurd h hts
        · exact h
      refine List.pairwise_cons.2 ⟨fun q hq => ?_, h⟩
      rcases List.mem_cons.1 hq with rfl | hq
      · exact hst
      · exact nlt_trans hst (h1 q hq)
theorem mem_drop {α : Type} {l : List (Name × α)} {s : Name} {p : Name × α} : p ∈ drop' l s ↔ p ∈ l ∧ p.1 ≠ s := by
  unfold drop'; simp
theorem Rising.dwith {l : Dir} (h : Rising l) (s : Name) (i : Nat) : Rising (dwith l s i) := (h.drop s).put fun _ hp => (mem_drop.1 hp).2
theorem mem_dwith {l : Dir} {s : Name} {i : Nat} {p : Name × Nat} : p ∈ dwith l s i ↔ p = (s, i) ∨ (p ∈ l ∧ p.1 ≠ s) := by
  unfold Vv.dwith; rw [mem_dirput, mem_drop]
theorem drop_len {α : Type} (l : List (Name × α)) (s : Name) : (drop' l s).length ≤ l.length := List.length_filter_le _ _
theorem drop_len_mem {α : Type} {l : List (Name × α)} {s : Name} {v : α} (h : nlook l s = some v) : (drop' l s).length < l.length := by
  unfold nlook at h
  obtain ⟨p, hp, _⟩ := Option.map_eq_some_iff.1 h
  unfold drop'
  have h1 := List.mem_of_find?_eq_some hp
  have h2 := List.find?_some hp
  refine Nat.lt_of_le_of_ne (List.length_filter_le _ _) fun e => ?_
  have := List.filter_eq_self.1 (List.Sublist.eq_of_length List.filter_sublist e) p h1
  simp at this h2
  exact this h2
theorem dwith_len (l : Dir) (s : Name) (i : Nat) : (dwith l s i).length = (drop' l s).length + 1 := by
  have := (dwith_perm l s i).length_eq; simpa using this

/-- a directory that can be -/
structure DirOk (N : Nat) (l : Dir) : Prop where
  ris : Rising l
  mem : ∀ p ∈ l, p.2 < N ∧ isName p.1 = true
  len : l.length ≤ 64
theorem DirOk.mono {N M : Nat} {l : Dir} (h : DirOk N l) (hm : N ≤ M) : DirOk M l := ⟨h.ris, fun p hp => ⟨Nat.lt_of_lt_of_le (h.mem p hp).1 hm, (h.mem p hp).2⟩, h.len⟩
theorem DirOk.nil (N : Nat) : DirOk N [] := ⟨List.Pairwise.nil, fun _ h => (by cases h), Nat.zero_le _⟩
theorem DirOk.drop {N : Nat} {l : Dir} (h : DirOk N l) (s : Name) : DirOk N (drop' l s) := ⟨h.ris.drop s, fun p hp => h.mem p (mem_drop.1 hp).1, Nat.le_trans (drop_len l s) h.len⟩
theorem DirOk.dwith {N : Nat} {l : Dir} (h : DirOk N l) {s : Name} {i : Nat} (hi : i < N) (hs : isName s = true) (hl : (drop' l s).length < 64) : DirOk N (dwith l s i) :=
  ⟨h.ris.dwith s i, fun p hp => (mem_dwith.1 hp).elim (fun e => by rw [e]; exact ⟨hi, hs⟩) fun e => h.mem p e.1, by rw [dwith_len]; omega⟩

structure Dk.WF (D : Dk) : Prop where
  pre : ∀ k, DirOk D.fs.length ((D.log.take k).foldl chd D.old)
  now : D.log.foldl chd D.old = D.now
  logI : ∀ s i, Ch.make s i ∈ D.log → i < D.fs.length
  logR : ∀ k a b, D.log[k]? = some (.ren a b) → (nlook ((D.log.take k).foldl chd D.old) a).isSome = true
  syn : ∀ f ∈ D.fs, f.syn ≤ f.b.length ∧ f.b.length ≤ 262144
  nle : D.n ≤ 65536
  logn : D.log.length ≤ D.n
  cutI : I64 D.cut
theorem Dk.WF.nowOk {D : Dk} (h : D.WF) : DirOk D.fs.length D.now := by
  have := h.pre D.log.length
  rwa [List.take_length, h.now] at this
theorem Dk.WF.oldOk {D : Dk} (h : D.WF) : DirOk D.fs.length D.old := h.pre 0
theorem newDk_wf : newDk.WF :=
  ⟨fun k => (by simpa [newDk] using DirOk.nil 0), rfl, fun s i h => (by cases h), fun k a b h => (by cases h), fun f h => (by cases h), by decide, by decide, by simp [I64, newDk]⟩
theorem Dk.WF.pow {D : Dk} (h : D.WF) : D.pow.WF := ⟨h.pre, h.now, h.logI, h.logR, h.syn, h.nle, h.logn, h.cutI⟩
theorem Dk.WF.cutAt {D : Dk} (h : D.WF) {c : Int} (hc : I64 c) : (D.cutAt c).WF := ⟨h.pre, h.now, h.logI, h.logR, h.syn, h.nle, h.logn, hc⟩
theorem look_lt {D : Dk} (h : D.WF) {s : Name} {i : Nat} (hl : nlook D.now s = some i) : i < D.fs.length := (h.nowOk.mem _ ((look_some h.nowOk.ris.uniq).1 hl)).1
theorem look_name {D : Dk} (h : D.WF) {s : Name} {i : Nat} (hl : nlook D.now s = some i) : isName s = true := (h.nowOk.mem _ ((look_some h.nowOk.ris.uniq).1 hl)).2
/-- a file is turned -/
theorem Dk.WF.turn {D : Dk} (h : D.WF) (i : Nat) (g : Fl → Fl) (hg : ∀ f, f ∈ D.fs → (g f).syn ≤ (g f).b.length ∧ (g f).b.length ≤ 262144) (m : Nat) (hm : D.n ≤ m ∧ m ≤ 65536) :
    Dk.WF { D with fs := D.fs.modify i g, n := m } := by
  refine ⟨fun k => ?_, h.now, fun s j hj => ?_, h.logR, fun f hf => ?_, hm.2, Nat.le_trans h.logn hm.1, h.cutI⟩
  · simpa using h.pre k
  · simpa using h.logI s j hj
  · obtain ⟨j, hj⟩ := List.getElem?_of_mem hf
    simp only [List.getElem?_modify] at hj
    obtain ⟨f0, h1, h2⟩ := Option.map_eq_some_iff.1 hj
    have hm := List.mem_of_getElem? h1
    split at h2
    · rw [← h2]; exact hg f0 hm
    · rw [← show f0 = f from h2]; exact h.syn f0 hm
/-- a directory operation is done -/
theorem Dk.WF.change {D : Dk} (h : D.WF) (c : Ch) (F : List Fl) (hF : ∀ f ∈ F, f.syn ≤ f.b.length ∧ f.b.length ≤ 262144) (hN : D.fs.length ≤ F.length) (hn : D.n + 1 ≤ 65536) (hd : DirOk F.length (chd D.now c))
    (hc : ∀ s i, c = .make s i → i < F.length) (hr : ∀ a b, c = .ren a b → (nlook D.now a).isSome = true) : Dk.WF { D with fs := F, now := chd D.now c, log := D.log ++ [c], n := D.n + 1 } := by
  refine ⟨fun k => ?_, ?_, fun s i hi => ?_, fun k a b hk => ?_, hF, hn, ?_, h.cutI⟩
  · simp only []
    by_cases hk : k ≤ D.log.length
    · rw [List.take_append_of_le_length hk]; exact (h.pre k).mono hN
    · rw [List.take_of_length_le (by simp; omega), List.foldl_append, h.now]; exact hd
  · simp only [List.foldl_append, h.now]; rfl
  · simp only [List.mem_append, List.mem_singleton] at hi
    rcases hi with hi | hi
    · exact Nat.lt_of_lt_of_le (h.logI s i hi) hN
    · exact hc s i hi.symm
  · simp only [] at hk ⊢
    by_cases hkl : k < D.log.length
    · rw [List.getElem?_append_left hkl] at hk
      rw [List.take_append_of_le_length (by omega)]
      exact h.logR k a b hk
    · by_cases he : k = D.log.length
      · subst he
        simp at hk
        rw [List.take_append_of_le_length (Nat.le_refl _), List.take_length, h.now]
        exact hr a b hk
      · rw [List.getElem?_append_right (by omega)] at hk
        simp [show k - D.log.length ≠ 0 by omega] at hk
  · simp only [List.length_append, List.length_singleton]; have := h.logn; omega
theorem why_n {D : Dk} {t : Bool} {l : List Name} (h : D.why t l = 0) : D.n < 65536 ∧ (∀ s ∈ l, isName s = true) ∧ D.off = false ∧ (t = true → (nlook D.now (l.headD [])).isSome = true) := by
  unfold Dk.why at h
  split at h
  · cases h
  · split at h
    · cases h
    · split at h
      · cases h
      · split at h
        · cases h
        · rename_i h1 h2 h3 h4
          refine ⟨by omega, fun s hs => ?_, by simpa using h1, fun ht => ?_⟩
          · simp at h2; exact h2 s hs
          · subst ht
            cases hx : nlook D.now (l.headD []) with
            | none => rw [hx] at h3; simp at h3
            | some v => rfl
theorem append_wf {D : Dk} (h : D.WF) (s : Name) (b : List UInt8) : (D.append s b).1.WF := by
  unfold Dk.append
  simp only []
  have hp := h.pow
  generalize D.pow = E at hp ⊢
  split
  · exact hp
  · rename_i hw
    have hw := why_n (Decidable.not_not.1 hw)
    cases hl : nlook E.now s with
    | none =>
      simp only []
      split
      · exact hp
      · rename_i hc
        have hd : (drop' E.now s).length < 64 := by have := drop_len E.now s; omega
        refine hp.change (.make s E.fs.length) _ ?_ (by simp) (by omega) ?_ ?_ ?_
        · intro f hf
          simp at hf
          rcases hf with hf | rfl
          · exact hp.syn f hf
          · simp; omega
        · exact (hp.nowOk.mono (by simp)).dwith (by simp) (hw.2.1 s (by simp)) hd
        · intro s' i e; cases e; simp
        · intro a b e; cases e
    | some i =>
      simp only []
      split
      · exact hp
      · rename_i hc
        have hi := look_lt hp hl
        have : E.fs[i]? = some E.fs[i] := List.getElem?_eq_getElem hi
        -- the file that is turned is the i-th
        have hsz : E.size i = E.fs[i].b.length := by simp [Dk.size, this]
        have e : (E.fs.modify i fun f => { f with b := f.b ++ b }) = E.fs.set i { E.fs[i] with b := E.fs[i].b ++ b } := by
          apply List.ext_getElem?
          intro j
          simp only [List.getElem?_modify, List.getElem?_set]
          by_cases hij : i = j
          · subst hij; simp [hi]
          · simp [hij]
        rw [e]
        refine ⟨fun k => by simpa using hp.pre k, hp.now, fun s j hj => by simpa using hp.logI s j hj, hp.logR, fun f hf => ?_, by simp only []; omega, Nat.le_trans hp.logn (by simp), hp.cutI⟩
        rcases List.mem_or_eq_of_mem_set hf with hf | rfl
        · exact hp.syn f hf
        · have := hp.syn E.fs[i] (List.getElem_mem hi)
          simp only [List.length_append]
          omega
theorem sync_wf {D : Dk} (h : D.WF) (s : Name) : (D.sync s).1.WF := by
  unfold Dk.sync
  simp only []
  have hp := h.pow
  generalize D.pow = E at hp ⊢
  split
  · exact hp
  · rename_i hw
    have hw := why_n (Decidable.not_not.1 hw)
    exact hp.turn _ (fun f => { f with syn := f.b.length }) (fun f hf => ⟨Nat.le_refl _, (hp.syn f hf).2⟩) (E.n + 1) ⟨by omega, by omega⟩
theorem delete_wf {D : Dk} (h : D.WF) (s : Name) : (D.delete s).1.WF := by
  unfold Dk.delete
  simp only []
  have hp := h.pow
  generalize D.pow = E at hp ⊢
  split
  · exact hp
  · rename_i hw
    have hw := why_n (Decidable.not_not.1 hw)
    exact hp.change (.del s) E.fs hp.syn (Nat.le_refl _) (by omega) (hp.nowOk.drop s) (fun _ _ e => by cases e) fun _ _ e => by cases e
theorem rename_wf {D : Dk} (h : D.WF) (a b : Name) : (D.rename a b).1.WF := by
  unfold Dk.rename
  simp only []
  have hp := h.pow
  generalize D.pow = E at hp ⊢
  split
  · exact hp
  · rename_i hw
    have hw := why_n (Decidable.not_not.1 hw)
    have h4 := hw.2.2.2 rfl
    simp only [List.headD_cons] at h4
    obtain ⟨i, hi⟩ := Option.isSome_iff_exists.1 h4
    refine hp.change (.ren a b) E.fs hp.syn (Nat.le_refl _) (by omega) ?_ (fun _ _ e => by cases e) fun _ _ e => by cases e; exact h4
    refine (hp.nowOk.drop a).dwith (by rw [hi]; exact look_lt hp hi) (hw.2.1 b (by simp)) ?_
    have := drop_len_mem hi
    have := drop_len (drop' E.now a) b
    have := hp.nowOk.len
    omega
theorem syncDir_wf {D : Dk} (h : D.WF) : (D.syncDir).1.WF := by
  unfold Dk.syncDir
  simp only []
  have hp := h.pow
  generalize D.pow = E at hp ⊢
  split
  · exact hp
  · rename_i hw
    have hw := why_n (Decidable.not_not.1 hw)
    exact ⟨fun k => (by simpa using hp.nowOk), rfl, fun s i h => (by cases h), fun k a b h => (by simp at h), hp.syn, by simp only []; omega, by simp, hp.cutI⟩
theorem poke_wf {D : Dk} (h : D.WF) (s : Name) (a : Int) (x : UInt8) : (D.poke s a x).1.WF := by
  unfold Dk.poke
  split
  · exact h
  · cases hl : nlook D.now s with
    | none => exact h
    | some i =>
      simp only []
      split
      · exact h
      · exact h.turn _ _ (fun f hf => by simpa using h.syn f hf) D.n ⟨Nat.le_refl _, h.nle⟩
theorem clip_le (x : Int) (m : Nat) : clip x m ≤ m := Nat.min_le_right _ _
theorem torn_len (b : List UInt8) (t : Nat) : (torn b t).length = b.length := by unfold torn; simp
theorem crash_wf {D : Dk} (h : D.WF) (f : Fate) : (D.crash f).WF := by
  unfold Dk.crash
  simp only []
  have hl := h.pre (clip f.dirs D.log.length)
  generalize (D.log.take (clip f.dirs D.log.length)).foldl chd D.old = l at hl ⊢
  have hd : DirOk l.length (l.mapIdx fun i p => (p.1, i)) := by
    refine ⟨?_, fun p hp => ?_, by simpa using hl.len⟩
    · have := hl.ris
      unfold Rising at this ⊢
      rw [List.pairwise_iff_getElem] at this ⊢
      intro i j hi hj hij
      simp at hi hj ⊢
      exact this i j hi hj hij
    · obtain ⟨i, hi, rfl⟩ := List.mem_mapIdx.1 hp
      exact ⟨hi, (hl.mem _ (List.getElem_mem hi)).2⟩
  refine ⟨fun k => by simpa using hd, rfl, fun s i h => (by cases h), fun k a b h => (by simp at h), fun g hg => ?_, by simp, by simp, by simp [I64]⟩
  simp only [List.mem_map] at hg
  obtain ⟨p, hp, rfl⟩ := hg
  refine ⟨Nat.le_refl _, ?_⟩
  simp only [crashFl, torn_len, List.length_take]
  have hp2 := (hl.mem p hp).1
  have e : D.fs[p.2]? = some D.fs[p.2] := List.getElem?_eq_getElem hp2
  have := h.syn _ (List.getElem_mem hp2)
  rw [e]
  simp only [Option.getD_some]
  omega

end Vv
