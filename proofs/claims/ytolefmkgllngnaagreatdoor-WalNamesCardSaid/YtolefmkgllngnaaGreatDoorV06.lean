/-
  WalNames: every input answers true. Part 6 of its proof: VvNum VvFrame VvFrame2 VvFrame3 VvRec.
-/
import Derived.Test.YtolefmkgllngnaaGreatDoorV04
import Derived.Test.YtolefmkgllngnaaGreatDoorV02

namespace Go.Proofs.VvS
open Go Go.Proofs Vv Go.RowKit
def enc (n : Nat) : List UInt8 := if n < 128 then [UInt8.ofNat n] else (UInt8.ofNat n ||| 128) :: enc (n / 128)
  termination_by n
theorem enc_len (k : Nat) : ∀ n, n < 128 ^ (k + 1) → (enc n).length ≤ k + 1 := by
  induction k with
  | zero => intro n h; rw [enc, if_pos (by omega)]; simp
  | succ k ih =>
    intro n h
    rw [enc]
    split
    · simp
    · have := ih (n / 128) (by rw [Nat.div_lt_iff_lt_mul (by omega), ← Nat.pow_succ]; exact h)
      simp only [List.length_cons]; omega
theorem enc_len10 {n : Nat} (h : n < 2 ^ 64) : (enc n).length ≤ 10 := enc_len 9 n (by omega)
theorem enc_pos (n : Nat) : 1 ≤ (enc n).length := by rw [enc]; split <;> simp

theorem number_ok {w : World} {v : Value} {l : List UInt8} {n : Nat} {K : Value → World → Prop} (hown : Own w v T_uint8 1 (B8 l)) (hn : n < 2 ^ 64) (hl : l.length ≤ 900000000)
    (hk : ∀ v' w', Own w' v' T_uint8 1 (B8 (l ++ enc n)) → Turn w v w' v' → K v' w') :
    Runs Tryz.prog F_num_number #[v, .int .u64 n] w K := by
  refine c_num_number ?_
  unfold H_num_number
  have hn10 := enc_len10 hn
  refine ⟨fun u x wr => ∃ (m : Nat) (l1 : List UInt8), x = .int .u64 m ∧ m < 2 ^ 64 ∧ Own wr u T_uint8 1 (B8 l1) ∧ Turn w v wr u ∧ l1 ++ enc m = l ++ enc n, fun u x wr => match x with | .int _ m => m.toNat | _ => 0,
    ⟨n, l, rfl, hn, hown, Turn.refl _ _, rfl⟩, ?_⟩
  rintro u _ wr ⟨m, l1, rfl, hm, ho, ht, he⟩
  have hll := congrArg List.length he
  simp only [List.length_append] at hll
  (with_reducible refine b_geq ?_)
  refine cnd (fun h => ?_) (fun h => ?_)
  · refine cv8 ?_
    refine b_or (un8 (by have := (UInt8.ofNat m).toNat_lt; omega)) (un8 (by omega)) ?_
    (with_reducible refine bs1 rfl ?_)
    refine app8 (news := [UInt8.ofNat m ||| 128]) (ho.alloc _) (ASrc.of_view (View.one _ _ _)) (by simp; omega) fun v' w' h1 h2 => ?_
    refine b_shr (by decide) ?_
    refine ⟨⟨m / 128, _, ?_, by omega, h1, (ht.alloc _).trans h2, ?_⟩, ?_⟩
    · simp
    · rw [← he, enc.eq_1 m, if_neg (by omega)]; simp
    · have e7 : (2 : Int) ^ Int.toNat 7 = 128 := by decide
      simp only [e7]; omega
  · refine cv8 ?_
    (with_reducible refine bs1 rfl ?_)
    refine app8 (news := [UInt8.ofNat m]) (ho.alloc _) (ASrc.of_view (View.one _ _ _)) (by simp; omega) fun v' w' h1 h2 => ?_
    refine hk _ _ ?_ ((ht.alloc _).trans h2)
    rw [← he, enc.eq_1 m, if_pos (by omega)]
    exact h1
end Go.Proofs.VvS
namespace Go.Proofs.VvS
open Go Go.Proofs Vv Go.RowKit

theorem Clone_ok {w : World} {v : Value} {l : List UInt8} {K : Value → World → Prop} (hv : Bytes w v l) (hl : l.length ≤ 900000000)
    (hk : ∀ v' w', Own w' v' T_uint8 1 (B8 l) → Made w w' v' → K v' w') : Runs Tryz.prog F_slices_Clone_byte_byte #[v] w K := by
  refine c_slices_Clone_byte_byte ?_
  unfold H_slices_Clone_byte_byte
  obtain ⟨a, c, rfl, hn⟩ := hv.shape
  (with_reducible refine b_sl_nil ?_)
  cases a with
  | none =>
    obtain ⟨h0, rfl⟩ := hn rfl
    have : l = [] := List.eq_nil_of_length_eq_zero h0
    subst this
    exact Cond_t (hk _ _ (Own.nil _ _ _) (Made.nil _))
  | some a =>
    refine Cond_f ?_
    refine bs0 ?_
    refine app8 (l := []) (Own.empty _ _ _) (ASrc.of_view (hv.alloc _)) (by simp; omega) fun v' w' h1 h2 => ?_
    exact hk _ _ h1 ((Made.alloc _ _ _ _ _).turn h2)

theorem Put_ok {w : World} {v : Value} {l : List UInt8} {n : Nat} {K : Value → World → Prop} (hv : Bytes w v l) (hn : n < 2 ^ 64) (hl : l.length ≤ 900000000)
    (hk : ∀ v' w', Own w' v' T_uint8 1 (B8 (l ++ enc n)) → Made w w' v' → K v' w') : Runs Tryz.prog F_num_Put #[v, .int .u64 n] w K := by
  refine c_num_Put ?_
  unfold H_num_Put
  (with_reducible refine cf ?_); refine Clone_ok hv hl fun v1 w1 h1 h2 => ?_
  (with_reducible refine cf ?_); refine number_ok h1 hn hl fun v2 w2 h3 h4 => ?_
  exact hk _ _ h3 (h2.turn h4)

theorem PutText_ok {w : World} {v : Value} {l s : List UInt8} {K : Value → World → Prop} (hv : Bytes w v l) (hl : l.length + s.length ≤ 800000000)
    (hk : ∀ v' w', Own w' v' T_uint8 1 (B8 (l ++ (enc s.length ++ s))) → Made w w' v' → K v' w') : Runs Tryz.prog F_num_PutText #[v, Str s] w K := by
  refine c_num_PutText ?_
  unfold H_num_PutText
  (with_reducible refine cf ?_); refine Clone_ok hv (by omega) fun v1 w1 h1 h2 => ?_
  refine l_str ?_
  have hs : (ByteArray.mk s.toArray).size = s.length := by simp [ByteArray.size]
  rw [hs]
  (with_reducible refine cvK (inU64 (by omega)) ?_)
  have he := enc_len10 (n := s.length) (by omega)
  (with_reducible refine cf ?_); refine number_ok h1 (by omega) (by omega) fun v2 w2 h3 h4 => ?_
  refine app8 h3 ASrc.of_str (by simp; omega) fun v3 w3 h5 h6 => ?_
  exact hk _ _ (by simpa using h5) ((h2.turn h4).turn h6)

/-! ### the sum -/
def crcBit (c : Nat) : Nat := if c % 2 = 1 then c / 2 ^^^ 3988292384 else c / 2
theorem crcBit_lt {c : Nat} (h : c < 4294967296) : crcBit c < 4294967296 := by
  unfold crcBit
  split
  · exact Nat.xor_lt_two_pow (n := 32) (by omega) (by omega)
  · omega
def crcBits : Nat → Nat → Nat
  | 0, c => c
  | k + 1, c => crcBit (crcBits k c)
theorem crcBits_lt {c : Nat} (h : c < 4294967296) (k : Nat) : crcBits k c < 4294967296 := by
  induction k with
  | zero => exact h
  | succ k ih => exact crcBit_lt ih
def crcByte (c : Nat) (b : UInt8) : Nat := crcBits 8 (c ^^^ b.toNat)
theorem crcXor_lt {c : Nat} (h : c < 4294967296) (b : UInt8) : c ^^^ b.toNat < 4294967296 :=
  Nat.xor_lt_two_pow (n := 32) (by omega) (by have := b.toNat_lt; omega)
def crcL (c : Nat) (l : List UInt8) : Nat := l.foldl crcByte c
theorem crcL_lt (l : List UInt8) : ∀ {c : Nat}, c < 4294967296 → crcL c l < 4294967296 := by
  induction l with
  | nil => intro c h; exact h
  | cons b l ih => intro c h; exact ih (crcBits_lt (crcXor_lt h b) 8)
theorem crcL_append (c : Nat) (a b : List UInt8) : crcL c (a ++ b) = crcL (crcL c a) b := List.foldl_append ..
def crc (l : List UInt8) : Nat := 4294967295 ^^^ crcL 4294967295 l
theorem crc_lt (l : List UInt8) : crc l < 4294967296 := Nat.xor_lt_two_pow (n := 32) (by omega) (crcL_lt l (by omega))
theorem crcL_take {c : Nat} {l : List UInt8} {k : Nat} (hk : k < l.length) : crcL c (l.take (k + 1)) = crcByte (crcL c (l.take k)) (l[k]) := by
  rw [List.take_add_one, crcL_append, List.getElem?_eq_getElem hk]; rfl

theorem crc_step (c : Nat) (hc : c < 4294967296) : ((c : Int) / 2 ^ Int.toNat 1).toNat ^^^ (Int.toNat 3988292384 &&& (IntKind.u32.wrap (-((((c : Int).toNat &&& Int.toNat 1 : Nat) : Int)))).toNat) = crcBit c := by
  have e1 : (2 : Int) ^ Int.toNat 1 = 2 := by decide
  have e2 : Int.toNat 3988292384 = 3988292384 := rfl
  have e3 : (Int.toNat 1) = 1 := rfl
  rw [e1, e2, e3, Int.toNat_natCast, Nat.and_one_is_mod]
  have e4 : ((c : Int) / 2).toNat = c / 2 := by omega
  rw [e4, crcBit]
  obtain h | h : c % 2 = 0 ∨ c % 2 = 1 := by omega
  · rw [h, if_neg (by omega)]
    simp [IntKind.wrap, IntKind.bits, IntKind.signed]
  · rw [h, if_pos rfl]
    have : (3988292384 &&& (IntKind.u32.wrap (-((1 : Nat) : Int))).toNat) = 3988292384 := by decide
    rw [this]

theorem Crc_ok {w : World} {v : Value} {ls : List (List UInt8)} {K : Value → World → Prop} (hv : BRows w v ls) (hn : ls.length ≤ 1000000000) (hb : ∀ l ∈ ls, l.length ≤ 1000000000)
    (hk : K (.int .u32 (crc ls.flatten)) w) : Runs Tryz.prog F_num_Crc #[v] w K := by
  refine c_num_Crc ?_
  unfold H_num_Crc
  obtain ⟨us, hv, hus⟩ := hv
  refine l_view hv ?_
  refine ⟨fun c i wr => ∃ j : Nat, i = .int .i64 j ∧ j ≤ ls.length ∧ c = .int .u32 (crcL 4294967295 (ls.take j).flatten) ∧ w = wr, fun _ i _ => match i with | .int _ n => ls.length - n.toNat | _ => 0,
    ⟨0, rfl, by omega, rfl, rfl⟩, ?_⟩
  rintro _ _ _ ⟨j, rfl, hj, rfl, rfl⟩
  have hc := crcL_lt (ls.take j).flatten (c := 4294967295) (by omega)
  (with_reducible refine b_lss ?_)
  refine cnd (fun h => ?_) (fun h => ?_)
  · have hjl : j < ls.length := by omega
    obtain ⟨u, hu, hub⟩ := hus j _ (List.getElem?_eq_getElem hjl)
    have hbl := hb _ (List.getElem_mem hjl)
    refine vidx hv j rfl hjl fun b o cc e hcell => ?_
    refine ld (by simpa using hcell 0 u (by simpa using hu)) ?_
    refine l_view hub ?_
    refine ⟨fun c i wr => ∃ k : Nat, i = .int .i64 k ∧ k ≤ ls[j].length ∧ c = .int .u32 (crcL (crcL 4294967295 (ls.take j).flatten) (ls[j].take k)) ∧ w = wr, fun _ i _ => match i with | .int _ n => ls[j].length - n.toNat | _ => 0,
      ⟨0, rfl, by omega, rfl, rfl⟩, ?_⟩
    rintro _ _ _ ⟨k, rfl, hk', rfl, rfl⟩
    have hc2 := crcL_lt (ls[j].take k) hc
    (with_reducible refine b_lss ?_)
    refine cnd (fun h => ?_) (fun h => ?_)
    · have hkl : k < ls[j].length := by omega
      refine bidx hub k rfl hkl fun p _ hp => ?_
      refine ld hp ?_
      have hb8 := (ls[j][k]).toNat_lt
      (with_reducible refine cvK (inU32 (by omega)) ?_)
      refine b_xor (un32 (by omega)) (un32 (by omega)) ?_
      refine ⟨fun c i wr => ∃ q : Nat, i = .int .i64 q ∧ q ≤ 8 ∧ c = .int .u32 (crcBits q (crcL (crcL 4294967295 (ls.take j).flatten) (ls[j].take k) ^^^ ls[j][k].toNat)) ∧ w = wr, fun _ i _ => match i with | .int _ n => 8 - n.toNat | _ => 0,
        ⟨0, rfl, by omega, by simp [crcBits], rfl⟩, ?_⟩
      rintro _ _ _ ⟨q, rfl, hq, rfl, rfl⟩
      have hc3 := crcBits_lt (crcXor_lt hc2 ls[j][k]) q
      generalize hX : crcBits q (crcL (crcL 4294967295 (ls.take j).flatten) (ls[j].take k) ^^^ ls[j][k].toNat) = X at hc3 ⊢
      (with_reducible refine b_lss ?_)
      refine cnd (fun h => ?_) (fun h => ?_)
      · refine b_shr (by decide) ?_
        refine b_and (un32 (by omega)) (un32 (by omega)) ?_
        refine u_neg ?_
        have hw : Un .u32 (IntKind.u32.wrap (-((((X : Int).toNat &&& Int.toNat 1 : Nat) : Int)))) := by
          have e3 : (Int.toNat 1) = 1 := rfl
          rw [e3, Int.toNat_natCast, Nat.and_one_is_mod]
          obtain h | h : X % 2 = 0 ∨ X % 2 = 1 := by omega
          · rw [h]; exact un32 (by decide)
          · rw [h]; exact un32 (by decide)
        have hand : (Int.toNat 3988292384 &&& (IntKind.u32.wrap (-((((X : Int).toNat &&& Int.toNat 1 : Nat) : Int)))).toNat) < 4294967296 := Nat.lt_of_le_of_lt Nat.and_le_left (by decide)
        have e1 : (2 : Int) ^ Int.toNat 1 = 2 := by decide
        refine b_and (un32 (by omega)) hw ?_
        refine b_xor (un32 (by rw [e1]; omega)) (un32 (by omega)) ?_
        (with_reducible refine b_add (by (first | (unfold I64; omega) | omega)) ?_)
        refine ⟨⟨q + 1, by simp, by omega, ?_, rfl⟩, ?_⟩
        · rw [Int.toNat_natCast, crc_step X hc3, ← hX]; rfl
        · simp only []; omega
      · (with_reducible refine b_add (by (first | (unfold I64; omega) | omega)) ?_)
        have hq8 : q = 8 := by omega
        subst hq8
        refine ⟨⟨k + 1, by simp, by omega, ?_, rfl⟩, ?_⟩
        · rw [crcL_take hkl, ← hX]; rfl
        · simp only []; omega
    · (with_reducible refine b_add (by (first | (unfold I64; omega) | omega)) ?_)
      have hkk : k = ls[j].length := by omega
      subst hkk
      refine ⟨⟨j + 1, by simp, by omega, ?_, rfl⟩, ?_⟩
      · rw [List.take_add_one, List.getElem?_eq_getElem hjl, List.flatten_append, crcL_append, List.take_length]; simp
      · simp only []; omega
  · refine u_xor rfl (un32 (by omega)) ?_
    have hjj : j = ls.length := by omega
    subst hjj
    rw [List.take_length, Int.toNat_natCast]
    exact hk

/-! ### reading -/
def tk : List UInt8 → Nat → Nat → Option (Nat × Nat)
  | [], _, _ => none
  | c :: r, i, n =>
    if i = 9 ∧ 1 < c.toNat then none
    else if 128 ≤ c.toNat then tk r (i + 1) (n ||| c.toNat % 128 * 2 ^ (7 * i) % 2 ^ 64)
    else if 0 < i ∧ c.toNat = 0 then none
    else some (n ||| c.toNat % 128 * 2 ^ (7 * i) % 2 ^ 64, i + 1)
/-- the number at a place, and the place behind it -/
def take (l : List UInt8) (a : Int) : Option (Nat × Nat) :=
  if a < 0 ∨ (l.length : Int) ≤ a then none
  else (tk ((l.take (min (a.toNat + 10) l.length)).drop a.toNat) 0 0).map fun p => (p.1, a.toNat + p.2)
def tkVal : Option (Nat × Nat) → Value
  | none => .tuple #[.int .u64 0, .int .i64 0, .bool false]
  | some (n, e) => .tuple #[.int .u64 n, .int .i64 e, .bool true]

theorem tk_shift (c : UInt8) (i : Nat) : IntKind.u64.wrap (((((c.toNat : Int).toNat &&& Int.toNat 127 : Nat) : Int)) * 2 ^ (7 * (i : Int)).toNat) = ((c.toNat % 128 * 2 ^ (7 * i) % 2 ^ 64 : Nat) : Int) := by
  have e1 : (7 * (i : Int)).toNat = 7 * i := by omega
  have e2 : ((c.toNat : Int).toNat &&& Int.toNat 127) = c.toNat % 128 := by
    rw [Int.toNat_natCast]; exact Nat.and_two_pow_sub_one_eq_mod c.toNat 7
  rw [e1, e2]
  have := wrap_un (k := .u64) rfl (n := c.toNat % 128 * 2 ^ (7 * i))
  refine Eq.trans ?_ this
  congr 1

theorem Take_ok {w : World} {v : Value} {l : List UInt8} {a : Int} {K : Value → World → Prop} (hv : Bytes w v l) (hl : l.length ≤ 1000000000) 
    (hk : K (tkVal (take l a)) w) : Runs Tryz.prog F_num_Take #[v, .int .i64 a] w K := by
  refine c_num_Take ?_
  unfold H_num_Take
  intro J hJ
  (with_reducible refine b_lss ?_)
  refine gt_f (fun h0 => ?_) (fun h0 => ?_)
  · refine l_view hv ?_
    (with_reducible refine b_geq ?_)
    refine hJ _ _ ?_
    refine cnd (fun h => ?_) (fun h => ?_)
    · rw [take, if_pos (.inr h)] at hk; exact hk
    · rw [take, if_neg (by omega)] at hk
      intro J1 hJ1
      (with_reducible refine b_add (by (first | (unfold I64; omega) | omega)) ?_)
      refine l_view hv ?_
      refine b_min ?_
      have em : (if (l.length : Int) < a + 10 then (l.length : Int) else a + 10) = ((min (a.toNat + 10) l.length : Nat) : Int) := by split <;> omega
      rw [em]
      refine bslice hv a.toNat (min (a.toNat + 10) l.length) (lowI (by omega)) (highI rfl) (by omega) (by omega) fun u hu hf => ?_
      generalize hs : (l.take (min (a.toNat + 10) l.length)).drop a.toNat = s at hk hu
      have hsl : s.length ≤ 10 := by rw [← hs]; simp; omega
      have hub := hu w hv
      refine l_view hub ?_
      refine ⟨fun n i wr => ∃ j m : Nat, i = .int .i64 j ∧ n = .int .u64 m ∧ j ≤ s.length ∧ m < 2 ^ 64 ∧ w = wr ∧ tk s 0 0 = tk (s.drop j) j m, fun _ i _ => match i with | .int _ n => 20 - n.toNat | _ => 0,
        ⟨0, 0, rfl, rfl, by omega, by omega, rfl, rfl⟩, ?_⟩
      rintro _ _ _ ⟨j, m, rfl, rfl, hj, hm, rfl, he⟩
      (with_reducible refine b_lss ?_)
      refine cnd (fun h => ?_) (fun h => ?_)
      · have hjl : j < s.length := by omega
        refine bidx hub j rfl hjl fun p _ hp => ?_
        refine ld hp ?_
        have hc8 := (s[j]).toNat_lt
        rw [List.drop_eq_getElem_cons hjl, tk] at he
        have hor : m ||| s[j].toNat % 128 * 2 ^ (7 * j) % 2 ^ 64 < 2 ^ 64 := Nat.or_lt_two_pow hm (Nat.mod_lt _ (by decide))
        intro J3 hJ3
        have hbrk : (j = 9 ∧ 1 < s[j].toNat) → J3 (.bool true) w := fun hb => hJ3 _ _ (Cond_t (hJ1 _ (by rw [he, if_pos hb] at hk; exact hk)))
        have hgo : ¬ (j = 9 ∧ 1 < s[j].toNat) → J3 (.bool false) w := fun hb => hJ3 _ _ (Cond_f (by
          rw [if_neg hb] at he
          refine b_and (un8 (by omega)) (un8 (by omega)) ?_
          have e127 : (s[j].toNat &&& 127) = s[j].toNat % 128 := Nat.and_two_pow_sub_one_eq_mod s[j].toNat 7
          refine cvK (inU64 (by
            have e7 : Int.toNat 127 = 127 := rfl
            rw [Int.toNat_natCast, e7, e127]; omega)) ?_
          (with_reducible refine b_mul (by (first | (unfold I64; omega) | omega)) ?_)
          refine b_shl (by simp only [IntKind.bits]; omega) ?_
          rw [tk_shift]
          refine b_or (un64 (by omega)) (un64 (by have := Nat.mod_lt (s[j].toNat % 128 * 2 ^ (7 * j)) (y := 2 ^ 64) (by decide); omega)) ?_
          rw [Int.toNat_natCast, Int.toNat_natCast]
          (with_reducible refine b_geq ?_)
          refine cnd (fun h1 => ?_) (fun h1 => ?_)
          · rw [if_pos (by omega)] at he
            (with_reducible refine b_add (by (first | (unfold I64; omega) | omega)) ?_)
            exact ⟨⟨j + 1, _, by simp, rfl, by omega, hor, rfl, he⟩, by simp only []; omega⟩
          · rw [if_neg (by omega)] at he
            intro J4 hJ4
            (with_reducible refine b_gtr ?_)
            refine gt_t (fun h2 => ?_) (fun h2 => ?_)
            · (with_reducible refine b_eql ?_)
              refine hJ4 _ _ (cnd (fun h3 => ?_) (fun h3 => ?_))
              · exact hJ1 _ (by rw [he, if_pos (by omega)] at hk; exact hk)
              · rw [he, if_neg (by omega)] at hk
                (with_reducible refine b_add (by (first | (unfold I64; omega) | omega)) ?_)
                (with_reducible refine b_add (by (first | (unfold I64; omega) | omega)) ?_)
                have e : a + (j : Int) + 1 = ((a.toNat + (j + 1) : Nat) : Int) := by omega
                rw [e]; exact hk
            · refine hJ4 _ _ (Cond_f ?_)
              rw [he, if_neg (by omega)] at hk
              (with_reducible refine b_add (by (first | (unfold I64; omega) | omega)) ?_)
              (with_reducible refine b_add (by (first | (unfold I64; omega) | omega)) ?_)
              have e : a + (j : Int) + 1 = ((a.toNat + (j + 1) : Nat) : Int) := by omega
              rw [e]; exact hk))
        (with_reducible refine b_eql ?_)
        refine gt_t (fun h1 => ?_) (fun h1 => ?_)
        · (with_reducible refine b_gtr ?_)
          by_cases h2 : (1 : Int) < s[j].toNat
          · rw [decide_eq_true h2]; exact hbrk (by omega)
          · rw [decide_eq_false h2]; exact hgo (by omega)
        · exact hgo (by omega)
      · refine hJ1 _ ?_
        rw [he, List.drop_eq_nil_of_le (by omega), tk] at hk
        exact hk
  · refine hJ _ _ (Cond_t ?_)
    rw [take, if_pos (.inl h0)] at hk
    exact hk

theorem tk_le {s : List UInt8} : ∀ {i n m k : Nat}, tk s i n = some (m, k) → i < k ∧ k ≤ i + s.length ∧ (n < 2 ^ 64 → m < 2 ^ 64) := by
  induction s with
  | nil => intro i n m k h; simp [tk] at h
  | cons c r ih =>
    intro i n m k h
    have hor : n < 2 ^ 64 → n ||| c.toNat % 128 * 2 ^ (7 * i) % 2 ^ 64 < 2 ^ 64 := fun hm => Nat.or_lt_two_pow hm (Nat.mod_lt _ (by decide))
    rw [tk] at h
    split at h
    · cases h
    · split at h
      · obtain ⟨h1, h2, h3⟩ := ih h
        exact ⟨by omega, by simp only [List.length_cons]; omega, fun hn => h3 (hor hn)⟩
      · split at h
        · cases h
        · cases h
          exact ⟨by omega, by simp only [List.length_cons]; omega, hor⟩
theorem take_le {l : List UInt8} {a : Int} {n e : Nat} (h : take l a = some (n, e)) : e ≤ l.length ∧ a < e ∧ n < 2 ^ 64 := by
  unfold take at h
  split at h
  · cases h
  · obtain ⟨⟨m, k⟩, h1, h2⟩ := Option.map_eq_some_iff.1 h
    obtain ⟨h3, h4, h5⟩ := tk_le h1
    cases h2
    simp at h4
    exact ⟨by simp only []; omega, by simp only []; omega, h5 (by decide)⟩

/-- the text at a place -/
def takeText (l : List UInt8) (a most : Int) : Option (List UInt8 × Nat) := match take l a with
  | none => none
  | some (n, e) => if most < 0 ∨ most < (n : Int) ∨ l.length - e < n then none else some ((l.take (e + n)).drop e, e + n)
def txVal : Option (List UInt8 × Nat) → Value
  | none => .tuple #[Str [], .int .i64 0, .bool false]
  | some (s, e) => .tuple #[Str s, .int .i64 e, .bool true]
theorem TakeText_ok {w : World} {v : Value} {l : List UInt8} {a most : Int} {K : Value → World → Prop} (hv : Bytes w v l) (hl : l.length ≤ 1000000000) (hm : I64 most)
    (hk : K (txVal (takeText l a most)) w) : Runs Tryz.prog F_num_TakeText #[v, .int .i64 a, .int .i64 most] w K := by
  unfold I64 at hm
  refine c_num_TakeText ?_
  unfold H_num_TakeText
  (with_reducible refine cf ?_); refine Take_ok hv hl ?_
  unfold takeText at hk
  cases ht : take l a with
  | none =>
    rw [ht] at hk
    rw [tkVal]
    (with_reducible refine ext3_0 ?_); (with_reducible refine ext3_1 ?_); (with_reducible refine ext3_2 ?_)
    intro J hJ
    (with_reducible refine unot ?_)
    exact Gate_not rfl (hJ _ _ (Cond_t hk))
  | some p =>
    obtain ⟨n, e⟩ := p
    obtain ⟨h1, h2, h3⟩ := take_le ht
    rw [ht] at hk
    simp only [] at hk
    rw [tkVal]
    (with_reducible refine ext3_0 ?_); (with_reducible refine ext3_1 ?_); (with_reducible refine ext3_2 ?_)
    intro J hJ
    have hno : (most < 0 ∨ most < (n : Int) ∨ l.length - e < n) → J (.bool true) w := fun h => hJ _ _ (Cond_t (by rw [if_pos h] at hk; exact hk))
    (with_reducible refine unot ?_)
    refine Gate_is rfl ?_
    (with_reducible refine b_lss ?_)
    refine gt_f (fun h4 => ?_) (fun h4 => hno (.inl h4))
    (with_reducible refine cvK (inU64 (by omega)) ?_); (with_reducible refine b_gtr ?_)
    refine gt_f (fun h5 => ?_) (fun h5 => hno (.inr (.inl h5)))
    refine l_view hv ?_
    (with_reducible refine b_sub (by (first | (unfold I64; omega) | omega)) ?_); (with_reducible refine cvK (inU64 (by omega)) ?_); (with_reducible refine b_gtr ?_)
    by_cases h6 : (l.length : Int) - e < n
    · rw [decide_eq_true h6]; exact hno (by omega)
    · rw [decide_eq_false h6]
      rw [if_neg (by omega)] at hk
      refine hJ _ _ (Cond_f ?_)
      (with_reducible refine cvK (in64 (by (first | (unfold I64; omega) | omega))) ?_); (with_reducible refine b_add (by (first | (unfold I64; omega) | omega)) ?_)
      refine bslice hv e (e + n) (lowI rfl) (highI (by omega)) (by omega) (by omega) fun u hu _ => ?_
      refine cvStr (hu _ hv) ?_
      exact hk
end Go.Proofs.VvS

namespace Go.Proofs.VvS
open Go Go.Proofs Vv Go.RowKit

/-- a number in so many bytes, the lowest first -/
def le (n : Nat) : Nat → List UInt8
  | 0 => []
  | k + 1 => UInt8.ofNat n :: le (n / 256) k
@[simp] theorem le_length (n k : Nat) : (le n k).length = k := by
  induction k generalizing n with
  | zero => rfl
  | succ k ih => simp [le, ih]

theorem fnumber_ok {w : World} {v : Value} {l : List UInt8} {n s : Nat} {K : Value → World → Prop} (hown : Own w v T_uint8 1 (B8 l)) (hs : s ≤ 100) (hl : l.length ≤ 900000000)
    (hk : ∀ v' w', Own w' v' T_uint8 1 (B8 (l ++ le n s)) → Turn w v w' v' → K v' w') :
    Runs Tryz.prog F_frame_number #[v, .int .u64 n, .int .i64 s] w K := by
  refine c_frame_number ?_
  unfold H_frame_number
  refine ⟨fun u x i wr => ∃ (m j : Nat) (l1 : List UInt8), x = .int .u64 m ∧ i = .int .i64 j ∧ j ≤ s ∧ Own wr u T_uint8 1 (B8 l1) ∧ Turn w v wr u ∧ l1.length = l.length + j ∧ l1 ++ le m (s - j) = l ++ le n s, fun _ _ i _ => match i with | .int _ m => s - m.toNat | _ => 0,
    ⟨n, 0, l, rfl, rfl, by omega, hown, Turn.refl _ _, rfl, rfl⟩, ?_⟩
  rintro u _ _ wr ⟨m, j, l1, rfl, rfl, hj, ho, ht, hll, he⟩
  (with_reducible refine b_lss ?_)
  refine cnd (fun h => ?_) (fun h => ?_)
  · refine cv8 ?_
    (with_reducible refine bs1 rfl ?_)
    refine app8 (news := [UInt8.ofNat m]) (ho.alloc _) (ASrc.of_view (View.one _ _ _)) (by simp; omega) fun v' w' h1 h2 => ?_
    refine b_shr (by decide) ?_
    (with_reducible refine b_add (by (first | (unfold I64; omega) | omega)) ?_)
    refine ⟨⟨m / 256, j + 1, _, by simp, by simp, by omega, h1, (ht.alloc _).trans h2, by simp [hll]; omega, ?_⟩, by simp only []; omega⟩
    rw [← he]
    have e : s - j = (s - (j + 1)) + 1 := by omega
    rw [e, le]
    simp
  · have e : s - j = 0 := by omega
    rw [e, le, List.append_nil] at he
    subst he
    exact hk _ _ ho ht

/-- the number that bytes say -/
def tl : List UInt8 → Nat → Nat → Nat
  | [], _, n => n
  | c :: r, i, n => tl r (i + 1) (n ||| c.toNat * 2 ^ (8 * i) % 2 ^ 64)
def told (l : List UInt8) : Nat := tl l 0 0
theorem tl_shift (c : UInt8) (i : Nat) : IntKind.u64.wrap ((c.toNat : Int) * 2 ^ (8 * (i : Int)).toNat) = ((c.toNat * 2 ^ (8 * i) % 2 ^ 64 : Nat) : Int) := by
  have e1 : (8 * (i : Int)).toNat = 8 * i := by omega
  rw [e1]
  have := wrap_un (k := .u64) rfl (n := c.toNat * 2 ^ (8 * i))
  refine Eq.trans ?_ this
  congr 1
theorem tl_lt {l : List UInt8} : ∀ {i n : Nat}, n < 2 ^ 64 → tl l i n < 2 ^ 64 := by
  induction l with
  | nil => intro i n h; exact h
  | cons c r ih => intro i n h; exact ih (Nat.or_lt_two_pow h (Nat.mod_lt _ (by decide)))
theorem told_lt (l : List UInt8) : told l < 2 ^ 64 := tl_lt (by decide)

theorem told_ok {w : World} {v : Value} {l : List UInt8} {K : Value → World → Prop} (hv : Bytes w v l) (hl : l.length ≤ 8) (hk : K (.int .u64 (told l)) w) : Runs Tryz.prog F_frame_told #[v] w K := by
  refine c_frame_told ?_
  unfold H_frame_told
  refine l_view hv ?_
  refine ⟨fun n i wr => ∃ j m : Nat, i = .int .i64 j ∧ n = .int .u64 m ∧ j ≤ l.length ∧ m < 2 ^ 64 ∧ w = wr ∧ told l = tl (l.drop j) j m, fun _ i _ => match i with | .int _ n => 20 - n.toNat | _ => 0,
    ⟨0, 0, rfl, rfl, by omega, by omega, rfl, rfl⟩, ?_⟩
  rintro _ _ _ ⟨j, m, rfl, rfl, hj, hm, rfl, he⟩
  (with_reducible refine b_lss ?_)
  refine cnd (fun h => ?_) (fun h => ?_)
  · have hjl : j < l.length := by omega
    refine bidx hv j rfl hjl fun p _ hp => ?_
    refine ld hp ?_
    have hc8 := (l[j]).toNat_lt
    rw [List.drop_eq_getElem_cons hjl, tl] at he
    (with_reducible refine cvK (inU64 (by omega)) ?_); (with_reducible refine b_mul (by (first | (unfold I64; omega) | omega)) ?_)
    refine b_shl (by simp only [IntKind.bits]; omega) ?_
    rw [tl_shift]
    refine b_or (un64 (by omega)) (un64 (by have := Nat.mod_lt (l[j].toNat * 2 ^ (8 * j)) (y := 2 ^ 64) (by decide); omega)) ?_
    rw [Int.toNat_natCast, Int.toNat_natCast]
    (with_reducible refine b_add (by (first | (unfold I64; omega) | omega)) ?_)
    exact ⟨⟨j + 1, _, by simp, rfl, by omega, Nat.or_lt_two_pow hm (Nat.mod_lt _ (by decide)), rfl, he⟩, by simp only []; omega⟩
  · rw [List.drop_eq_nil_of_le (by omega), tl] at he
    rw [he] at hk
    exact hk

/-- how many blocks a frame of so many bytes has -/
def blocks (n : Nat) : Nat := (16 + n + 4 + 30) / 31
theorem blocks_ok {w : World} {n : Nat} {K : Value → World → Prop} (hn : n ≤ 1000000000000) (hk : K (.int .i64 (blocks n)) w) : Runs Tryz.prog F_frame_blocks #[.int .i64 n] w K := by
  refine c_frame_blocks ?_
  unfold H_frame_blocks
  (with_reducible refine b_add (by (first | (unfold I64; omega) | omega)) ?_); (with_reducible refine b_add (by (first | (unfold I64; omega) | omega)) ?_); (with_reducible refine b_add (by (first | (unfold I64; omega) | omega)) ?_); (with_reducible refine b_sub (by (first | (unfold I64; omega) | omega)) ?_); (with_reducible refine b_quo (by omega) (by omega) (by omega) ?_)
  have e : ((16 : Int) + n + 4 + 31 - 1) / 31 = (blocks n : Nat) := by unfold blocks; omega
  rw [e]; exact hk

/-- is there a byte that is another than zero? -/
theorem ContainsFunc_ok {w : World} {v : Value} {l : List UInt8} {K : Value → World → Prop} (hv : Bytes w v l) (hl : l.length ≤ 1000000000) (hk : K (.bool (l.any (· != 0))) w) :
    Runs Tryz.prog F_slices_ContainsFunc_byte_byte #[v, .func (.func F_frame_Take_1) #[] #[]] w K := by
  refine c_slices_ContainsFunc_byte_byte ?_
  unfold H_slices_ContainsFunc_byte_byte
  (with_reducible refine cf ?_)
  refine c_slices_IndexFunc_byte_byte ?_
  unfold H_slices_IndexFunc_byte_byte
  refine l_view hv ?_
  refine ⟨fun i wr => ∃ j : Nat, i = .int .i64 j ∧ j ≤ l.length ∧ w = wr ∧ l.any (· != 0) = (l.drop j).any (· != 0), fun i _ => match i with | .int _ n => l.length - n.toNat | _ => 0,
    ⟨0, rfl, by omega, rfl, rfl⟩, ?_⟩
  rintro _ _ ⟨j, rfl, hj, rfl, he⟩
  (with_reducible refine b_lss ?_)
  refine cnd (fun h => ?_) (fun h => ?_)
  · have hjl : j < l.length := by omega
    refine bidx hv j rfl hjl fun p _ hp => ?_
    refine ld hp ?_
    rw [List.drop_eq_getElem_cons hjl, List.any_cons] at he
    ((with_reducible refine cv ?_); simp only [List.append_toArray, List.nil_append, List.cons_append, List.append_nil])
    refine c_frame_Take_1 ?_
    unfold H_frame_Take_1
    (with_reducible refine b_neq ?_)
    refine cnd (fun h1 => ?_) (fun h1 => ?_)
    · (with_reducible refine b_geq ?_)
      have hb : (l[j] != 0) = true := by
        rw [bne_iff_ne]
        intro e
        rw [e] at h1
        exact h1 rfl
      rw [he, hb, Bool.true_or] at hk
      rw [decide_eq_true (by omega)]
      exact hk
    · (with_reducible refine b_add (by (first | (unfold I64; omega) | omega)) ?_)
      have hb : (l[j] != 0) = false := by
        rw [bne_eq_false_iff_eq]
        exact UInt8.toNat_inj.1 (by simp at h1; simpa using h1)
      rw [hb, Bool.false_or] at he
      exact ⟨⟨j + 1, by simp, by omega, rfl, he⟩, by simp only []; omega⟩
  · (with_reducible refine b_geq ?_)
    rw [he, List.drop_eq_nil_of_le (by omega)] at hk
    exact hk

/-- bytes as a frame lays them: a mark ahead of each piece of 31 -/
def lay : List UInt8 → Nat → List UInt8
  | [], _ => []
  | c :: r, k => (if k % 31 = 0 then [178] else []) ++ c :: lay r (k + 1)
theorem lay_length_le (l : List UInt8) : ∀ k, (lay l k).length ≤ 2 * l.length := by
  induction l with
  | nil => intro k; simp [lay]
  | cons c r ih => intro k; have := ih (k + 1); simp only [lay, List.length_append, List.length_cons]; split <;> simp <;> omega
theorem lay_append (a : List UInt8) : ∀ (b : List UInt8) (k : Nat), lay (a ++ b) k = lay a k ++ lay b (k + a.length) := by
  induction a with
  | nil => intro b k; simp [lay]
  | cons c r ih => intro b k; simp only [List.cons_append, lay, ih, List.length_cons, List.append_assoc]; rw [show k + 1 + r.length = k + (r.length + 1) by omega]

/-- what the closure of Put holds -/
structure Out (w : World) (bo ba : Nat) (u : Value) (o : List UInt8) (k : Nat) : Prop where
  ob : Box w bo T_s_uint8 #[u]
  ab : Box w ba T_int #[.int .i64 k]
  own : Own w u T_uint8 1 (B8 o)
  ne : bo ≠ ba
  no : ∀ i, foot u i → i ≠ bo ∧ i ≠ ba
theorem lay_ok {w : World} {bo ba k : Nat} {u v : Value} {o l : List UInt8} {K : Value → World → Prop} (h : Out w bo ba u o k) (hv : Bytes w v l) (hd : ∀ i, foot v i → i ≠ bo ∧ i ≠ ba ∧ ¬ foot u i) (hl : o.length + 2 * l.length ≤ 900000000) (hkk : k ≤ 1000000000)
    (hk : ∀ u' w', Out w' bo ba u' (o ++ lay l k) (k + l.length) → Step (fun i => i = bo ∨ i = ba ∨ foot u i) w w' → (∀ i, foot u' i → foot u i ∨ w.heap.size ≤ i) → K (.tuple #[]) w') :
    Runs Tryz.prog F_frame_Put_1 #[v, .pointer (some ⟨ba, 0, none⟩), .pointer (some ⟨bo, 0, none⟩)] w K := by
  refine c_frame_Put_1 ?_
  unfold H_frame_Put_1
  refine l_view hv ?_
  refine ⟨fun i wr => ∃ (j : Nat) (u1 : Value) (o1 : List UInt8), i = .int .i64 j ∧ j ≤ l.length ∧ Out wr bo ba u1 o1 (k + j) ∧ o1.length ≤ o.length + 2 * j ∧ o1 ++ lay (l.drop j) (k + j) = o ++ lay l k ∧ Step (fun i => i = bo ∨ i = ba ∨ foot u i) w wr ∧ (∀ i, foot u1 i → foot u i ∨ w.heap.size ≤ i), fun i _ => match i with | .int _ n => l.length - n.toNat | _ => 0,
    ⟨0, u, o, rfl, by omega, h, by omega, rfl, Step.refl _ _, fun i hi => .inl hi⟩, ?_⟩
  rintro _ wr ⟨j, u1, o1, rfl, hj, ho, hol, he, hs, hf⟩
  have hv1 : Bytes wr v l := hv.step hs fun i hi => by have := hd i hi; simp only [not_or]; exact ⟨this.1, this.2.1, this.2.2⟩
  (with_reducible refine b_lss ?_)
  refine cnd (fun h1 => ?_) (fun h1 => ?_)
  · have hjl : j < l.length := by omega
    refine bidx hv1 j rfl hjl fun p _ hp => ?_
    refine ld hp ?_
    rw [List.drop_eq_getElem_cons hjl, lay] at he
    intro J1 hJ1
    -- what stands behind the mark
    have step1 : ∀ u2 o2 w2, Out w2 bo ba u2 o2 (k + j) → o2.length ≤ o.length + 2 * j + 1 → o2 ++ (l[j] :: lay (l.drop (j + 1)) (k + j + 1)) = o ++ lay l k → Step (fun i => i = bo ∨ i = ba ∨ foot u i) w w2 → (∀ i, foot u2 i → foot u i ∨ w.heap.size ≤ i) → J1 w2 := by
      intro u2 o2 w2 g gl ge gs gf
      refine hJ1 _ ?_
      (with_reducible refine ldB g.ob (by (simp only [List.getElem?_toArray, List.getElem?_cons_succ, List.getElem?_cons_zero]; rfl)) ?_)
      (with_reducible refine bs1 rfl ?_)
      refine app8 (news := [l[j]]) (g.own.alloc _) (ASrc.of_view (View.one _ _ _)) (by simp; omega) fun u3 w3 h3 h4 => ?_
      have n3 : ∀ i, (fun i => foot u2 i) i → i ≠ bo ∧ i ≠ ba := g.no
      refine stB ((g.ob.alloc _).step h4.step fun x => (g.no _ x).1 rfl) (by simp) h3.shape1 fun w4 h5 h6 => ?_
      have hba3 : Box w3 ba T_int #[.int .i64 ((k + j : Nat) : Int)] := (g.ab.alloc _).step h4.step fun x => (g.no _ x).2 rfl
      have hba : Box w4 ba T_int #[.int .i64 ((k + j : Nat) : Int)] := hba3.step h6 fun x => g.ne x.symm
      (with_reducible refine ldB hba (by (simp only [List.getElem?_toArray, List.getElem?_cons_succ, List.getElem?_cons_zero]; rfl)) ?_)
      (with_reducible refine b_add (by (first | (unfold I64; omega) | omega)) ?_)
      refine stB hba (by simp) rfl fun w5 h7 h8 => ?_
      (with_reducible refine b_add (by (first | (unfold I64; omega) | omega)) ?_)
      have sz : w2.heap.size ≤ w3.heap.size := Nat.le_trans (by simp) h4.step.size
      have f3 : ∀ i, foot u3 i → i ≠ bo ∧ i ≠ ba := fun i hi => (h4.grow i hi).elim (g.no i) fun h9 => by
        have b1 := g.ob.lt
        have b2 := g.ab.lt
        simp at h9
        omega
      refine ⟨⟨j + 1, u3, o2 ++ [l[j]], by simp, by omega, ⟨?_, ?_, ?_, g.ne, f3⟩, by simp; omega, by rw [← ge, ← Nat.add_assoc]; simp, ?_, ?_⟩, by simp only []; omega⟩
      · exact h5.step h8 fun x => g.ne x
      · have e : ((k + j : Nat) : Int) + 1 = ((k + (j + 1) : Nat) : Int) := by omega
        rw [← e]
        exact h7
      · exact (h3.step h6 fun i hi => (f3 i hi).1).step h8 fun i hi => (f3 i hi).2
      · refine (((gs.alloc _).trans h4.step fun i hi => ?_).trans h6 fun i hi => .inl (.inl hi)).trans h8 fun i hi => .inl (.inr (.inl hi))
        exact (gf i hi).elim (fun x => .inl (.inr (.inr x))) .inr
      · intro i hi
        exact (h4.grow i hi).elim (gf i) fun h9 => .inr (by simp at h9; have := gs.size; omega)
    (with_reducible refine ldB ho.ab (by (simp only [List.getElem?_toArray, List.getElem?_cons_succ, List.getElem?_cons_zero]; rfl)) ?_)
    (with_reducible refine b_rem (by omega) (by omega) ?_); (with_reducible refine b_eql ?_)
    refine cnd (fun h2 => ?_) (fun h2 => ?_)
    · rw [if_pos (by omega)] at he
      (with_reducible refine ldB ho.ob (by (simp only [List.getElem?_toArray, List.getElem?_cons_succ, List.getElem?_cons_zero]; rfl)) ?_)
      (with_reducible refine bs1 rfl ?_)
      refine app8 (news := [178]) (ho.own.alloc _) (ASrc.of_view (View.one _ _ _)) (by simp; omega) fun u3 w3 h3 h4 => ?_
      refine stB ((ho.ob.alloc _).step h4.step fun x => (ho.no _ x).1 rfl) (by simp) h3.shape1 fun w4 h5 h6 => ?_
      have f3 : ∀ i, foot u3 i → i ≠ bo ∧ i ≠ ba := fun i hi => (h4.grow i hi).elim (ho.no i) fun h9 => by
        have b1 := ho.ob.lt
        have b2 := ho.ab.lt
        simp at h9
        omega
      refine step1 u3 (o1 ++ [178]) w4 ⟨h5, ?_, h3.step h6 fun i hi => (f3 i hi).1, ho.ne, f3⟩ (by simp; omega) (by rw [← he]; simp) ?_ ?_
      · exact ((ho.ab.alloc _).step h4.step fun x => (ho.no _ x).2 rfl).step h6 fun x => ho.ne x.symm
      · refine ((hs.alloc _).trans h4.step fun i hi => ?_).trans h6 fun i hi => .inl (.inl hi)
        exact (hf i hi).elim (fun x => .inl (.inr (.inr x))) .inr
      · intro i hi
        exact (h4.grow i hi).elim (hf i) fun h9 => .inr (by simp at h9; have := hs.size; omega)
    · rw [if_neg (by omega)] at he
      exact step1 u1 o1 wr ho (by omega) he hs hf
  · have e : j = l.length := by omega
    subst e
    rw [List.drop_length, lay, List.append_nil] at he
    subst he
    exact hk _ _ ho hs hf

/-! ### a frame -/
def hd (q : Nat) (body : List UInt8) : List UInt8 := le q 8 ++ le body.length 4
def head (q : Nat) (body : List UInt8) : List UInt8 := hd q body ++ le (crc (hd q body)) 4
def content (q : Nat) (body : List UInt8) : List UInt8 := head q body ++ body ++ le (crc (head q body ++ body)) 4
def padded (q : Nat) (body : List UInt8) : List UInt8 := content q body ++ List.replicate ((31 - (content q body).length % 31) % 31) 0
def frame (q : Nat) (body : List UInt8) : List UInt8 := (lay (padded q body) 0).set 0 161
theorem head_length (q : Nat) (body : List UInt8) : (head q body).length = 16 := by simp [head, hd]
theorem content_length (q : Nat) (body : List UInt8) : (content q body).length = body.length + 20 := by simp [content, head_length]; omega

theorem fPut_ok {w : World} {v b : Value} {l body : List UInt8} {q : Nat} {K : Value → World → Prop} (hv : Bytes w v l) (hb : Bytes w b body) (hl : l.length ≤ 800000000) (hbl : body.length ≤ 1000000000)
    (h1 : l.length % 32 ≠ 0 → K (.tuple #[.slice none 0 0, .int .i64 2]) w)
    (h2 : l.length % 32 = 0 → 65536 < body.length → K (.tuple #[.slice none 0 0, .int .i64 40]) w)
    (h3 : l.length % 32 = 0 → body.length ≤ 65536 → ∀ v' w', Own w' v' T_uint8 1 (B8 (l ++ frame q body)) → Made w w' v' → K (.tuple #[v', .int .i64 0]) w') :
    Runs Tryz.prog F_frame_Put #[v, .int .u64 q, b] w K := by
  refine c_frame_Put ?_
  unfold H_frame_Put
  refine l_view hv ?_
  (with_reducible refine b_rem (by omega) (by omega) ?_); (with_reducible refine b_neq ?_)
  refine cnd (fun h => h1 (by omega)) (fun h => ?_)
  have h32 : l.length % 32 = 0 := by omega
  refine l_view hb ?_
  (with_reducible refine b_gtr ?_)
  refine cnd (fun h => h2 h32 (by omega)) (fun h => ?_)
  have hb6 : body.length ≤ 65536 := by omega
  have hk := h3 h32 hb6
  clear h1 h2 h3
  (with_reducible refine cf ?_); refine Clone_ok hv (by omega) fun u1 wa ho1 hm1 => ?_
  -- the two variables
  (with_reducible refine al ?_)
  have ho1b := ho1.alloc (.cells (Value.slice none 0 0).cells T_s_uint8)
  refine stB (Box.new wa _ _) (by decide) ho1.shape1 fun wb hbo hsb => ?_
  have hlt1 : ∀ i, foot u1 i → i < wa.heap.size := ho1.lt
  have ho2 := ho1b.step hsb fun i hi => by have := hlt1 i hi; omega
  (with_reducible refine al ?_)
  refine stB (Box.new wb _ _) (by decide) rfl fun wc hba hsc => ?_
  have szb : wa.heap.size < wb.heap.size := by have := hsb.size; simp at this; omega
  have szc : wb.heap.size < wc.heap.size := by have := hsc.size; simp at this; omega
  have out0 : Out wc wa.heap.size wb.heap.size u1 l 0 := ⟨(hbo.alloc _).step hsc fun x => by omega, hba, (ho2.alloc _).step hsc fun i hi => by have := hlt1 i hi; omega, by omega, fun i hi => by have := hlt1 i hi; omega⟩
  have stc : Step None' w wc := ((hm1.step.alloc _).then_new hsb fun i hi => by have := hm1.step.size; omega).alloc _ |>.then_new hsc fun i hi => by have := hm1.step.size; omega
  have hu1 : ∀ i, foot u1 i → i < wb.heap.size := fun i hi => by have := hlt1 i hi; omega
  -- the head
  (with_reducible refine cf ?_); refine fnumber_ok (l := []) (s := 8) (Own.nil _ _ _) (by omega) (by simp) fun g1 wd hg1 ht1 => ?_
  refine l_view (hb.step (stc.then_none ht1.made_nil.step) fun _ _ x => x) ?_
  (with_reducible refine cvK (inU64 (by omega)) ?_)
  (with_reducible refine cf ?_); refine fnumber_ok (s := 4) hg1 (by omega) (by simp) fun g2 we hg2 ht2 => ?_
  have hm2 : Made wc we g2 := ht1.made_nil.turn ht2
  rw [List.nil_append] at hg2
  change Own we g2 _ _ (B8 (hd q body)) at hg2
  refine bs1 hg2.shape1 ?_
  (with_reducible refine cf ?_); refine Crc_ok (BRows.one hg2.bytes _) (by simp) (by simp [hd]) ?_
  rw [List.flatten_singleton]
  have hc1 := crc_lt (hd q body)
  (with_reducible refine cvK (inU64 (by omega)) ?_)
  (with_reducible refine cf ?_); refine fnumber_ok (s := 4) (hg2.alloc _) (by omega) (by simp [hd]) fun g3 wf hg3 ht3 => ?_
  change Own wf g3 _ _ (B8 (head q body)) at hg3
  have hm3 : Made wc wf g3 := (hm2.then_step ((Step.refl _ _).alloc _)).turn ht3
  have out1 : Out wf wa.heap.size wb.heap.size u1 l 0 := ⟨out0.ob.step hm3.step fun x => x, out0.ab.step hm3.step fun x => x, out0.own.step hm3.step fun _ _ x => x, out0.ne, out0.no⟩
  ((with_reducible refine cv ?_); simp only [List.append_toArray, List.nil_append, List.cons_append, List.append_nil])
  refine lay_ok out1 hg3.bytes (fun i hi => by have := hm3.new i hi; exact ⟨by omega, by omega, fun x => by have := hu1 i x; omega⟩) (by rw [head_length]; omega) (by omega) fun u2 wg out2 st2 gr2 => ?_
  have hm4 : Step None' w wg := (stc.then_none hm3.step).then_new st2 fun i hi => by
    rcases hi with rfl | rfl | hi
    · have := hm1.step.size; omega
    · have := hm1.step.size; omega
    · exact hm1.new i hi
  have gg3 : Own wg g3 T_uint8 1 (B8 (head q body)) := hg3.step st2 fun i hi => by
    have := hm3.new i hi
    simp only [not_or]
    exact ⟨by omega, by omega, fun x => by have := hu1 i x; omega⟩
  -- the body
  ((with_reducible refine cv ?_); simp only [List.append_toArray, List.nil_append, List.cons_append, List.append_nil])
  refine lay_ok out2 (hb.step hm4 fun _ _ x => x) (fun i hi => by
    have h5 := View.lt hb i hi
    have h6 := hm1.step.size
    exact ⟨by omega, by omega, fun x => (gr2 i x).elim (fun y => by have := hm1.new i y; omega) fun y => by have := hm3.step.size; omega⟩) (by simp only [List.length_append]; have := lay_length_le (head q body) 0; rw [head_length] at this; omega) (by rw [head_length]; omega) fun u3 wh out3 st3 gr3 => ?_
  have hm5 : Step None' w wh := hm4.then_new st3 fun i hi => by
    have h6 := hm1.step.size
    have h7 := hm3.step.size
    rcases hi with rfl | rfl | hi
    · omega
    · omega
    · exact (gr2 i hi).elim (hm1.new i) fun y => by omega
  have gh3 : Own wh g3 T_uint8 1 (B8 (head q body)) := gg3.step st3 fun i hi => by
    have h8 := hm3.new i hi
    have h9 := hg3.lt i hi
    simp only [not_or]
    exact ⟨by omega, by omega, fun x => (gr2 i x).elim (fun y => by have := hu1 i y; omega) fun y => by omega⟩
  have hbh : Bytes wh b body := hb.step hm5 fun _ _ x => x
  refine bs2 gh3.shape1 hbh.oneCell ?_
  (with_reducible refine cf ?_); refine Crc_ok (BRows.two gh3.bytes hbh _) (by simp) (by
    intro x hx
    simp at hx
    rcases hx with rfl | rfl
    · rw [head_length]; omega
    · omega) ?_
  have ef : ([head q body, body] : List (List UInt8)).flatten = head q body ++ body := by simp
  rw [ef]
  have hc2 := crc_lt (head q body ++ body)
  (with_reducible refine cvK (inU64 (by omega)) ?_)
  (with_reducible refine cf ?_); refine fnumber_ok (l := []) (s := 4) (Own.nil _ _ _) (by omega) (by simp) fun g4 wi hg4 ht4 => ?_
  rw [List.nil_append] at hg4
  have hm6 : Step None' wh wi := ((Step.refl None' wh).alloc _).then_none ht4.made_nil.step
  have hn6 : ∀ i, foot g4 i → wh.heap.size < i + 1 := fun i hi => by have := ht4.made_nil.new i hi; simp at this; omega
  have out4 : Out wi wa.heap.size wb.heap.size u3 _ _ := ⟨out3.ob.step hm6 fun x => x, out3.ab.step hm6 fun x => x, out3.own.step hm6 fun _ _ x => x, out3.ne, out3.no⟩
  ((with_reducible refine cv ?_); simp only [List.append_toArray, List.nil_append, List.cons_append, List.append_nil])
  refine lay_ok out4 hg4.bytes (fun i hi => by
    have h5 := hn6 i hi
    have h6 := out3.ob.lt
    have h7 := out3.ab.lt
    exact ⟨by omega, by omega, fun x => by have := out3.own.lt i x; omega⟩) (by
      simp only [List.length_append, le_length]
      have e1 := lay_length_le (head q body) 0
      have e2 := lay_length_le body (0 + (head q body).length)
      rw [head_length] at e1 e2
      rw [head_length]
      omega) (by rw [head_length]; omega) fun u4 wj out5 st5 gr5 => ?_
  have hnew4 : ∀ i, foot u3 i → w.heap.size ≤ i := fun i hi => by
    have h6 := hm1.step.size
    have h7 := hm3.step.size
    have h8 := hm4.size
    exact (gr3 i hi).elim (fun x => (gr2 i x).elim (hm1.new i) fun y => by omega) fun y => by omega
  have hm7 : Step None' w wj := (hm5.then_none hm6).then_new st5 fun i hi => by
    have h6 := hm1.step.size
    rcases hi with rfl | rfl | hi
    · omega
    · omega
    · exact hnew4 i hi
  have hnew5 : ∀ i, foot u4 i → w.heap.size ≤ i := fun i hi => (gr5 i hi).elim (hnew4 i) fun y => by have := hm5.size; have := hm6.size; omega
  have ec : l ++ lay (head q body) 0 ++ lay body (0 + (head q body).length) ++ lay (le (crc (head q body ++ body)) 4) (0 + (head q body).length + body.length) = l ++ lay (content q body) 0 := by
    rw [content, lay_append, lay_append, List.append_assoc, List.append_assoc, List.append_assoc, List.length_append, Nat.zero_add, Nat.zero_add]
  have ek : 0 + (head q body).length + body.length + (le (crc (head q body ++ body)) 4).length = (content q body).length := by rw [content]; simp; omega
  rw [ec, ek] at out5
  have hcl := content_length q body
  -- zeros
  refine ⟨fun wr => ∃ (z : Nat) (u : Value), z ≤ (31 - (content q body).length % 31) % 31 ∧ Out wr wa.heap.size wb.heap.size u (l ++ lay (content q body ++ List.replicate z 0) 0) ((content q body).length + z) ∧ Step None' w wr ∧ (∀ i, foot u i → w.heap.size ≤ i), fun wr => match wr.cell? ⟨wb.heap.size, 0, none⟩ with | some (.int _ n) => (31 - n.toNat % 31) % 31 | _ => 0,
    ⟨0, u4, by omega, by simpa using out5, hm7, hnew5⟩, ?_⟩
  rintro wr ⟨z, u, hz, ho, hs, hn⟩
  have hll := lay_length_le (content q body ++ List.replicate z 0) 0
  rw [List.length_append, List.length_replicate] at hll
  (with_reducible refine ldB ho.ab (by (simp only [List.getElem?_toArray, List.getElem?_cons_succ, List.getElem?_cons_zero]; rfl)) ?_)
  (with_reducible refine b_rem (by omega) (by omega) ?_); (with_reducible refine b_neq ?_)
  refine cnd (fun h => ?_) (fun h => ?_)
  · (with_reducible refine bs1 rfl ?_)
    ((with_reducible refine cv ?_); simp only [List.append_toArray, List.nil_append, List.cons_append, List.append_nil])
    have hv0 : Bytes (wr.alloc (.cells #[.int .u8 0] T_uint8)) (.slice (some ⟨wr.heap.size, 0, none⟩) 1 1) [0] := View.one _ _ _
    have oz : Out (wr.alloc (.cells #[.int .u8 0] T_uint8)) wa.heap.size wb.heap.size u _ _ := ⟨ho.ob.alloc _, ho.ab.alloc _, ho.own.alloc _, ho.ne, ho.no⟩
    refine lay_ok oz hv0 (fun i hi => by
      have h5 : wr.heap.size ≤ i := foot_new wr _ _ _ i hi
      have h6 := ho.ob.lt
      have h7 := ho.ab.lt
      exact ⟨by omega, by omega, fun x => by have := ho.own.lt i x; omega⟩) (by simp only [List.length_append, List.length_singleton]; omega) (by omega) fun u6 wk out6 st6 gr6 => ?_
    have e6 : l ++ lay (content q body ++ List.replicate z 0) 0 ++ lay [0] ((content q body).length + z) = l ++ lay (content q body ++ List.replicate (z + 1) 0) 0 := by
      have e : content q body ++ List.replicate (z + 1) 0 = (content q body ++ List.replicate z 0) ++ [0] := by rw [List.replicate_succ', List.append_assoc]
      rw [e, lay_append _ [0], List.append_assoc, List.length_append, List.length_replicate, Nat.zero_add]
    rw [e6] at out6
    refine ⟨⟨z + 1, u6, by omega, out6, ?_, ?_⟩, ?_⟩
    · refine (hs.alloc _).then_new st6 fun i hi => ?_
      have h6 := hm1.step.size
      rcases hi with rfl | rfl | hi
      · omega
      · omega
      · exact hn i hi
    · intro i hi
      exact (gr6 i hi).elim (hn i) fun y => by have := hs.size; simp at y; omega
    · have c1 : wk.cell? ⟨wb.heap.size, 0, none⟩ = some (.int .i64 (((content q body).length + z + 1 : Nat) : Int)) := Box.cell out6.ab rfl
      have c2 : wr.cell? ⟨wb.heap.size, 0, none⟩ = some (.int .i64 (((content q body).length + z : Nat) : Int)) := Box.cell ho.ab rfl
      simp only [c1, c2, Int.toNat_natCast]
      omega
  · have hz0 : (content q body).length + z = (content q body).length + (31 - (content q body).length % 31) % 31 := by omega
    have hz1 : z = (31 - (content q body).length % 31) % 31 := by omega
    subst hz1
    (with_reducible refine ldB ho.ob (by (simp only [List.getElem?_toArray, List.getElem?_cons_succ, List.getElem?_cons_zero]; rfl)) ?_)
    have hvr : Bytes wr v l := hv.step hs fun _ _ x => x
    refine l_view hvr ?_
    have hpos : 0 < (lay (padded q body) 0).length := by
      rw [padded]
      cases hc : content q body ++ List.replicate ((31 - (content q body).length % 31) % 31) 0 with
      | nil => have e := congrArg List.length hc; rw [List.length_append, List.length_nil] at e; omega
      | cons c r => simp [lay]
    change Out wr wa.heap.size wb.heap.size u (l ++ lay (padded q body) 0) _ at ho
    have hlt : l.length < (l ++ lay (padded q body) 0).length := by rw [List.length_append]; omega
    refine Own.set8 ho.own l.length hlt rfl fun p hp hset => ?_
    obtain ⟨⟨v0, hp0⟩, hpf, hpo⟩ := hset wr 161 ho.own
    refine st hp0 hpf rfl ?_
    have hbox : Box (wr.setCell p (.int .u8 161)) wa.heap.size T_s_uint8 #[u] := ho.ob.step ((Step.refl (fun i => i = p.block) wr).setCell (.inl rfl) _) fun x => (ho.no _ hp).1 x.symm
    (with_reducible refine ldB hbox (by (simp only [List.getElem?_toArray, List.getElem?_cons_succ, List.getElem?_cons_zero]; rfl)) ?_)
    refine hk _ _ ?_ ⟨hs.setCell (.inr (hn _ hp)) _, hn⟩
    have e7 : (l ++ lay (padded q body) 0).set l.length 161 = l ++ frame q body := by
      rw [List.set_append_right _ _ (Nat.le_refl _), Nat.sub_self]; rfl
    rw [← e7]
    exact hpo
end Go.Proofs.VvS

namespace Go.Proofs.VvS
open Go Go.Proofs Vv Go.RowKit

theorem tl_lt' {l : List UInt8} : ∀ {i n : Nat}, n < 2 ^ (8 * i) → i + l.length ≤ 8 → tl l i n < 2 ^ (8 * (i + l.length)) := by
  induction l with
  | nil => intro i n h _; simpa [tl] using h
  | cons c r ih =>
    intro i n h h8
    simp only [List.length_cons] at h8 ⊢
    have e : i + (r.length + 1) = (i + 1) + r.length := by omega
    rw [tl, e]
    refine ih ?_ (by omega)
    refine Nat.or_lt_two_pow (Nat.lt_of_lt_of_le h (Nat.pow_le_pow_right (by omega) (by omega))) ?_
    refine Nat.lt_of_le_of_lt (Nat.mod_le _ _) ?_
    have := c.toNat_lt
    rw [Nat.mul_add, Nat.pow_add, Nat.mul_comm (2 ^ (8 * i))]
    exact Nat.mul_lt_mul_of_pos_right (by omega) (Nat.two_pow_pos _)
theorem told_lt4 {l : List UInt8} (h : l.length ≤ 4) : told l < 4294967296 := by
  have := tl_lt' (l := l) (i := 0) (n := 0) (by decide) (by omega)
  refine Nat.lt_of_lt_of_le this ?_
  have e : 8 * (0 + l.length) ≤ 32 := by omega
  have := Nat.pow_le_pow_right (n := 2) (by decide) e
  exact this

/-- the pieces of so many blocks -/
def gath (l : List UInt8) (a : Nat) : Nat → Nat → Option (List UInt8)
  | 0, _ => some []
  | k + 1, j => if 0 < j ∧ l[a + 32 * j]? ≠ some 178 then none else (gath l a k (j + 1)).map (((l.take (a + 32 * j + 32)).drop (a + 32 * j + 1)) ++ ·)
def fhead (l : List UInt8) (a : Nat) : List UInt8 := (l.take (a + 17)).drop (a + 1)
def fsize (l : List UInt8) (a : Nat) : Nat := told (((fhead l a).take 12).drop 8)
def fbad (l : List UInt8) (a : Nat) : Prop := l[a]? ≠ some 161 ∨ told (((fhead l a).take 16).drop 12) ≠ crc ((fhead l a).take 12) ∨ 65536 < fsize l a ∨ l.length < a + blocks (fsize l a) * 32
instance (l : List UInt8) (a : Nat) : Decidable (fbad l a) := by unfold fbad; infer_instance
def fwrong (s : List UInt8) (n : Nat) : Prop := told ((s.take (16 + n + 4)).drop (16 + n)) ≠ crc (s.take (16 + n)) ∨ (s.drop (16 + n + 4)).any (· != 0) = true
instance (s : List UInt8) (n : Nat) : Decidable (fwrong s n) := by unfold fwrong; infer_instance
/-- the frame at a place -/
def ftake (l : List UInt8) (a : Int) : Option (Nat × List UInt8 × Nat) :=
  if a < 0 ∨ a % 32 ≠ 0 ∨ (l.length : Int) - 32 < a then none
  else if fbad l a.toNat then none
  else match gath l a.toNat (blocks (fsize l a.toNat)) 0 with
    | none => none
    | some s => if fwrong s (fsize l a.toNat) then none
      else some (told ((fhead l a.toNat).take 8), (s.take (16 + fsize l a.toNat)).drop 16, a.toNat + blocks (fsize l a.toNat) * 32)
def ftVal (r : Option (Nat × List UInt8 × Nat)) (u : Value) : Value := match r with
  | none => .tuple #[.int .u64 0, .slice none 0 0, .int .i64 0, .bool false]
  | some (q, _, e) => .tuple #[.int .u64 q, u, .int .i64 e, .bool true]

theorem fTake_ok {w : World} {v : Value} {l : List UInt8} {a : Int} {K : Value → World → Prop} (hv : Bytes w v l) (hl : l.length ≤ 1000000000)
    (hk : ∀ u w', Step None' w w' → (∀ q body e, ftake l a = some (q, body, e) → Own w' u T_uint8 1 (B8 body) ∧ Made w w' u) → K (ftVal (ftake l a) u) w') :
    Runs Tryz.prog F_frame_Take #[v, .int .i64 a] w K := by
  have hnone : ∀ w', Step None' w w' → ftake l a = none → K (.tuple #[.int .u64 0, .slice none 0 0, .int .i64 0, .bool false]) w' := fun w' hs hn => by
    have := hk (.slice none 0 0) w' hs (by rw [hn]; nofun)
    rw [hn] at this
    exact this
  refine c_frame_Take ?_
  unfold H_frame_Take
  intro J hJ
  have Jt : (a < 0 ∨ a % 32 ≠ 0 ∨ (l.length : Int) - 32 < a) → J (.bool true) w := fun h => hJ _ _ (Cond_t (hnone w (Step.refl _ _) (by rw [ftake, if_pos h])))
  (with_reducible refine b_lss ?_)
  refine gt_f (fun h0 => ?_) (fun h0 => Jt (.inl h0))
  (with_reducible refine b_rem (by omega) (by omega) ?_); (with_reducible refine b_neq ?_)
  refine gt_f (fun h1 => ?_) (fun h1 => Jt (.inr (.inl h1)))
  refine l_view hv ?_
  (with_reducible refine b_sub (by (first | (unfold I64; omega) | omega)) ?_); (with_reducible refine b_gtr ?_)
  by_cases h2 : (l.length : Int) - 32 < a
  · rw [decide_eq_true h2]; exact Jt (.inr (.inr h2))
  rw [decide_eq_false h2]
  clear Jt
  refine hJ _ _ (Cond_f ?_)
  obtain ⟨a', rfl⟩ := Int.eq_ofNat_of_zero_le (show 0 ≤ a by omega)
  have hft : ftake l a' = if fbad l a' then none
      else match gath l a' (blocks (fsize l a')) 0 with
        | none => none
        | some s => if fwrong s (fsize l a') then none
          else some (told ((fhead l a').take 8), (s.take (16 + fsize l a')).drop 16, a' + blocks (fsize l a') * 32) := by
    rw [ftake, if_neg (by omega)]; rfl
  generalize hh : fhead l a' = h at *
  have hhl : h.length = 16 := by rw [← hh, fhead]; simp; omega
  (with_reducible refine b_add (by (first | (unfold I64; omega) | omega)) ?_); (with_reducible refine b_add (by (first | (unfold I64; omega) | omega)) ?_); (with_reducible refine b_add (by (first | (unfold I64; omega) | omega)) ?_)
  refine bslice hv (a' + 1) (a' + 17) (lowI (by omega)) (highI (by omega)) (by omega) (by omega) fun t35 hb35 _ => ?_
  have hb35' : ∀ w', Bytes w' v l → Bytes w' t35 h := fun w' hw => by have := hb35 w' hw; rw [← hh]; exact this
  refine bslice (hb35' _ hv) 8 12 (lowI rfl) (highI rfl) (by omega) (by omega) fun t37 hb37 _ => ?_
  (with_reducible refine cf ?_); refine told_ok (hb37 _ (hb35' _ hv)) (by simp; omega) ?_
  have hfs : fsize l a' = told ((h.take 12).drop 8) := by rw [fsize, hh]
  generalize hn : told ((h.take 12).drop 8) = n at *
  have hn4 : n < 4294967296 := by rw [← hn]; exact told_lt4 (by simp; omega)
  (with_reducible refine cvK (in64 (by (first | (unfold I64; omega) | omega))) ?_)
  intro J1 hJ1
  have J1t : ∀ w2, Step None' w w2 → fbad l a' → J1 (.bool true) w2 := fun w2 hs hb => hJ1 _ _ (Cond_t (hnone _ hs (by rw [hft, if_pos hb])))
  have J1f : ∀ w2, Step None' w w2 → ¬ fbad l a' → J1 (.bool false) w2 := by
    intro w2 hs hb
    refine hJ1 _ _ (Cond_f ?_)
    have hft2 := hft.trans (if_neg hb)
    have hnb : n ≤ 65536 ∧ a' + blocks n * 32 ≤ l.length := by
      unfold fbad at hb
      rw [hfs] at hb
      omega
    rw [hfs] at hft2
    have hB : 31 * blocks n ≥ 16 + n + 4 := by unfold blocks; omega
    generalize hBe : blocks n = B at *
    (with_reducible refine cf ?_); refine blocks_ok (by omega) ?_
    rw [hBe]
    (with_reducible refine b_mul (by (first | (unfold I64; omega) | omega)) ?_); (with_reducible refine b_add (by (first | (unfold I64; omega) | omega)) ?_)
    refine ⟨fun s i wr => ∃ (j : Nat) (s1 : List UInt8), i = .int .i64 ((a' + 32 * j : Nat) : Int) ∧ j ≤ B ∧ Own wr s T_uint8 1 (B8 s1) ∧ Made w wr s ∧ s1.length = 31 * j ∧ gath l a' B 0 = (gath l a' (B - j) j).map (s1 ++ ·), fun _ i _ => match i with | .int _ m => a' + 32 * B - m.toNat | _ => 0,
      ⟨0, [], by simp, by omega, Own.nil _ _ _, Made.of_step hs (Made.nil _), rfl, by simp⟩, ?_⟩
    rintro u _ wr ⟨j, s1, rfl, hj, ho, hm, hs1, hg⟩
    have hvr : Bytes wr v l := hv.step hm.step fun _ _ x => x
    (with_reducible refine b_lss ?_)
    refine cnd (fun h4 => ?_) (fun h4 => ?_)
    · have hjB : j < B := by omega
      have eB : B - j = (B - (j + 1)) + 1 := by omega
      rw [eB, gath] at hg
      intro J3 hJ3
      have J3t : (0 < j ∧ l[a' + 32 * j]? ≠ some 178) → J3 (.bool true) wr := fun hb3 => hJ3 _ _ (Cond_t (hnone _ hm.step (by
        rw [if_pos hb3] at hg
        rw [hft2, hg]; rfl)))
      have J3f : ¬ (0 < j ∧ l[a' + 32 * j]? ≠ some 178) → J3 (.bool false) wr := fun hb3 => hJ3 _ _ (Cond_f (by
        rw [if_neg hb3] at hg
        (with_reducible refine b_add (by (first | (unfold I64; omega) | omega)) ?_); (with_reducible refine b_add (by (first | (unfold I64; omega) | omega)) ?_)
        refine bslice hvr (a' + 32 * j + 1) (a' + 32 * j + 32) (lowI (by omega)) (highI (by omega)) (by omega) (by omega) fun x hx hxf => ?_
        refine app8 ho (ASrc.of_view (hx _ hvr)) (by simp; omega) fun u2 w3 h5 h6 => ?_
        (with_reducible refine b_add (by (first | (unfold I64; omega) | omega)) ?_)
        refine ⟨⟨j + 1, _, by congr 1, by omega, h5, hm.turn h6, ?_, ?_⟩, ?_⟩
        · simp; omega
        · rw [hg, Option.map_map]; congr 1; funext y; simp
        · simp only []; omega))
      (with_reducible refine b_gtr ?_)
      refine gt_t (fun h5 => ?_) (fun h5 => J3f (by omega))
      refine bidx hvr (a' + 32 * j) rfl (by omega) fun p _ hp => ?_
      refine ld hp ?_
      have hc : l[a' + 32 * j]? = some (l[a' + 32 * j]'(by omega)) := List.getElem?_eq_getElem (by omega)
      (with_reducible refine b_neq ?_)
      by_cases h6 : ((l[a' + 32 * j]'(by omega)).toNat : Int) ≠ 178
      · rw [decide_eq_true h6]
        refine J3t ⟨by omega, ?_⟩
        rw [hc]
        intro e
        rw [Option.some.injEq] at e
        rw [e] at h6
        exact h6 rfl
      · rw [decide_eq_false h6]
        refine J3f fun hb3 => hb3.2 ?_
        rw [hc]
        congr 1
        apply UInt8.toNat_inj.1
        have e178 : (178 : UInt8).toNat = 178 := rfl
        omega
    · have hjB : j = B := by omega
      subst hjB
      rw [Nat.sub_self, gath, Option.map_some, List.append_nil] at hg
      rw [hg] at hft2
      simp only [] at hft2
      have hns : 16 + n + 4 ≤ s1.length := by omega
      have hob := ho.bytes
      (with_reducible refine b_add (by (first | (unfold I64; omega) | omega)) ?_); (with_reducible refine b_add (by (first | (unfold I64; omega) | omega)) ?_); (with_reducible refine b_add (by (first | (unfold I64; omega) | omega)) ?_)
      refine bslice hob (16 + n) (16 + n + 4) (lowI (by omega)) (highI (by omega)) (by omega) (by omega) fun t105 h105 _ => ?_
      (with_reducible refine b_add (by (first | (unfold I64; omega) | omega)) ?_); (with_reducible refine b_add (by (first | (unfold I64; omega) | omega)) ?_)
      refine bslice hob (16 + n + 4) s1.length (lowI (by omega)) high0 (by omega) (by omega) fun t110 h110 _ => ?_
      rw [List.take_length] at h110
      intro J4 hJ4
      have J4t : ∀ w3, Step None' wr w3 → fwrong s1 n → J4 (.bool true) w3 := fun w3 h7 hw => hJ4 _ _ (Cond_t (hnone _ (hm.step.then_none h7) (by rw [hft2, if_pos hw])))
      have J4f : ∀ w3, Step None' wr w3 → ¬ fwrong s1 n → J4 (.bool false) w3 := fun w3 h7 hw => hJ4 _ _ (Cond_f (by
        have hft3 := hft2.trans (if_neg hw)
        have h8 : Step None' w w3 := hm.step.then_none h7
        refine bslice (hb35' _ (hv.step h8 fun _ _ x => x)) 0 8 low0 (highI rfl) (by omega) (by omega) fun t127 h127 _ => ?_
        simp only [List.drop_zero] at h127
        (with_reducible refine b_add (by (first | (unfold I64; omega) | omega)) ?_)
        have hob3 : Bytes w3 u s1 := hob.step h7 fun _ _ x => x
        refine bslice hob3 16 (16 + n) (lowI rfl) (highI (by omega)) (by omega) (by omega) fun t132 h132 _ => ?_
        (with_reducible refine cf ?_); refine told_ok (h127 _ (hb35' _ (hv.step h8.drew fun _ _ x => x))) (by simp; omega) ?_
        (with_reducible refine cf ?_); refine Clone_ok (h132 _ hob3.drew) (by simp; omega) fun y w4 h9 h10 => ?_
        have h11 : Made w w4 y := Made.of_step h8.drew h10
        have := hk y w4 h11.step (by
          rw [hft3]
          rintro q bd e hq
          cases hq
          exact ⟨h9, h11⟩)
        rw [hft3] at this
        have e9 : ((a' + j * 32 : Nat) : Int) = (a' : Int) + (j : Int) * 32 := by omega
        simp only [ftVal, e9] at this
        exact this))
      have fin : ∀ w3, Step None' wr w3 → told ((s1.take (16 + n + 4)).drop (16 + n)) = crc (s1.take (16 + n)) → J4 (.bool ((s1.drop (16 + n + 4)).any (· != 0))) w3 := fun w3 h7 h8 => by
        cases h9 : (s1.drop (16 + n + 4)).any (· != 0) with
        | true => exact J4t w3 h7 (.inr h9)
        | false => exact J4f w3 h7 (by unfold fwrong; rw [h9]; simp [h8])
      refine bslice (h105 _ hob) 0 4 low0 (highI rfl) (by omega) (by simp; omega) fun t112 h112 _ => ?_
      have e4 : ((((s1.take (16 + n + 4)).drop (16 + n)).take 4).drop 0) = (s1.take (16 + n + 4)).drop (16 + n) := by
        rw [List.drop_zero, List.take_of_length_le (by simp; omega)]
      rw [e4] at h112
      (with_reducible refine b_add (by (first | (unfold I64; omega) | omega)) ?_)
      refine bslice hob 0 (16 + n) low0 (highI (by omega)) (by omega) (by omega) fun t117 h117 _ => ?_
      simp only [List.drop_zero] at h117
      have hdd : Step None' wr wr.drew.drew := (Step.refl _ _).drew.drew
      have hobd := View.step hob hdd fun _ _ x => x
      have hc1 := crc_lt (s1.take (16 + n))
      have htl := told_lt ((s1.take (16 + n + 4)).drop (16 + n))
      refine ⟨?_, ?_⟩
      · (with_reducible refine cf ?_); refine told_ok (h112 _ (h105 _ hobd)) (by simp; omega) ?_
        refine bs1 (h117 _ hobd).oneCell ?_
        (with_reducible refine cf ?_); refine Crc_ok (BRows.one (h117 _ hobd) _) (by simp) (by simp; omega) ?_
        rw [List.flatten_singleton]
        have hda := hdd.alloc (.cells #[t117] T_s_uint8)
        (with_reducible refine cvKR (inU64 (by omega)) ?_); (with_reducible refine b_neq ?_)
        refine gt_f (fun h8 => ?_) (fun h8 => ?_)
        · (with_reducible refine cf ?_); refine ContainsFunc_ok (h110 _ (hob.step hda fun _ _ x => x)) (by simp; omega) ?_
          exact fin _ hda (by omega)
        · exact J4t _ hda (.inl (by omega))
      · refine bs1 (h117 _ hobd).oneCell ?_
        have hda := hdd.alloc (.cells #[t117] T_s_uint8)
        (with_reducible refine cf ?_); refine told_ok (h112 _ (h105 _ (hob.step hda fun _ _ x => x))) (by simp; omega) ?_
        (with_reducible refine cf ?_); refine Crc_ok (BRows.one (h117 _ hobd) _) (by simp) (by simp; omega) ?_
        rw [List.flatten_singleton]
        (with_reducible refine cvKR (inU64 (by omega)) ?_); (with_reducible refine b_neq ?_)
        refine gt_f (fun h8 => ?_) (fun h8 => ?_)
        · (with_reducible refine cf ?_); refine ContainsFunc_ok (h110 _ (hob.step hda fun _ _ x => x)) (by simp; omega) ?_
          exact fin _ hda (by omega)
        · exact J4t _ hda (.inl (by omega))
  refine bidx hv a' rfl (by omega) fun p _ hp => ?_
  refine ld (w := w.drew) hp ?_
  have ha : l[a']? = some (l[a']'(by omega)) := List.getElem?_eq_getElem (by omega)
  have hd0 : Step None' w w.drew := (Step.refl _ w).drew
  (with_reducible refine b_neq ?_)
  refine gt_f (fun h3 => ?_) (fun h3 => ?_)
  · refine bslice (hb35' _ hv) 12 16 (lowI rfl) (highI rfl) (by omega) (by omega) fun t47 hb47 _ => ?_
    refine bslice (hb35' _ hv) 0 12 low0 (highI rfl) (by omega) (by omega) fun t50 hb50 _ => ?_
    simp only [List.drop_zero] at hb50
    have hhd : Bytes w.drew t35 h := hb35' _ hv.drew
    have hc1 := crc_lt (h.take 12)
    have htl := told_lt ((h.take 16).drop 12)
    have hla : ((l.length : Int) - a').toNat = l.length - a' := by omega
    have fin : ∀ w3, Step None' w w3 → told ((h.take 16).drop 12) = crc (h.take 12) → n ≤ 65536 → J1 (.bool (decide ((l.length : Int) - a' < (blocks n : Int) * 32))) w3 := fun w3 h7 h8 h9 => by
      have hno1 : ¬ l[a']? ≠ some 161 := by
        rw [ha]
        intro h10
        apply h10
        congr 1
        have e161 : (161 : UInt8).toNat = 161 := rfl
        apply UInt8.toNat_inj.1
        omega
      by_cases h10 : (l.length : Int) - a' < (blocks n : Int) * 32
      · rw [decide_eq_true h10]
        exact J1t _ h7 (by unfold fbad; rw [hfs]; exact .inr (.inr (.inr (by omega))))
      · rw [decide_eq_false h10]
        refine J1f _ h7 ?_
        unfold fbad
        rw [hfs, hh]
        rintro (h11 | h11 | h11 | h11)
        · exact hno1 h11
        · exact h11 h8
        · omega
        · omega
    refine ⟨?_, ?_⟩
    · (with_reducible refine cf ?_); refine told_ok (hb47 _ hhd) (by simp; omega) ?_
      refine bs1 (hb50 _ hhd).oneCell ?_
      (with_reducible refine cf ?_); refine Crc_ok (BRows.one (hb50 _ hhd) _) (by simp) (by simp; omega) ?_
      rw [List.flatten_singleton]
      have hda := hd0.alloc (.cells #[t50] T_s_uint8)
      (with_reducible refine cvKR (inU64 (by omega)) ?_); (with_reducible refine b_neq ?_)
      refine gt_f (fun h8 => ?_) (fun h8 => ?_)
      · (with_reducible refine b_gtr ?_)
        refine gt_f (fun h9 => ?_) (fun h9 => ?_)
        · have hvd : Bytes _ v l := hv.step hda fun _ _ x => x
          refine l_view hvd ?_
          (with_reducible refine b_sub (by (first | (unfold I64; omega) | omega)) ?_)
          (with_reducible refine cf ?_); refine blocks_ok (by omega) ?_
          refine ⟨run_l_view hvd, ?_⟩
          have hbn : blocks n ≤ 3000 := by unfold blocks; omega
          (with_reducible refine b_mul (by (first | (unfold I64; omega) | omega)) ?_); (with_reducible refine b_gtr ?_)
          exact fin _ hda (by omega) (by omega)
        · exact J1t _ hda (by unfold fbad; rw [hfs]; exact .inr (.inr (.inl (by omega))))
      · exact J1t _ hda (by unfold fbad; rw [hh]; exact .inr (.inl (by omega)))
    · refine bs1 (hb50 _ hhd).oneCell ?_
      have hda := hd0.alloc (.cells #[t50] T_s_uint8)
      (with_reducible refine cf ?_); refine told_ok (hb47 _ (hb35' _ (hv.step hda fun _ _ x => x))) (by simp; omega) ?_
      (with_reducible refine cf ?_); refine Crc_ok (BRows.one (hb50 _ hhd) _) (by simp) (by simp; omega) ?_
      rw [List.flatten_singleton]
      (with_reducible refine cvKR (inU64 (by omega)) ?_); (with_reducible refine b_neq ?_)
      refine gt_f (fun h8 => ?_) (fun h8 => ?_)
      · (with_reducible refine b_gtr ?_)
        refine gt_f (fun h9 => ?_) (fun h9 => ?_)
        · have hvd : Bytes _ v l := hv.step hda fun _ _ x => x
          refine l_view hvd ?_
          (with_reducible refine b_sub (by (first | (unfold I64; omega) | omega)) ?_)
          (with_reducible refine cf ?_); refine blocks_ok (by omega) ?_
          refine ⟨run_l_view hvd, ?_⟩
          have hbn : blocks n ≤ 3000 := by unfold blocks; omega
          (with_reducible refine b_mul (by (first | (unfold I64; omega) | omega)) ?_); (with_reducible refine b_gtr ?_)
          exact fin _ hda (by omega) (by omega)
        · exact J1t _ hda (by unfold fbad; rw [hfs]; exact .inr (.inr (.inl (by omega))))
      · exact J1t _ hda (by unfold fbad; rw [hh]; exact .inr (.inl (by omega)))
  · have hbad : fbad l a' := by
      refine .inl ?_
      rw [ha]
      intro e
      rw [Option.some.injEq] at e
      rw [e] at h3
      exact h3 rfl
    exact ⟨J1t _ hd0 hbad, J1t _ hd0 hbad⟩
end Go.Proofs.VvS

namespace Go.Proofs.VvS
open Go Go.Proofs Vv Go.RowKit

theorem gath_len {l : List UInt8} {a : Nat} : ∀ {k j : Nat} {s : List UInt8}, gath l a k j = some s → True := fun _ => trivial
theorem ftake_le {l : List UInt8} {a : Int} {q e : Nat} {body : List UInt8} (h : ftake l a = some (q, body, e)) : 0 ≤ a ∧ a + 32 ≤ e ∧ e ≤ l.length ∧ e % 32 = 0 ∧ q < 2 ^ 64 ∧ body.length ≤ 65536 := by
  unfold ftake at h
  split at h
  · cases h
  · rename_i h0
    split at h
    · cases h
    · rename_i hb
      unfold fbad at hb
      cases hg : gath l a.toNat (blocks (fsize l a.toNat)) 0 with
      | none => rw [hg] at h; cases h
      | some s =>
        rw [hg] at h
        simp only [] at h
        split at h
        · cases h
        · cases h
          have : 1 ≤ blocks (fsize l a.toNat) := by unfold blocks; omega
          refine ⟨by omega, by omega, by omega, by omega, told_lt _, ?_⟩
          simp only [List.length_drop, List.length_take]
          omega

/-- the frames that follow one another: what they hold, where they end, which number comes next -/
def frames (l : List UInt8) : Nat → Nat → Nat → List (List UInt8) × Nat × Nat
  | 0, a, q => ([], a, q)
  | k + 1, a, q => match ftake l a with
    | some (s, body, e) => if s = q then (body :: (frames l k e ((q + 1) % 2 ^ 64)).1, (frames l k e ((q + 1) % 2 ^ 64)).2) else ([], a, q)
    | none => ([], a, q)
/-- does a later frame stand at a block from this place on? -/
def later (l : List UInt8) (q : Nat) : Nat → Nat → Bool
  | 0, _ => false
  | k + 1, a => if a < l.length then (match ftake l a with | some (s, _, _) => decide (q ≤ s) | none => false) || later l q k (a + 32) else false
def fall (l : List UInt8) (q : Nat) : Option (List (List UInt8) × Nat) :=
  let r := frames l (l.length / 32 + 1) 0 q
  if later l r.2.2 (l.length / 32 + 1) r.2.1 then none else some (r.1, r.2.1)

/-- a row of rows of bytes, all of them new -/
structure ORows (b : Nat) (w : World) (v : Value) (ls : List (List UInt8)) (vs : List Value) : Prop where
  own : Own w v T_s_uint8 1 vs
  len : vs.length = ls.length
  row : ∀ (j : Nat) (l : List UInt8), ls[j]? = some l → ∃ u, vs[j]? = some u ∧ Own w u T_uint8 1 (B8 l)
  new : ∀ i, foot v i → b ≤ i
  apart : ∀ u ∈ vs, ∀ i, foot u i → b ≤ i ∧ ¬ foot v i
theorem ORows.rows {b : Nat} {w : World} {v : Value} {ls : List (List UInt8)} {vs : List Value} (h : ORows b w v ls vs) : BRows w v ls := by
  obtain ⟨m, hm⟩ := h.own.view
  have e := hm.1
  rw [h.len, Nat.mul_one] at e
  subst e
  exact ⟨vs, hm, fun j l hj => (h.row j l hj).imp fun u hu => ⟨hu.1, hu.2.bytes⟩⟩

theorem ORows.step {b : Nat} {w w' : World} {v : Value} {ls : List (List UInt8)} {vs : List Value} (h : ORows b w v ls vs) (hs : Step None' w w') : ORows b w' v ls vs :=
  ⟨h.own.step hs fun _ _ x => x, h.len, fun j l hj => (h.row j l hj).imp fun u hu => ⟨hu.1, hu.2.step hs fun _ _ x => x⟩, h.new, h.apart⟩

set_option maxRecDepth 4000 in
theorem fAll_ok {w : World} {v : Value} {l : List UInt8} {q : Nat} {K : Value → World → Prop} (hv : Bytes w v l) (hl : l.length ≤ 800000000) (hq : q < 2 ^ 64)
    (h1 : fall l q = none → ∀ w', Step None' w w' → K (.tuple #[.slice none 0 0, .int .i64 0, .int .i64 41]) w')
    (h2 : ∀ ls a, fall l q = some (ls, a) → ∀ u w' vs, Step None' w w' → ORows w.heap.size w' u ls vs → K (.tuple #[u, .int .i64 a, .int .i64 0]) w') :
    Runs Tryz.prog F_frame_All #[v, .int .u64 q] w K := by
  refine c_frame_All ?_
  unfold H_frame_All
  obtain ⟨F, hF⟩ : ∃ F, F = l.length / 32 + 1 := ⟨_, rfl⟩
  refine ⟨fun u x y wr => ∃ (a k n : Nat) (ls : List (List UInt8)) (vs : List Value), x = .int .i64 a ∧ y = .int .u64 n ∧ n < 2 ^ 64 ∧ a % 32 = 0 ∧ a ≤ l.length ∧ l.length + 32 ≤ a + 32 * k + 31 ∧ k ≤ F ∧ Step None' w wr ∧ ORows w.heap.size wr u ls vs ∧ ls.length * 32 ≤ a ∧
      frames l F 0 q = (ls ++ (frames l k a n).1, (frames l k a n).2), fun _ x _ _ => match x with | .int _ m => l.length + 100 - m.toNat | _ => 0,
    ⟨0, F, q, [], [], rfl, rfl, hq, rfl, by omega, by omega, by omega, Step.refl _ _, ⟨Own.nil _ _ _, rfl, nofun, fun i hi => by simp [None'] at hi, nofun⟩, by simp, by simp⟩, ?_⟩
  rintro u _ _ wr ⟨a, k, n, ls, vs, rfl, rfl, hn, ha32, hal, hk, hkF, hs, ho, hll, hf⟩
  have hvr : Bytes wr v l := hv.step hs fun _ _ x => x
  (with_reducible refine cf ?_)
  with_reducible refine fTake_ok (a := (a : Int)) hvr (by omega) ?_
  intro x w2 hs2 hx
  have hvr2 : Bytes w2 v l := hvr.step hs2 fun _ _ x => x
  have ho2 := ho.step hs2
  have hs12 := hs.then_none hs2
  have tail : frames l k a n = ([], a, n) → ∀ w3, Step None' w w3 → ORows w.heap.size w3 u ls vs →
      ∃ (J_2 : Value → World → Prop) (M_1 : Value → World → Nat), J_2 (.int .i64 a) w3 ∧ ∀ (t13 : Value) (w_4 : World), J_2 t13 w_4 →
  BltR Tryz.prog Builtin.len #[39] 3 #[false] #[v] w_4 fun t43 =>
  Bin Tryz.prog BinOp.lss 3 false false t13 t43 fun t44 =>
  Cond t44 (
  CallF Tryz.prog F_frame_Take #[v, t13] w_4 fun t50 w_5 =>
  Pu Tryz.prog (Instr.extract t50 0) fun t51 =>
  Pu Tryz.prog (Instr.extract t50 1) fun _ =>
  Pu Tryz.prog (Instr.extract t50 2) fun _ =>
  Pu Tryz.prog (Instr.extract t50 3) fun t54 =>
  ∀ J_3 : Value → World → Prop, (∀ (t60 : Value) (w_6 : World), (
  Cond t60 (
  K (Value.tuple #[(Value.slice none 0 0), (Value.int IntKind.i64 0), (Value.int IntKind.i64 41)]) w_6) (
  Bin Tryz.prog BinOp.add 3 false true t13 (Value.int IntKind.i64 32) fun t46 =>
  J_2 t46 w_6 ∧ M_1 t46 w_6 < M_1 t13 w_4)) → J_3 t60 w_6) →
  Gate t54 true (
  Bin Tryz.prog BinOp.geq 77 false false t51 (.int .u64 n) fun t59 =>
  J_3 t59 w_5) (
  J_3 (Value.bool false) w_5)) (
  K (Value.tuple #[u, .int .i64 a, (Value.int IntKind.i64 0)]) w_4) := by
    intro hend w3 hs3 ho3
    rw [hend, List.append_nil] at hf
    have hfall : fall l q = if later l n F a then none else some (ls, a) := by rw [fall, ← hF, hf]
    refine ⟨fun x wr => ∃ p k2 : Nat, x = .int .i64 p ∧ p ≤ l.length + 100 ∧ l.length ≤ p + 32 * k2 ∧ Step None' w wr ∧ ORows w.heap.size wr u ls vs ∧ later l n F a = later l n k2 p, fun x _ => match x with | .int _ m => l.length + 200 - m.toNat | _ => 0,
      ⟨a, F, rfl, by omega, by omega, hs3, ho3, rfl⟩, ?_⟩
    rintro _ w4 ⟨p, k2, rfl, hp, hk2, hs4, ho4, hlat⟩
    have hv4 : Bytes w4 v l := hv.step hs4 fun _ _ x => x
    refine l_view hv4 ?_
    (with_reducible refine b_lss ?_)
    refine cnd (fun hlt => ?_) (fun hlt => ?_)
    · obtain ⟨k3, rfl⟩ : ∃ k3, k2 = k3 + 1 := ⟨k2 - 1, by omega⟩
      rw [later, if_pos (by omega)] at hlat
      (with_reducible refine cf ?_)
      refine fTake_ok (a := (p : Int)) hv4 (by omega) ?_
      intro y w5 hs5 hy
      have hs45 := hs4.then_none hs5
      have next : ∀ J_3 : Value → World → Prop, later l n F a = later l n k3 (p + 32) → (∀ (t60 : Value) (w_6 : World), (
          Cond t60 (K (Value.tuple #[(Value.slice none 0 0), (Value.int IntKind.i64 0), (Value.int IntKind.i64 41)]) w_6) (
          Bin Tryz.prog BinOp.add 3 false true (.int .i64 p) (Value.int IntKind.i64 32) fun t46 =>
          (∃ p k2 : Nat, t46 = .int .i64 p ∧ p ≤ l.length + 100 ∧ l.length ≤ p + 32 * k2 ∧ Step None' w w_6 ∧ ORows w.heap.size w_6 u ls vs ∧ later l n F a = later l n k2 p) ∧ (match t46 with | .int _ m => l.length + 200 - m.toNat | _ => 0) < l.length + 200 - (p : Int).toNat)) → J_3 t60 w_6) → J_3 (.bool false) w5 := by
        intro J3 he hJ3
        refine hJ3 _ _ (Cond_f ?_)
        (with_reducible refine b_add (by (first | (unfold I64; omega) | omega)) ?_)
        exact ⟨⟨p + 32, k3, by simp, by omega, by omega, hs45, ho4.step hs5, he⟩, by simp only []; omega⟩
      cases ht : ftake l p with
      | none =>
        rw [ht] at hlat
        rw [ftVal]
        (with_reducible refine ext4_0 ?_); (with_reducible refine ext4_1 ?_); (with_reducible refine ext4_2 ?_); (with_reducible refine ext4_3 ?_)
        intro J3 hJ3
        exact Gate_not rfl (next J3 (by simpa using hlat) hJ3)
      | some r =>
        obtain ⟨s, body, e⟩ := r
        rw [ht] at hlat
        rw [ftVal]
        (with_reducible refine ext4_0 ?_); (with_reducible refine ext4_1 ?_); (with_reducible refine ext4_2 ?_); (with_reducible refine ext4_3 ?_)
        intro J3 hJ3
        refine Gate_is rfl ?_
        (with_reducible refine b_geq ?_)
        by_cases hge : (n : Int) ≤ s
        · rw [decide_eq_true hge]
          refine hJ3 _ _ (Cond_t (h1 ?_ _ hs45))
          rw [hfall, hlat]
          simp [show n ≤ s by omega]
        · rw [decide_eq_false hge]
          exact next J3 (by rw [hlat]; simp [show ¬ n ≤ s by omega]) hJ3
    · refine h2 ls a ?_ u _ vs hs4 ho4
      have : later l n k2 p = false := by
        cases k2 with
        | zero => rfl
        | succ k2 => rw [later, if_neg (by omega)]
      rw [hfall, hlat, this]
      rfl
  cases ht : ftake l a with
  | none =>
    rw [ftVal]
    (with_reducible refine ext4_0 ?_); (with_reducible refine ext4_1 ?_); (with_reducible refine ext4_2 ?_); (with_reducible refine ext4_3 ?_)
    intro J1 hJ1
    (with_reducible refine unot ?_)
    refine Gate_not rfl (hJ1 _ _ (Cond_t (tail ?_ _ hs12 ho2)))
    cases k with
    | zero => rfl
    | succ k => rw [frames, ht]
  | some p =>
    obtain ⟨s, body, e⟩ := p
    obtain ⟨hle1, hle2, hle3, hle4, hsq, hbl⟩ := ftake_le ht
    obtain ⟨k, rfl⟩ : ∃ k', k = k' + 1 := ⟨k - 1, by omega⟩
    rw [ftVal]
    (with_reducible refine ext4_0 ?_); (with_reducible refine ext4_1 ?_); (with_reducible refine ext4_2 ?_); (with_reducible refine ext4_3 ?_)
    intro J1 hJ1
    (with_reducible refine unot ?_)
    refine Gate_is rfl ?_
    (with_reducible refine b_neq ?_)
    by_cases hne : (s : Int) ≠ n
    · rw [decide_eq_true hne]
      exact hJ1 _ _ (Cond_t (tail (by rw [frames, ht]; simp only []; rw [if_neg (by omega)]) _ hs12 ho2))
    · rw [decide_eq_false hne]
      have hsn : s = n := by omega
      subst hsn
      refine hJ1 _ _ (Cond_f ?_)
      obtain ⟨hxo, hxm⟩ := hx s body e ht
      refine bs1 hxo.shape1 ?_
      refine app (news := [x]) (ho2.own.alloc _) (ASrc.of_view (View.one _ _ _)) (by simpa using hxo.shape1) (fun m hm => by have := ho.len; unfold maxLen; omega) fun u3 w3 h3 h4 => ?_
      refine b_addw ?_
      have ew : IntKind.u64.wrap ((s : Int) + 1) = (((s + 1) % 2 ^ 64 : Nat) : Int) := wrap_un (k := .u64) rfl (n := s + 1)
      rw [ew]
      have szw : w.heap.size ≤ wr.heap.size := hs.size
      have szr : wr.heap.size ≤ w2.heap.size := hs2.size
      have hou : ∀ i, foot u i → i < wr.heap.size := ho.own.lt
      have hap3 : ∀ i, foot u3 i → foot u i ∨ w2.heap.size < i + 1 := fun i hi => (h4.grow i hi).imp_right fun h => by simp at h; omega
      refine ⟨⟨e, k, (s + 1) % 2 ^ 64, ls ++ [body], vs ++ [x], rfl, rfl, Nat.mod_lt _ (by decide), hle4, hle3, by omega, by omega, ?_, ⟨h3, by simp [ho.len], ?_, ?_, ?_⟩, by simp; omega, ?_⟩, ?_⟩
      · exact (hs12.alloc _).then_new h4.step fun i hi => ho.new i hi
      · intro j lj hj
        rw [List.getElem?_append] at hj
        split at hj
        · rename_i hlt
          obtain ⟨y, hy1, hy2⟩ := ho2.row j lj hj
          refine ⟨y, by rw [List.getElem?_append_left (by rw [ho.len]; exact hlt)]; exact hy1, (hy2.alloc _).step h4.step fun i hi => (ho.apart y (List.mem_of_getElem? hy1) i hi).2⟩
        · rename_i hlt
          have ej : j - ls.length = 0 := by
            rcases Nat.eq_zero_or_pos (j - ls.length) with h | h
            · exact h
            · rw [List.getElem?_eq_none (by simp; omega)] at hj; cases hj
          rw [ej] at hj
          simp at hj
          subst hj
          refine ⟨x, by rw [List.getElem?_append_right (by rw [ho.len]; omega), ho.len, ej]; rfl, (hxo.alloc _).step h4.step fun i hi hu => ?_⟩
          have := hxm.new i hi
          have := hou i hu
          omega
      · intro i hi
        exact (hap3 i hi).elim (ho.new i) fun h => by omega
      · intro y hy i hi
        rw [List.mem_append] at hy
        rcases hy with hy | hy
        · have hya := ho.apart y hy i hi
          obtain ⟨j, hj1, hj2⟩ := List.mem_iff_getElem.1 hy
          have hlr : i < wr.heap.size := by
            obtain ⟨z, hz1, hz2⟩ := ho.row j (ls[j]'(by rw [← ho.len]; exact hj1)) (List.getElem?_eq_getElem _)
            rw [List.getElem?_eq_getElem hj1, Option.some.injEq, hj2] at hz1
            subst hz1
            exact hz2.lt i hi
          exact ⟨hya.1, fun h => (hap3 i h).elim hya.2 fun h => by omega⟩
        · simp at hy
          subst hy
          have h5 := hxm.new i hi
          have h6 := hxo.lt i hi
          exact ⟨by omega, fun h => (hap3 i h).elim (fun h7 => by have := hou i h7; omega) fun h => by omega⟩
      · rw [hf, frames, ht]
        simp
      · simp only []
        omega
end Go.Proofs.VvS

namespace Go.Proofs.VvS
open Go Go.Proofs Vv Go.RowKit

structure Wr where
  key : List UInt8
  val : List UInt8
  gone : Bool
structure Cm where
  time : Int
  writes : List Wr
def wrCells (x : Wr) : List Value := [Str x.key, Str x.val, .bool x.gone]
def wrVal (x : Wr) : Value := .agg (wrCells x).toArray
def wrRow (ws : List Wr) : List Value := ws.flatMap wrCells
/-- a row of writes -/
def Writes (w : World) (v : Value) (ws : List Wr) : Prop := View w v 3 ws.length (wrRow ws)
theorem wrRow_get {ws : List Wr} : ∀ {j : Nat} (hj : j < ws.length) (i : Nat) (u : Value), (wrCells ws[j])[i]? = some u → (wrRow ws)[j * 3 + i]? = some u := by
  induction ws with
  | nil => intro j hj; simp at hj
  | cons x r ih =>
    intro j hj i u hu
    have hi : i < 3 := (List.getElem?_eq_some_iff.1 hu).1
    cases j with
    | zero =>
      rw [wrRow, List.flatMap_cons, Nat.zero_mul, Nat.zero_add, List.getElem?_append_left (by simpa [wrCells] using hi)]
      exact hu
    | succ j =>
      rw [wrRow, List.flatMap_cons, List.getElem?_append_right (by simp [wrCells]; omega)]
      have e : (j + 1) * 3 + i - (wrCells x).length = j * 3 + i := by simp [wrCells]; omega
      rw [e]
      exact ih (by simpa using hj) i u hu

def isKey (s : List UInt8) : Bool := decide (s ≠ []) && decide (s.length ≤ 16)
def isVal (s : List UInt8) : Bool := decide (s.length ≤ 64)
def isTime (t : Int) : Bool := decide (0 ≤ t) && decide (t < 1099511627776)
theorem str_size (l : List UInt8) : (ByteArray.mk l.toArray).size = l.length := by simp [ByteArray.size]

theorem IsKey_ok {w : World} {s : List UInt8} {K : Value → World → Prop} (hk : K (.bool (isKey s)) w) : Runs Tryz.prog F_record_IsKey #[Str s] w K := by
  refine c_record_IsKey ?_
  unfold H_record_IsKey
  refine s_neq (b := []) ?_
  unfold isKey at hk
  refine gt_t (fun h => ?_) (fun h => ?_)
  · refine l_str ?_
    rw [str_size]
    (with_reducible refine b_leq ?_)
    rw [decide_eq_true h, Bool.true_and] at hk
    have e : decide ((s.length : Int) ≤ 16) = decide (s.length ≤ 16) := by congr 1; apply propext; omega
    rw [e]; exact hk
  · rw [decide_eq_false h, Bool.false_and] at hk; exact hk
theorem IsVal_ok {w : World} {s : List UInt8} {K : Value → World → Prop} (hk : K (.bool (isVal s)) w) : Runs Tryz.prog F_record_IsVal #[Str s] w K := by
  refine c_record_IsVal ?_
  unfold H_record_IsVal
  refine l_str ?_
  rw [str_size]
  (with_reducible refine b_leq ?_)
  have e : decide ((s.length : Int) ≤ 64) = decide (s.length ≤ 64) := by congr 1; apply propext; omega
  rw [e]; exact hk
theorem isTime_ok {w : World} {t : Int} {K : Value → World → Prop} (hk : K (.bool (isTime t)) w) : Runs Tryz.prog F_record_isTime #[.int .i64 t] w K := by
  refine c_record_isTime ?_
  unfold H_record_isTime
  unfold isTime at hk
  (with_reducible refine b_geq ?_)
  refine gt_t (fun h => ?_) (fun h => ?_)
  · (with_reducible refine b_lss ?_)
    rw [decide_eq_true h, Bool.true_and] at hk; exact hk
  · rw [decide_eq_false h, Bool.false_and] at hk; exact hk

/-- is the write at this place right? -/
def rightW (ws : List Wr) (j : Nat) : Bool := match ws[j]? with
  | none => false
  | some x => isKey x.key && (isVal x.val && (!(x.gone && decide (x.val ≠ [])) && (decide (j = 0) || (match ws[j - 1]? with | some y => Op.bytesLess y.key x.key | none => false))))

theorem rightW_ok {w : World} {cb j : Nat} {time : Int} {sv : Value} {ws : List Wr} {K : Value → World → Prop} (hb : Box w cb T_api_Commit #[.int .i64 time, sv]) (hw : Writes w sv ws) (hj : j < ws.length) (hlen : ws.length ≤ 1000000000)
    (hk : ∀ w', Step None' w w' → K (.bool (rightW ws j)) w') : Runs Tryz.prog F_record_rightCommit_1 #[.int .i64 j, wrVal ws[j], .pointer (some ⟨cb, 0, none⟩)] w K := by
  refine c_record_rightCommit_1 ?_
  unfold H_record_rightCommit_1
  have hx : ws[j]? = some ws[j] := List.getElem?_eq_getElem hj
  rw [rightW, hx] at hk
  simp only [] at hk
  refine bx ?_
  have hbox : Box (w.alloc (.cells (wrVal ws[j]).cells 111)) w.heap.size 111 #[Str ws[j].key, Str ws[j].val, .bool ws[j].gone] := Box.new _ _ _
  have hs0 : Step None' w (w.alloc (.cells (wrVal ws[j]).cells 111)) := (Step.refl _ _).alloc _
  have hbd := hbox.drew
  have hs1 := hs0.drew
  generalize (w.alloc (.cells (wrVal ws[j]).cells 111)).drew = w2 at *
  have hb2 := hb.step hs1 fun x => x
  have hw2 := View.step hw hs1 fun _ _ x => x
  refine fld0 ?_
  (with_reducible refine ldB hbd (by (simp only [List.getElem?_toArray, List.getElem?_cons_succ, List.getElem?_cons_zero]; rfl)) ?_)
  (with_reducible refine cf ?_); refine IsKey_ok ?_
  have tail : K (.bool (decide (j = 0) || (match ws[j - 1]? with | some y => Op.bytesLess y.key ws[j].key | none => false))) w2 →
    Bin Tryz.prog BinOp.eql 3 false true (.int .i64 j) (Value.int IntKind.i64 0) fun t26 =>
    Gate t26 false (
    Pu Tryz.prog (Instr.fieldAt 65 (.pointer (some ⟨cb, 0, none⟩)) 1) fun t28 =>
    Rd Tryz.prog (Instr.loadAt 63 t28) w2 fun t29 =>
    Bin Tryz.prog BinOp.sub 3 false true (.int .i64 j) (Value.int IntKind.i64 1) fun t31 =>
    Pu Tryz.prog (Instr.indexAt 63 t29 t31) fun t32 =>
    Pu Tryz.prog (Instr.fieldAt 111 t32 0) fun t33 =>
    Rd Tryz.prog (Instr.loadAt 9 t33) w2 fun t34 =>
    Pu Tryz.prog (Instr.fieldAt 111 (.pointer (some ⟨w.heap.size, 0, none⟩)) 0) fun t35 =>
    Rd Tryz.prog (Instr.loadAt 9 t35) w2 fun t36 =>
    Bin Tryz.prog BinOp.lss 9 false false t34 t36 fun t37 =>
    K t37 w2) (
    K (Value.bool true) w2) := by
    intro hkk
    (with_reducible refine b_eql ?_)
    refine gt_f (fun h => ?_) (fun h => ?_)
    · have hj0 : ¬ j = 0 := by omega
      have hj1 : j - 1 < ws.length := by omega
      rw [decide_eq_false hj0, Bool.false_or, List.getElem?_eq_getElem hj1] at hkk
      simp only [] at hkk
      refine fld0 ?_
      (with_reducible refine ldB hb2 (by (simp only [List.getElem?_toArray, List.getElem?_cons_succ, List.getElem?_cons_zero]; rfl)) ?_)
      (with_reducible refine b_sub (by (first | (unfold I64; omega) | omega)) ?_)
      refine vidx hw2 (j - 1) (by omega) hj1 fun b o c e hcell => ?_
      refine fld ?_
      refine ld (hcell 0 _ (wrRow_get hj1 0 _ rfl)) ?_
      refine fld0 ?_
      (with_reducible refine ldB hbd (by (simp only [List.getElem?_toArray, List.getElem?_cons_succ, List.getElem?_cons_zero]; rfl)) ?_)
      refine s_lss ?_
      exact hkk
    · have hj0 : j = 0 := by omega
      rw [decide_eq_true hj0, Bool.true_or] at hkk
      exact hkk
  have hk2 := hk w2 hs1
  clear hk
  cases h1 : isKey ws[j].key
  · rw [h1, Bool.false_and] at hk2; exact Gate_not rfl hk2
  rw [h1, Bool.true_and] at hk2
  refine Gate_is rfl ?_
  refine fld0 ?_
  (with_reducible refine ldB hbd (by (simp only [List.getElem?_toArray, List.getElem?_cons_succ, List.getElem?_cons_zero]; rfl)) ?_)
  (with_reducible refine cf ?_); refine IsVal_ok ?_
  cases h2 : isVal ws[j].val
  · rw [h2, Bool.false_and] at hk2; exact Gate_not rfl hk2
  rw [h2, Bool.true_and] at hk2
  refine Gate_is rfl ?_
  refine fld0 ?_
  (with_reducible refine ldB hbd (by (simp only [List.getElem?_toArray, List.getElem?_cons_succ, List.getElem?_cons_zero]; rfl)) ?_)
  cases h3 : ws[j].gone
  · rw [h3, Bool.false_and, Bool.not_false, Bool.true_and] at hk2
    refine Gate_not rfl ?_
    refine unot ?_
    refine Gate_is rfl ?_
    exact tail hk2
  · rw [h3, Bool.true_and] at hk2
    refine Gate_is rfl ?_
    refine fld0 ?_
    (with_reducible refine ldB hbd (by (simp only [List.getElem?_toArray, List.getElem?_cons_succ, List.getElem?_cons_zero]; rfl)) ?_)
    refine s_neq (b := []) ?_
    (with_reducible refine unotp ?_)
    by_cases h4 : ws[j].val ≠ []
    · rw [decide_eq_true h4, Bool.not_true, Bool.false_and] at hk2
      exact Gate_not (by simp [h4]) hk2
    · rw [decide_eq_false h4, Bool.not_false, Bool.true_and] at hk2
      refine Gate_is (by simp [h4]) ?_
      exact tail hk2

theorem wrRow_length (ws : List Wr) : (wrRow ws).length = ws.length * 3 := by
  induction ws with
  | nil => rfl
  | cons x r ih =>
    rw [wrRow, List.flatMap_cons, List.length_append]
    have : (List.flatMap wrCells r).length = r.length * 3 := ih
    rw [this, List.length_cons]; simp [wrCells]; omega

theorem wrVal_one (x : Wr) : ∀ u ∈ (wrCells x).toArray.toList, u.oneCell' = true := by
  intro u hu; simp [wrCells] at hu; rcases hu with rfl | rfl | rfl <;> rfl

/-- a write, taken out of a row -/
theorem ldWr {w : World} {b o j : Nat} {ws : List Wr} {K : Value → Prop} (hj : j < ws.length) (hcell : ∀ (i : Nat) u, (wrRow ws)[j * 3 + i]? = some u → w.cell? ⟨b, o + j * 3 + i, none⟩ = some u) (k : K (wrVal ws[j])) :
    Rd Tryz.prog (Instr.loadAt T_api_Write (.pointer (some ⟨b, o + j * 3, none⟩))) w K :=
  ldS (wrCells ws[j]) (fun i u hu => hcell i u (wrRow_get hj i u hu)) rfl k

def rightAll (ws : List Wr) : Bool := (List.range ws.length).all (rightW ws)
theorem rightAll_step {ws : List Wr} {j : Nat} (hj : j < ws.length) (h : rightW ws j = false) : rightAll ws = false := by
  rw [rightAll, List.all_eq_false]
  exact ⟨j, List.mem_range.2 hj, by simp [h]⟩

theorem all_ok {w : World} {cb : Nat} {time : Int} {sv : Value} {ws : List Wr} {K : Value → World → Prop} (hb : Box w cb T_api_Commit #[.int .i64 time, sv]) (hw : Writes w sv ws) (hlen : ws.length ≤ 1000000000)
    (hk : ∀ w', Step None' w w' → K (.bool (rightAll ws)) w') : Runs Tryz.prog F_record_all_api_Write #[sv, .func (.func F_record_rightCommit_1) #[] #[.pointer (some ⟨cb, 0, none⟩)]] w K := by
  refine c_record_all_api_Write ?_
  unfold H_record_all_api_Write
  refine l_view hw ?_
  refine ⟨fun i wr => ∃ j : Nat, i = .int .i64 j ∧ j ≤ ws.length ∧ Step None' w wr ∧ ∀ k, k < j → rightW ws k = true, fun i _ => match i with | .int _ n => ws.length - n.toNat | _ => 0,
    ⟨0, rfl, by omega, Step.refl _ _, fun k hk => by omega⟩, ?_⟩
  rintro _ wr ⟨j, rfl, hj, hs, hr⟩
  have hwr := View.step hw hs fun _ _ x => x
  have hbr := hb.step hs fun x => x
  (with_reducible refine b_lss ?_)
  refine cnd (fun h => ?_) (fun h => ?_)
  · have hjl : j < ws.length := by omega
    refine vidx hwr j rfl hjl fun b o c e hcell => ?_
    refine ldWr hjl hcell ?_
    (with_reducible refine al ?_)
    refine stW (xs := (wrCells ws[j]).toArray) (Box.new wr _ _) rfl rfl (wrVal_one _) fun w3 hb3 hs3 => ?_
    have hs4 : Step None' wr w3 := ((Step.refl None' wr).alloc _).then_new hs3 fun i hi => by omega
    refine ldW hb3 rfl ?_
    ((with_reducible refine cv ?_); simp only [List.append_toArray, List.nil_append, List.cons_append, List.append_nil])
    refine rightW_ok (hbr.step hs4 fun x => x) (View.step hwr hs4 fun _ _ x => x) hjl hlen fun w5 hs5 => ?_
    refine unot ?_
    cases hrw : rightW ws j
    · refine Cond_t ?_
      rw [← rightAll_step hjl hrw]
      exact hk _ ((hs.then_none hs4).then_none hs5)
    · refine Cond_f ?_
      (with_reducible refine b_add (by (first | (unfold I64; omega) | omega)) ?_)
      refine ⟨⟨j + 1, by simp, by omega, (hs.then_none hs4).then_none hs5, fun k hk => ?_⟩, by simp only []; omega⟩
      rcases Nat.lt_or_ge k j with h | h
      · exact hr k h
      · have : k = j := by omega
        rw [this]; exact hrw
  · have hall : rightAll ws = true := by
      rw [rightAll, List.all_eq_true]
      intro k hk
      exact hr k (by have := List.mem_range.1 hk; omega)
    rw [← hall]
    exact hk _ hs

def right (c : Cm) : Bool := isTime c.time && (decide (c.writes.length ≤ 64) && rightAll c.writes)
/-- a commit as a value -/
def CVal (w : World) (v : Value) (c : Cm) : Prop := ∃ sv, v = .agg #[.int .i64 c.time, sv] ∧ Writes w sv c.writes
theorem CVal.step {w w' : World} {v : Value} {c : Cm} (h : CVal w v c) (hs : Step None' w w') : CVal w' v c := by
  obtain ⟨sv, e, h⟩ := h
  exact ⟨sv, e, View.step h hs fun _ _ x => x⟩

theorem right_ok {w : World} {v : Value} {c : Cm} {K : Value → World → Prop} (hv : CVal w v c) (hlen : c.writes.length ≤ 1000000000)
    (hk : ∀ w', Step None' w w' → K (.bool (right c)) w') : Runs Tryz.prog F_record_rightCommit #[v] w K := by
  obtain ⟨sv, rfl, hw⟩ := hv
  refine c_record_rightCommit ?_
  unfold H_record_rightCommit
  refine bx ?_
  have hb : Box (w.alloc (.cells (Value.agg #[.int .i64 c.time, sv]).cells 65)) w.heap.size 65 #[.int .i64 c.time, sv] := Box.new _ _ _
  have hs : Step None' w (w.alloc (.cells (Value.agg #[.int .i64 c.time, sv]).cells 65)) := (Step.refl _ _).alloc _
  generalize (w.alloc (.cells (Value.agg #[.int .i64 c.time, sv]).cells 65)) = w1 at *
  have hw1 := View.step hw hs fun _ _ x => x
  refine fld0 ?_
  (with_reducible refine ldB hb (by (simp only [List.getElem?_toArray, List.getElem?_cons_succ, List.getElem?_cons_zero]; rfl)) ?_)
  (with_reducible refine cf ?_); refine isTime_ok ?_
  unfold right at hk
  cases h1 : isTime c.time
  · rw [h1] at hk; exact Gate_not rfl (hk _ hs)
  rw [h1, Bool.true_and] at hk
  refine Gate_is rfl ?_
  refine fld0 ?_
  (with_reducible refine ldB hb (by (simp only [List.getElem?_toArray, List.getElem?_cons_succ, List.getElem?_cons_zero]; rfl)) ?_)
  refine l_view hw1 ?_
  (with_reducible refine b_leq ?_)
  refine gt_t (fun h2 => ?_) (fun h2 => ?_)
  · rw [decide_eq_true (by omega : c.writes.length ≤ 64), Bool.true_and] at hk
    refine fld0 ?_
    (with_reducible refine ldB hb (by (simp only [List.getElem?_toArray, List.getElem?_cons_succ, List.getElem?_cons_zero]; rfl)) ?_)
    (with_reducible refine cf ?_); refine all_ok hb hw1 hlen fun w2 hs2 => ?_
    exact hk _ (hs.then_none hs2)
  · rw [decide_eq_false (by omega : ¬ c.writes.length ≤ 64), Bool.false_and] at hk
    exact hk _ hs
end Go.Proofs.VvS
