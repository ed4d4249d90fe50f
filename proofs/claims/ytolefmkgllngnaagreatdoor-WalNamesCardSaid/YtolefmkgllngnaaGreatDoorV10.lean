/-
  WalNames: every input answers true. Part 10 of its proof: VvWal6 VvWal7 VvWal8 VvLaw1 VvLaw2 VvEnd VvNames VvFinN.
-/
import Derived.Test.YtolefmkgllngnaaGreatDoorV09
import Derived.Test.YtolefmkgllngnaaGreatDoorV05
import Derived.KernelRfl
import Derived.Test.YtolefmkgllngnaaGreatDoorCards
import Derived.Test.YtolefmkgllngnaaGreatDoorTie
import Derived.WalkKit
import Derived.ProofKit
import Derived.OpenShut
import Derived.Deep.DeepHandedRow
import Derived.Deep.DeepWitnessRowRef
import Derived.Stop.LaidErr
import Derived.Lib.LaidTab

namespace Go.Proofs.VvS
open Go Go.Proofs Vv Go.RowKit

/-- numbers that a log bears -/
structure Lg.Ok (L : Lg) : Prop where
  seg : 0 ≤ L.seg ∧ L.seg ≤ 4000000000000000000
  seq : L.seq < 2 ^ 64
  step : L.step ≤ 3
  group : L.group ≤ 10000
  tick : L.tickets ≤ 1000000000000000
  acc : L.flushed + (if L.step = 0 then 0 else L.group) + L.wait.length ≤ L.tickets
  over : L.over ≤ 1000
  wait : L.wait.length ≤ 10000
  size : ∀ x ∈ L.wait, x.length ≤ 20000
structure LIs (w : World) (b : Nat) (L : Lg) (d : Nat) (S : Nat → Prop) (wv : Value) (wvs : List Value) : Prop where
  box : TB w b d L.seg L.seq wv (.int .i64 L.group) (.int .i64 L.step) (.int .i64 L.tickets) (.int .i64 L.flushed) (.int .i64 L.over)
  own : Own w wv T_s_uint8 1 wvs
  len : wvs.length = L.wait.length
  row : ∀ (j : Nat) (l : List UInt8), L.wait[j]? = some l → ∃ u, wvs[j]? = some u ∧ Own w u T_uint8 1 (B8 l)
  Sb : S b
  Sv : ∀ k, foot wv k → S k
  Sr : ∀ u ∈ wvs, ∀ k, foot u k → S k
  lim : ∀ k, S k → glim ≤ k ∧ k < w.heap.size
/-- a log lies at a block, over the disk at another one; its footprint (without the disk's) -/
def LAt (w : World) (b : Nat) (L : Lg) (d : Nat) (S : Nat → Prop) : Prop := ∃ wv wvs, LIs w b L d S wv wvs
theorem LIs.step {w w' : World} {b d : Nat} {L : Lg} {S S' : Nat → Prop} {wv : Value} {wvs : List Value} (h : LIs w b L d S wv wvs) (hs : Step S' w w') (hn : ∀ k, S k → ¬ S' k) : LIs w' b L d S wv wvs :=
  ⟨h.box.step hs (hn _ h.Sb), h.own.step hs fun k hk => hn k (h.Sv k hk), h.len, fun j l hj => (h.row j l hj).imp fun u hu => ⟨hu.1, hu.2.step hs fun k hk => hn k (h.Sr u (List.mem_of_getElem? hu.1) k hk)⟩, h.Sb, h.Sv, h.Sr,
   fun k hk => ⟨(h.lim k hk).1, Nat.lt_of_lt_of_le (h.lim k hk).2 hs.size⟩⟩
theorem LAt.step {w w' : World} {b d : Nat} {L : Lg} {S S' : Nat → Prop} (h : LAt w b L d S) (hs : Step S' w w') (hn : ∀ k, S k → ¬ S' k) : LAt w' b L d S := let ⟨_, _, h⟩ := h; ⟨_, _, h.step hs hn⟩
theorem LAt.lt {w : World} {b d : Nat} {L : Lg} {S : Nat → Prop} (h : LAt w b L d S) (k : Nat) (hk : S k) : k < w.heap.size := let ⟨_, _, h⟩ := h; (h.lim k hk).2
theorem LAt.lim {w : World} {b d : Nat} {L : Lg} {S : Nat → Prop} (h : LAt w b L d S) (k : Nat) (hk : S k) : glim ≤ k := let ⟨_, _, h⟩ := h; (h.lim k hk).1
theorem LAt.Sb {w : World} {b d : Nat} {L : Lg} {S : Nat → Prop} (h : LAt w b L d S) : S b := let ⟨_, _, h⟩ := h; h.Sb
/-- the struct alone is turned -/
theorem LIs.turn {w w' : World} {b d : Nat} {L L' : Lg} {S : Nat → Prop} {wv : Value} {wvs : List Value} (h : LIs w b L d S wv wvs) (hs : Step (fun k => k = b) w w') (hw : L'.wait = L.wait)
    (hb : TB w' b d L'.seg L'.seq wv (.int .i64 L'.group) (.int .i64 L'.step) (.int .i64 L'.tickets) (.int .i64 L'.flushed) (.int .i64 L'.over)) : LIs w' b L' d S wv wvs :=
  ⟨hb, h.own.step hs fun k hk e => by subst e; exact own_not_box h.own h.box (by decide) hk, by rw [hw]; exact h.len, fun j l hj => by
    rw [hw] at hj
    exact (h.row j l hj).imp fun u hu => ⟨hu.1, hu.2.step hs fun k hk e => by subst e; exact own_not_box hu.2 h.box (by decide) hk⟩, h.Sb, h.Sv, h.Sr, fun k hk => ⟨(h.lim k hk).1, Nat.lt_of_lt_of_le (h.lim k hk).2 hs.size⟩⟩

section
variable {w : World} {b d : Nat} {L : Lg} {D : Dk} {S Sd : Nat → Prop} {K : Value → World → Prop}

theorem Flushed_ok (h : LAt w b L d S) (hk : K (.int .i64 L.flushed) w) : Runs Tryz.prog F_wal_Log_Flushed #[.pointer (some ⟨b, 0, none⟩)] w K := by
  obtain ⟨wv, wvs, h⟩ := h
  refine c_wal_Log_Flushed ?_
  unfold H_wal_Log_Flushed
  refine b_ptr_nil ?_
  refine Cond_f ⟨trivial, ?_⟩
  (with_reducible refine fld0 ?_)
  (with_reducible refine ldB h.box (by (simp only [List.getElem?_toArray, List.getElem?_cons_succ, List.getElem?_cons_zero]; rfl)) ?_)
  exact hk

theorem cBytes_len {c : Cm} (h : right c = true) : (cBytes c).length ≤ 20000 := by
  obtain ⟨h1, h2, h3⟩ := right_small h
  have h4 := flat_len h3
  have h5 := enc_len10 (n := c.time.toNat) (by omega)
  have h6 := enc_len10 (n := c.writes.length) (by omega)
  unfold cBytes wsBytes
  simp only [List.length_cons, List.length_append]
  omega

theorem LPut_ok {v : Value} {c : Cm} (h : LAt w b L d S) (ok : L.Ok) (hv : CVal w v c) (hlen : c.writes.length ≤ 1000000000)
    (hk : ∀ w' S', LAt w' b (L.put c).1 d S' → Evo S w S' w' → K (.tuple #[.int .i64 (L.put c).2.1, .int .i64 (L.put c).2.2]) w') : Runs Tryz.prog F_wal_Log_Put #[.pointer (some ⟨b, 0, none⟩), v] w K := by
  obtain ⟨wv, wvs, h⟩ := h
  obtain ⟨sv, rfl, hw⟩ := hv
  have hSl : ∀ k, S k → k < w.heap.size := fun k hk => (h.lim k hk).2
  have hbl := h.lim b h.Sb
  refine c_wal_Log_Put ?_
  unfold H_wal_Log_Put
  unfold Lg.put at hk
  refine bxA fun w1 x1 s1 z1 => ?_
  have h1 := h.step s1 fun _ _ x => x
  have hw1 : Writes w1 sv c.writes := View.step hw s1 fun _ _ x => x
  have hov := ok.over
  have htk := ok.tick
  refine b_ptr_nil ?_
  refine Cond_f ⟨trivial, ?_⟩
  (with_reducible refine fld0 ?_)
  (with_reducible refine ldB h1.box (by (simp only [List.getElem?_toArray, List.getElem?_cons_succ, List.getElem?_cons_zero]; rfl)) ?_)
  (with_reducible refine b_neq ?_)
  by_cases ho : L.over ≠ 0
  · rw [if_pos ho] at hk
    refine cnd_t (by omega) ⟨trivial, ?_⟩
    (with_reducible refine fld0 ?_)
    have s2 := drew_step w1
    generalize w1.drew = w2 at s2 ⊢
    have h2 := h1.step s2 fun _ _ x => x
    (with_reducible refine ldB h2.box (by (simp only [List.getElem?_toArray, List.getElem?_cons_succ, List.getElem?_cons_zero]; rfl)) ?_)
    exact hk w2 S ⟨wv, wvs, h2⟩ (Evo.of_none (s1.then_none s2))
  · rw [if_neg ho] at hk
    refine cnd_f (by omega) ?_
    refine ldW x1 rfl ?_
    (with_reducible refine cf ?_)
    refine PutCommit_ok ⟨sv, rfl, hw1⟩ hlen (fun hr w2 s2 => ?_) (fun hr u w2 o2 t2 => ?_)
    · (with_reducible refine ext2_0 ?_); (with_reducible refine ext2_1 ?_); (with_reducible refine b_neq ?_)
      refine cnd_t (by decide) ?_
      rw [hr] at hk
      simp only [Bool.false_eq_true, if_false] at hk
      exact hk w2 S ⟨wv, wvs, h1.step s2 fun _ _ x => x⟩ (Evo.of_none (s1.then_none s2))
    · (with_reducible refine ext2_0 ?_); (with_reducible refine ext2_1 ?_); (with_reducible refine b_neq ?_)
      refine cnd_f (by decide) ?_
      rw [hr] at hk
      simp only [if_true] at hk
      have h2 := h1.step t2.step fun _ _ x => x
      refine ⟨trivial, ?_⟩
      (with_reducible refine fld0 ?_)
      (with_reducible refine ldB h2.box (by (simp only [List.getElem?_toArray, List.getElem?_cons_succ, List.getElem?_cons_zero]; rfl)) ?_)
      refine bs1N o2.shape1 fun w3 v3 s3 z3 => ?_
      have h3 := h2.step s3 fun _ _ x => x
      have o3 := o2.step s3 fun _ _ x => x
      have hwl := h.len
      have hwb := ok.wait
      refine app h3.own (ASrc.of_view v3) (by simp [o2.shape1]) (fun n hn => by simp at hn; unfold maxLen; omega) fun wv' w4 o4 t4 => ?_
      refine ⟨trivial, ?_⟩
      (with_reducible refine fld0 ?_)
      have hfw : ¬ foot wv b := own_not_box h3.own h3.box (by decide)
      have b4 := h3.box.step t4.step hfw
      refine stB b4 (by simp) o4.shape1 fun w5 b5 s5 => ?_
      replace b5 : TB w5 b d L.seg L.seq wv' (.int .i64 L.group) (.int .i64 L.step) (.int .i64 L.tickets) (.int .i64 L.flushed) (.int .i64 L.over) := b5
      refine ⟨trivial, ?_⟩
      (with_reducible refine fld0 ?_)
      (with_reducible refine ldB b5 (by (simp only [List.getElem?_toArray, List.getElem?_cons_succ, List.getElem?_cons_zero]; rfl)) ?_)
      (with_reducible refine b_add (by (first | (unfold I64; omega) | omega)) ?_)
      refine ⟨trivial, ?_⟩
      (with_reducible refine fld0 ?_)
      refine stB b5 (by simp) rfl fun w6 b6 s6 => ?_
      have e1 : ((L.tickets : Int) + 1) = ((L.tickets + 1 : Nat) : Int) := by omega
      replace b6 : TB w6 b d L.seg L.seq wv' (.int .i64 L.group) (.int .i64 L.step) (.int .i64 ((L.tickets : Int) + 1)) (.int .i64 L.flushed) (.int .i64 L.over) := b6
      rw [e1] at b6
      refine ⟨trivial, ?_⟩
      (with_reducible refine fld0 ?_)
      (with_reducible refine ldB b6 (by (simp only [List.getElem?_toArray, List.getElem?_cons_succ, List.getElem?_cons_zero]; rfl)) ?_)
      have s36 : Step (fun k => k = b ∨ foot wv k) w3 w6 := ((t4.step.mono fun i hi => .inr hi).trans s5 fun i hi => .inl (.inl hi)).trans s6 fun i hi => .inl (.inl hi)
      have s46 : Step (fun k => k = b) w4 w6 := stepMany s5 s6
      have z1' := s1.size
      have z2 := t2.step.size
      have z3' := s3.size
      have hgrow := t4.grow
      refine hk w6 (fun k => S k ∨ foot wv' k ∨ foot u k) ⟨wv', wvs ++ [u], ⟨b6, o4.step s46 fun k hf e => ?_, by simp [hwl], fun j l hj => ?_, .inl h.Sb, fun k hk => .inr (.inl hk), fun y hy k hk => ?_, fun k hk => ?_⟩⟩ ⟨?_, fun k hk => ?_⟩
      · subst e
        rcases hgrow k hf with h5 | h5
        · exact hfw h5
        · omega
      · by_cases hjl : j < L.wait.length
        · rw [List.getElem?_append_left hjl] at hj
          obtain ⟨y, hy1, hy2⟩ := h3.row j l hj
          refine ⟨y, by rw [List.getElem?_append_left (by omega)]; exact hy1, hy2.step s36 ?_⟩
          rintro k hf (e | e)
          · subst e; exact own_not_box hy2 h3.box (by decide) hf
          · have := tag_own hy2 hf
            rw [tag_own h3.own e] at this
            exact absurd this (by decide)
        · have : j = L.wait.length := by
            have := (List.getElem?_eq_some_iff.1 hj).1
            simp at this; omega
          subst this
          simp at hj
          subst hj
          refine ⟨u, by rw [← hwl]; simp, o3.step s36 ?_⟩
          rintro k hf (e | e)
          · subst e; have := t2.new k hf; omega
          · have := t2.new k hf; have := hSl k (h.Sv k e); omega
      · rcases List.mem_append.1 hy with hy | hy
        · exact .inl (h.Sr y hy k hk)
        · simp at hy; subst hy; exact .inr (.inr hk)
      · have hz := s36.size
        rcases hk with hk | hk | hk
        · have := h.lim k hk; exact ⟨this.1, by omega⟩
        · refine ⟨?_, by have := o4.lt k hk; have := s46.size; omega⟩
          rcases hgrow k hk with h5 | h5
          · exact (h.lim k (h.Sv k h5)).1
          · omega
        · have := t2.new k hk; have := o3.lt k hk; exact ⟨by omega, by omega⟩
      · exact (((s1.then_none t2.step).then_none s3).of_none).trans s36 fun i hi => .inl (hi.elim (fun e => by rw [e]; exact h.Sb) (h.Sv i))
      · rcases hk with hk | hk | hk
        · exact .inl hk
        · rcases hgrow k hk with h5 | h5
          · exact .inl (h.Sv k h5)
          · exact .inr (by omega)
        · exact .inr (by have := t2.new k hk; omega)

theorem own_ne {w : World} {v : Value} {T n : Nat} {xs : List Value} (h : Own w v T n xs) {b T' : Nat} {cs : Array Value} (hb : Box w b T' cs) (hT : T ≠ T') {k : Nat} (hk : foot v k) : k ≠ b := fun e => own_not_box h hb hT (e ▸ hk)
/-- both footprints go on -/
structure Both (S Sd : Nat → Prop) (w : World) (S' Sd' : Nat → Prop) (w' : World) : Prop where
  evo : Evo (fun k => S k ∨ Sd k) w (fun k => S' k ∨ Sd' k) w'
  apart : ∀ k, S' k → ¬ Sd' k
theorem Both.trans {A A' B B' C C' : Nat → Prop} {a b c : World} (h : Both A A' a B B' b) (k : Both B B' b C C' c) : Both A A' a C C' c := ⟨h.evo.trans k.evo, k.apart⟩
theorem Both.step {A A' B B' : Nat → Prop} {a b : World} (h : Both A A' a B B' b) : Step (fun k => A k ∨ A' k) a b := h.evo.step
/-- the disk and the log's struct go on -/
theorem LIs.both {w w' : World} {b d : Nat} {L : Lg} {S Sd Sd' : Nat → Prop} {wv : Value} {wvs : List Value} (h : LIs w b L d S wv wvs) (hd : DAt w d D Sd) (hdis : ∀ k, S k → ¬ Sd k) (e : Evo (fun k => Sd k ∨ k = b) w (fun k => Sd' k ∨ k = b) w') :
    (∀ k, S k → ¬ Sd' k) ∨ Sd' b := by
  by_cases hb : Sd' b
  · exact .inr hb
  · left
    intro k hk hk'
    rcases e.grow k (.inl hk') with (h1 | h1) | h1
    · exact hdis k hk h1
    · subst h1; exact hb hk'
    · have := (h.lim k hk).2; omega


theorem append_err (D : Dk) (s : Name) (b : List UInt8) : (D.append s b).2 ≤ 24 := by
  unfold Dk.append Dk.why
  simp only []
  repeat' split
  all_goals simp
theorem sync_err (D : Dk) (s : Name) : (D.sync s).2 ≤ 24 := by
  unfold Dk.sync Dk.why
  simp only []
  repeat' split
  all_goals simp
theorem delete_err (D : Dk) (s : Name) : (D.delete s).2 ≤ 24 := by
  unfold Dk.delete Dk.why
  simp only []
  repeat' split
  all_goals simp
theorem syncDir_err (D : Dk) : (D.syncDir).2 ≤ 24 := by
  unfold Dk.syncDir Dk.why
  simp only []
  repeat' split
  all_goals simp
theorem begin_err (L : Lg) (D : Dk) : (L.begin' D).2.2 ≤ 24 := by
  unfold Lg.begin' Lg.lay
  simp only []
  repeat' split
  · exact append_err _ _ _
  · exact sync_err _ _
  · exact syncDir_err _

set_option maxHeartbeats 1000000 in
set_option maxRecDepth 4000 in
theorem next_ok (hg : Glob w) (h : LAt w b L d S) (hd : DAt w d D Sd) (hdis : ∀ k, S k → ¬ Sd k) (ok : L.Ok)
    (hk : ∀ w' S' Sd', LAt w' b (L.next D).1 d S' → DAt w' d (L.next D).2 Sd' → Both S Sd w S' Sd' w' → K (.tuple #[]) w') : Runs Tryz.prog F_wal_Log_next #[.pointer (some ⟨b, 0, none⟩)] w K := by
  obtain ⟨wv, wvs, h⟩ := h
  have hSl : ∀ k, S k → k < w.heap.size := fun k hk => (h.lim k hk).2
  have hbl := h.lim b h.Sb
  have hbS := hdis b h.Sb
  obtain ⟨o1, o2, o3, o4, o5, o6, o7, o8, o9⟩ := ok
  refine c_wal_Log_next ?_
  unfold H_wal_Log_next
  intro J hJ
  have fin : ∀ (w' : World) (S' Sd' : Nat → Prop) (L1 : Lg) (D' : Dk) (wv' : Value) (wvs' : List Value), LIs w' b L1 d S' wv' wvs' → DAt w' d D' Sd' → Both S Sd w S' Sd' w' → L1.step = L.step → L1.group ≤ 10000 → L1.flushed = L.flushed → L1.over ≤ 1000 →
      L.next D = (L1.tick L1.over, D') → J w' := by
    intro w' S' Sd' L1 D' wv' wvs' h1 d1 e1 hst hgr hfl hov hnx
    rw [hnx] at hk
    refine hJ _ ⟨trivial, ?_⟩
    (with_reducible refine fld0 ?_)
    (with_reducible refine ldB h1.box (by (simp only [List.getElem?_toArray, List.getElem?_cons_succ, List.getElem?_cons_zero]; rfl)) ?_)
    (with_reducible refine b_add (by (first | (unfold I64; omega) | omega)) ?_)
    (with_reducible refine b_rem (by omega) (by omega) ?_)
    refine ⟨trivial, ?_⟩
    (with_reducible refine fld0 ?_)
    refine stB h1.box (by simp) rfl fun w2 b2 s2 => ?_
    have em : ((L1.step : Int) + 1) % 4 = (((L1.step + 1) % 4 : Nat) : Int) := by omega
    rw [em] at b2
    replace b2 : TB w2 b d L1.seg L1.seq wv' (.int .i64 L1.group) (.int .i64 ((L1.step + 1) % 4 : Nat)) (.int .i64 L1.tickets) (.int .i64 L1.flushed) (.int .i64 L1.over) := b2
    have d2 := d1.step s2 fun k hk e => e1.apart b h1.Sb (e ▸ hk)
    have e2 : Both S Sd w S' Sd' w2 := ⟨e1.evo.then_in s2 fun i hi => .inl (by rw [hi]; exact h1.Sb), e1.apart⟩
    intro J1 hJ1
    have notyet : ¬ ((L1.step + 1) % 4 = 0 ∧ L1.over = 0) → J1 (.bool false) w2 := by
      intro hno
      refine hJ1 _ _ (Cond_f ?_)
      refine hk w2 S' Sd' ⟨wv', wvs', h1.turn (L' := L1.tick L1.over) s2 rfl ?_⟩ d2 e2
      unfold Lg.tick
      simp only [if_neg hno]
      exact b2
    refine ⟨trivial, ?_⟩
    (with_reducible refine fld0 ?_)
    (with_reducible refine ldB b2 (by (simp only [List.getElem?_toArray, List.getElem?_cons_succ, List.getElem?_cons_zero]; rfl)) ?_)
    (with_reducible refine b_eql ?_)
    refine gt_t (fun h0 => ?_) (fun h0 => notyet (by omega))
    refine ⟨trivial, ?_⟩
    (with_reducible refine fld0 ?_)
    (with_reducible refine ldB b2 (by (simp only [List.getElem?_toArray, List.getElem?_cons_succ, List.getElem?_cons_zero]; rfl)) ?_)
    (with_reducible refine b_eql ?_)
    by_cases hz : ((L1.over : Nat) : Int) = 0
    · rw [decide_eq_true hz]
      refine hJ1 _ _ (Cond_t ⟨trivial, ?_⟩)
      (with_reducible refine fld0 ?_)
      have s3 := drew_step w2
      generalize w2.drew = w3 at s3 ⊢
      have b3 := b2.step s3 fun x => x
      (with_reducible refine ldB b3 (by (simp only [List.getElem?_toArray, List.getElem?_cons_succ, List.getElem?_cons_zero]; rfl)) ?_)
      refine ⟨trivial, ?_⟩
      (with_reducible refine fld0 ?_)
      (with_reducible refine ldB b3 (by (simp only [List.getElem?_toArray, List.getElem?_cons_succ, List.getElem?_cons_zero]; rfl)) ?_)
      (with_reducible refine b_add (by (first | (unfold I64; omega) | omega)) ?_)
      refine ⟨trivial, ?_⟩
      (with_reducible refine fld0 ?_)
      refine stB b3 (by simp) rfl fun w4 b4 s4 => ?_
      have ef : ((L1.flushed : Int) + (L1.group : Int)) = ((L1.flushed + L1.group : Nat) : Int) := by omega
      rw [ef] at b4
      have s24 : Step (fun k => k = b) w' w4 := (s2.then_none s3).trans s4 fun i hi => .inl hi
      refine hk w4 S' Sd' ⟨wv', wvs', h1.turn (L' := L1.tick L1.over) s24 rfl ?_⟩ ((d2.step s3 fun _ _ x => x).step s4 fun k hk e => e1.apart b h1.Sb (e ▸ hk)) ⟨(e2.evo.then_none s3).then_in s4 fun i hi => .inl (by rw [hi]; exact h1.Sb), e1.apart⟩
      unfold Lg.tick
      simp only [if_pos (show (L1.step + 1) % 4 = 0 ∧ L1.over = 0 by omega)]
      exact b4
    · rw [decide_eq_false hz]
      exact notyet (by omega)
  refine ⟨trivial, ?_⟩
  (with_reducible refine fld0 ?_)
  (with_reducible refine ldB h.box (by (simp only [List.getElem?_toArray, List.getElem?_cons_succ, List.getElem?_cons_zero]; rfl)) ?_)
  (with_reducible refine b_eql ?_)
  refine cnd (fun h0 => ?_) (fun h0 => ?_)
  · refine ⟨trivial, ?_⟩
    (with_reducible refine fld0 ?_)
    (with_reducible refine ldB h.box (by (simp only [List.getElem?_toArray, List.getElem?_cons_succ, List.getElem?_cons_zero]; rfl)) ?_)
    have hvw := h.own.view
    obtain ⟨mw, hvw⟩ := hvw
    have hmw : mw = L.wait.length := by
      have := hvw.1
      have := h.len
      omega
    subst hmw
    refine l_view hvw ?_
    (with_reducible refine b_eql ?_)
    refine cnd (fun he => ?_) (fun he => ?_)
    · have hw0 : L.wait = [] := List.eq_nil_of_length_eq_zero (by omega)
      have hn : L.next D = (L, D) := by unfold Lg.next; rw [if_pos (by omega), if_pos hw0]
      rw [hn] at hk
      exact hk w S Sd ⟨wv, wvs, h⟩ hd ⟨Evo.refl _ _, hdis⟩
    · have hw0 : L.wait ≠ [] := fun e => he (by rw [e]; rfl)
      refine ⟨trivial, ?_⟩
      (with_reducible refine fld0 ?_)
      (with_reducible refine ldB h.box (by (simp only [List.getElem?_toArray, List.getElem?_cons_succ, List.getElem?_cons_zero]; rfl)) ?_)
      refine l_view hvw ?_
      refine ⟨trivial, ?_⟩
      (with_reducible refine fld0 ?_)
      refine stB h.box (by simp) rfl fun w1 b1 s1 => ?_
      refine ⟨trivial, ?_⟩
      (with_reducible refine fld0 ?_)
      replace b1 : TB w1 b d L.seg L.seq wv (.int .i64 L.wait.length) (.int .i64 L.step) (.int .i64 L.tickets) (.int .i64 L.flushed) (.int .i64 L.over) := b1
      refine stB b1 (by simp) rfl fun w2 b2 s2 => ?_
      replace b2 : TB w2 b d L.seg L.seq (.slice none 0 0) (.int .i64 L.wait.length) (.int .i64 L.step) (.int .i64 L.tickets) (.int .i64 L.flushed) (.int .i64 L.over) := b2
      refine ⟨trivial, ?_⟩
      (with_reducible refine fld0 ?_)
      have s02 : Step (fun k => k = b) w w2 := stepMany s1 s2
      have d2 := hd.step s02 fun k hk e => hbS (e ▸ hk)
      have g2 := hg.step s02 fun k hk => by omega
      have hfw : ¬ foot wv b := own_not_box h.own h.box (by decide)
      have rws : Rws w2 wv L.wait fun k => Sd k ∨ k = b := by
        refine ⟨wvs, View.step hvw s02 fun k hk e => hfw (e ▸ hk), fun j l hj => ?_, fun k hk hX => ?_, fun u hu k hk hX => ?_⟩
        · obtain ⟨u, hu1, hu2⟩ := h.row j l hj
          exact ⟨u, hu1, View.step hu2.bytes s02 fun k hk => own_ne hu2 h.box (by decide) hk⟩
        · exact hX.elim (hdis k (h.Sv k hk)) fun e => hfw (e ▸ hk)
        · refine hX.elim (hdis k (h.Sr u hu k hk)) fun e => ?_
          obtain ⟨j, hj⟩ := List.getElem?_of_mem hu
          have hjl := (List.getElem?_eq_some_iff.1 hj).1
          rw [h.len] at hjl
          obtain ⟨u', hu1, hu2⟩ := h.row j _ (List.getElem?_eq_getElem hjl)
          rw [hj] at hu1; cases hu1
          exact own_ne hu2 h.box (by decide) hk e
      (with_reducible refine cf ?_)
      refine wlay_ok g2 b2 ⟨by omega, by omega⟩ o2 d2 hbS hbl.1 rws o8 o9 fun w3 Sd3 d3 b3 e3 n3 => ?_
      refine ⟨trivial, ?_⟩
      (with_reducible refine fld0 ?_)
      refine stB b3 (by simp) rfl fun w4 b4 s4 => ?_
      have d4 := d3.step s4 fun k hk e => n3 (e ▸ hk)
      have z2 := s02.size
      have e04 : Both S Sd w (fun k => k = b) Sd3 w4 := by
        refine ⟨⟨?_, fun k hk => ?_⟩, fun k hk hk2 => n3 (hk ▸ hk2)⟩
        · exact ((s02.mono (S' := fun k => S k ∨ Sd k) fun k hk => .inl (by rw [hk]; exact h.Sb)).trans e3.step fun k hk => .inl (hk.elim .inr fun e => .inl (by rw [e]; exact h.Sb))).trans s4 fun k hk => .inl (.inl (by rw [hk]; exact h.Sb))
        · rcases hk with hk | hk
          · exact .inl (.inl (by rw [hk]; exact h.Sb))
          · rcases e3.grow k (.inl hk) with (h1 | h1) | h1
            · exact .inl (.inr h1)
            · exact .inl (.inl (by rw [h1]; exact h.Sb))
            · exact .inr (by omega)
      have hbw := h.box.lt
      refine fin w4 (fun k => k = b) _ ⟨L.seg, (L.seq + L.wait.length) % 2 ^ 64, [], L.wait.length, L.step, L.tickets, L.flushed, (D.append (segName L.seg) (framesB L.seq L.wait)).2⟩ _ (.slice none 0 0) [] ⟨b4, Own.nil _ _ _, rfl, fun j l hj => by simp at hj, rfl, fun k hk => by simp [foot, Value.ownBlock] at hk, fun u hu => by simp at hu, fun k hk => ?_⟩ d4 e04 rfl o8 rfl (by have := append_err D (segName L.seg) (framesB L.seq L.wait); simp only []; omega) ?_
      · subst hk; exact ⟨hbl.1, b4.lt⟩
      · unfold Lg.next Lg.lay
        rw [if_pos (by omega), if_neg hw0]
        rfl
  · (with_reducible refine b_eql ?_)
    refine cnd (fun h2 => ?_) (fun h2 => ?_)
    · refine ⟨trivial, ?_⟩
      (with_reducible refine fld0 ?_)
      refine bs1N rfl fun w1 v1 s1 z1 => ?_
      have h1 := h.step s1 fun _ _ x => x
      have d1 := hd.step s1 fun _ _ x => x
      have hSdl := hd.lt
      have rws : Rws w1 (.slice (some ⟨w.heap.size, 0, none⟩) 1 1) [[]] fun k => Sd k ∨ k = b := Rws.one v1 (View.nil _ _) (fun hX => hX.elim (fun hX => by have := hSdl _ hX; omega) fun e => by have := h.box.lt; omega) fun k hk => by simp [foot, Value.ownBlock] at hk
      (with_reducible refine cf ?_)
      refine wlay_ok (ls := [[]]) (hg.none s1) h1.box ⟨by omega, by omega⟩ o2 d1 hbS hbl.1 rws (by simp) (by simp) fun w3 Sd3 d3 b3 e3 n3 => ?_
      refine ⟨trivial, ?_⟩
      (with_reducible refine fld0 ?_)
      refine stB b3 (by simp) rfl fun w4 b4 s4 => ?_
      have d4 := d3.step s4 fun k hk e => n3 (e ▸ hk)
      have hap := (h1.both (D := D) d1 hdis e3).resolve_right n3
      have s14 : Step (fun k => Sd k ∨ k = b) w1 w4 := e3.step.trans s4 fun i hi => .inl (.inr hi)
      have e04 : Both S Sd w S Sd3 w4 := by
        refine ⟨⟨(s1.of_none).trans s14 fun k hk => .inl (hk.elim .inr fun e => .inl (by rw [e]; exact h.Sb)), fun k hk => ?_⟩, hap⟩
        rcases hk with hk | hk
        · exact .inl (.inl hk)
        · rcases e3.grow k (.inl hk) with (h1 | h1) | h1
          · exact .inl (.inr h1)
          · exact .inl (.inl (by rw [h1]; exact h.Sb))
          · exact .inr (by omega)
      -- what waits is as it was
      have hX : ∀ k, S k → k ≠ b → ¬ (Sd k ∨ k = b) := fun k hk hne hh => hh.elim (hdis k hk) hne
      refine fin w4 S _ ⟨L.seg, (L.seq + 1) % 2 ^ 64, L.wait, L.group, L.step, L.tickets, L.flushed, (D.append (segName L.seg) (framesB L.seq [[]])).2⟩ _ wv wvs ⟨b4, h1.own.step s14 fun k hk => hX k (h.Sv k hk) (own_ne h1.own h1.box (by decide) hk), h.len, fun j l hj => ?_, h.Sb, h.Sv, h.Sr, fun k hk => ⟨(h.lim k hk).1, by have := hSl k hk; have := s14.size; omega⟩⟩ d4 e04 rfl o4 rfl (by have := append_err D (segName L.seg) (framesB L.seq [[]]); simp only []; omega) ?_
      · obtain ⟨u, hu1, hu2⟩ := h1.row j l hj
        exact ⟨u, hu1, hu2.step s14 fun k hk => hX k (h.Sr u (List.mem_of_getElem? hu1) k hk) (own_ne hu2 h1.box (by decide) hk)⟩
      · unfold Lg.next Lg.lay
        rw [if_neg (by omega), if_pos (by omega)]
        rfl
    · refine ⟨trivial, ?_⟩
      (with_reducible refine fld0 ?_)
      (with_reducible refine cf ?_)
      refine tsync_ok hg h.box ⟨by omega, by omega⟩ hd hbS fun w3 Sd3 d3 b3 e3 => ?_
      refine ⟨trivial, ?_⟩
      (with_reducible refine fld0 ?_)
      refine stB b3 (by simp) rfl fun w4 b4 s4 => ?_
      have n3 : ¬ Sd3 b := fun hh => (e3.grow b hh).elim hbS fun x => by have := h.box.lt; omega
      have d4 := d3.step s4 fun k hk e => n3 (e ▸ hk)
      have e3' : Evo (fun k => Sd k ∨ k = b) w (fun k => Sd3 k ∨ k = b) w3 := ⟨e3.step.mono fun k hk => .inl hk, fun k hk => hk.elim (fun h => (e3.grow k h).imp_left .inl) fun h => .inl (.inr h)⟩
      have hap := (h.both (D := D) hd hdis e3').resolve_right n3
      have s14 : Step (fun k => Sd k ∨ k = b) w w4 := e3'.step.trans s4 fun i hi => .inl (.inr hi)
      have e04 : Both S Sd w S Sd3 w4 := by
        refine ⟨⟨s14.mono fun k hk => (hk.elim .inr fun e => .inl (by rw [e]; exact h.Sb)), fun k hk => ?_⟩, hap⟩
        rcases hk with hk | hk
        · exact .inl (.inl hk)
        · exact (e3.grow k hk).imp_left .inr
      have hX : ∀ k, S k → k ≠ b → ¬ (Sd k ∨ k = b) := fun k hk hne hh => hh.elim (hdis k hk) hne
      refine fin w4 S _ { L with over := (D.sync (segName L.seg)).2 } _ wv wvs ⟨b4, h.own.step s14 fun k hk => hX k (h.Sv k hk) (own_ne h.own h.box (by decide) hk), h.len, fun j l hj => ?_, h.Sb, h.Sv, h.Sr, fun k hk => ⟨(h.lim k hk).1, by have := hSl k hk; have := s14.size; omega⟩⟩ d4 e04 rfl o4 rfl (by have := sync_err D (segName L.seg); simp only []; omega) ?_
      · obtain ⟨u, hu1, hu2⟩ := h.row j l hj
        exact ⟨u, hu1, hu2.step s14 fun k hk => hX k (h.Sr u (List.mem_of_getElem? hu1) k hk) (own_ne hu2 h.box (by decide) hk)⟩
      · unfold Lg.next
        rw [if_neg (by omega), if_neg (by omega)]
        rfl
end
end Go.Proofs.VvS

namespace Go.Proofs.VvS
open Go Go.Proofs Vv Go.RowKit

section
variable {w : World} {b d : Nat} {L : Lg} {D : Dk} {S Sd : Nat → Prop} {K : Value → World → Prop}
theorem LAt.shrink {w : World} {b d : Nat} {L : Lg} {S : Nat → Prop} (h : LAt w b L d S) : LAt w b L d S := h
theorem Both.none {S Sd S' Sd' : Nat → Prop} {w w' w2 : World} (h : Both S Sd w S' Sd' w') (hs : Step None' w' w2) : Both S Sd w S' Sd' w2 := ⟨h.evo.then_none hs, h.apart⟩
theorem Both.refl (hdis : ∀ k, S k → ¬ Sd k) : Both S Sd w S Sd w := ⟨Evo.refl _ _, hdis⟩
theorem wait_nil {L : Lg} : decide (((L.wait.length : Nat) : Int) = 0) = decide (L.wait = []) := by
  congr 1
  rw [eq_iff_iff, ← List.length_eq_zero_iff]
  omega

theorem next_over_le (L : Lg) (D : Dk) (h : L.over ≤ 1000) : (L.next D).1.over ≤ 1000 := by
  unfold Lg.next
  split
  · split
    · exact h
    · unfold Lg.tick Lg.lay; simp only []; have := append_err D (segName L.seg) (framesB L.seq L.wait); omega
  · split
    · unfold Lg.tick Lg.lay; simp only []; have := append_err D (segName L.seg) (framesB L.seq [[]]); omega
    · unfold Lg.tick; simp only []; have := sync_err D (segName L.seg); omega
theorem next_step_le (L : Lg) (D : Dk) (h : L.step ≤ 3) : (L.next D).1.step ≤ 3 := by
  unfold Lg.next Lg.tick Lg.lay
  repeat' split
  all_goals simp only []
  all_goals omega
theorem Flush_ok (hg : Glob w) (h : LAt w b L d S) (hd : DAt w d D Sd) (hdis : ∀ k, S k → ¬ Sd k) (ok : L.Ok)
    (hk : ∀ w' S' Sd', LAt w' b (L.flush D).1 d S' → DAt w' d (L.flush D).2.1 Sd' → Both S Sd w S' Sd' w' → K (.tuple #[.bool (L.flush D).2.2.1, .int .i64 (L.flush D).2.2.2]) w') : Runs Tryz.prog F_wal_Log_Flush #[.pointer (some ⟨b, 0, none⟩)] w K := by
  have h0 := h
  obtain ⟨wv, wvs, h⟩ := h
  refine c_wal_Log_Flush ?_
  unfold H_wal_Log_Flush
  unfold Lg.flush at hk
  have hov := ok.over
  refine b_ptr_nil ?_
  refine Cond_f ⟨trivial, ?_⟩
  (with_reducible refine fld0 ?_)
  (with_reducible refine ldB h.box (by (simp only [List.getElem?_toArray, List.getElem?_cons_succ, List.getElem?_cons_zero]; rfl)) ?_)
  (with_reducible refine b_neq ?_)
  by_cases ho : L.over ≠ 0
  · rw [if_pos ho] at hk
    refine cnd_t (by omega) ⟨trivial, ?_⟩
    (with_reducible refine fld0 ?_)
    have s2 := drew_step w
    generalize w.drew = w2 at s2 ⊢
    have h2 := h.step s2 fun _ _ x => x
    (with_reducible refine ldB h2.box (by (simp only [List.getElem?_toArray, List.getElem?_cons_succ, List.getElem?_cons_zero]; rfl)) ?_)
    exact hk w2 S Sd ⟨wv, wvs, h2⟩ (hd.step s2 fun _ _ x => x) ((Both.refl hdis).none s2)
  · rw [if_neg ho] at hk
    refine cnd_f (by omega) ?_
    (with_reducible refine cf ?_)
    refine next_ok hg h0 hd hdis ok fun w1 S1 Sd1 h1 d1 e1 => ?_
    have hov1 := next_over_le L D hov
    have hst1 := next_step_le L D ok.step
    generalize L.next D = N at h1 d1 hk hov1 hst1
    obtain ⟨wv1, wvs1, h1⟩ := h1
    simp only [] at hk
    refine ⟨trivial, ?_⟩
    (with_reducible refine fld0 ?_)
    have s2 := drew_step w1
    generalize w1.drew = w2 at s2 ⊢
    have h2 := h1.step s2 fun _ _ x => x
    have d2 := d1.step s2 fun _ _ x => x
    have e2 := e1.none s2
    (with_reducible refine ldB h2.box (by (simp only [List.getElem?_toArray, List.getElem?_cons_succ, List.getElem?_cons_zero]; rfl)) ?_)
    (with_reducible refine b_eql ?_)
    have fin : ∀ bb : Bool, bb = (decide (N.1.over = 0) && (decide (N.1.step = 0) && decide (N.1.wait = []))) → (nilOk (.pointer (some ⟨b, 0, none⟩)) ∧ Pu Tryz.prog (Instr.fieldAt 82 (.pointer (some ⟨b, 0, none⟩)) 6) fun t41 => Rd Tryz.prog (Instr.loadAt 30 t41) w2 fun t42 => K (Value.tuple #[.bool bb, t42]) w2) := by
      intro bb hbb
      refine ⟨trivial, ?_⟩
      (with_reducible refine fld0 ?_)
      (with_reducible refine ldB h2.box (by (simp only [List.getElem?_toArray, List.getElem?_cons_succ, List.getElem?_cons_zero]; rfl)) ?_)
      rw [hbb]
      exact hk w2 S1 Sd1 ⟨wv1, wvs1, h2⟩ d2 e2
    by_cases hz : N.1.over = 0
    · refine Gate_is (by simp [hz]) ⟨trivial, ?_⟩
      (with_reducible refine fld0 ?_)
      (with_reducible refine ldB h2.box (by (simp only [List.getElem?_toArray, List.getElem?_cons_succ, List.getElem?_cons_zero]; rfl)) ?_)
      (with_reducible refine b_eql ?_)
      by_cases hs : N.1.step = 0
      · refine Gate_is (by simp [hs]) ⟨trivial, ?_⟩
        (with_reducible refine fld0 ?_)
        (with_reducible refine ldB h2.box (by (simp only [List.getElem?_toArray, List.getElem?_cons_succ, List.getElem?_cons_zero]; rfl)) ?_)
        obtain ⟨mw, hvw⟩ := h2.own.view
        have hmw : mw = N.1.wait.length := by
          have := hvw.1
          have := h2.len
          omega
        subst hmw
        refine l_view hvw ?_
        (with_reducible refine b_eql ?_)
        rw [wait_nil]
        exact fin _ (by simp [hz, hs])
      · refine Gate_not (by simp [hs]) (fin false (by simp [hs]))
    · refine Gate_not (by simp [hz]) (fin false (by simp [hz]))

/-! ### below, Drop -/
theorem below_ok (hg : Glob w) {first : Int} (h : LAt w b L d S) (hd : DAt w d D Sd)
    (hk : ∀ v w', Own w' v T_int 1 (IV (below D.now first)) → Made w w' v → K v w') : Runs Tryz.prog F_wal_Log_below #[.pointer (some ⟨b, 0, none⟩), .int .i64 first] w K := by
  obtain ⟨wv, wvs, h⟩ := h
  refine c_wal_Log_below ?_
  unfold H_wal_Log_below
  refine bx1 rfl fun w1 x1 s1 z1 => ?_
  have h1 := h.step s1 fun _ _ x => x
  have d1 := hd.step s1 fun _ _ x => x
  refine ⟨trivial, ?_⟩
  (with_reducible refine fld0 ?_)
  refine fld0 ?_
  (with_reducible refine ldB h1.box (by (simp only [List.getElem?_toArray, List.getElem?_cons_succ, List.getElem?_cons_zero]; rfl)) ?_)
  (with_reducible refine cf ?_)
  refine segments_ok (hg.none s1) d1 fun v w2 o2 t2 => ?_
  have x2 := x1.step t2.step fun x => x
  have hnew := t2.new
  have z2 := t2.step.size
  have hln : (segs D.now).length ≤ 64 := by
    have := d1.wf.nowOk.len
    rw [segs_ms, List.length_mergeSort]
    refine Nat.le_trans (List.length_filter_le _ _) ?_
    simp; omega
  (with_reducible refine cf ?_)
  refine DeleteInt_ok o2 x2 (fun hf => by have := hnew _ hf; omega) (by omega) fun v' w3 o3 t3 => ?_
  refine hk v' w3 o3 ((Made.of_step s1 t2).turn t3)

theorem LDrop_ok (hg : Glob w) {first : Int} (h : LAt w b L d S) (hd : DAt w d D Sd) (hdis : ∀ k, S k → ¬ Sd k) (ok : L.Ok)
    (hk : ∀ w' S' Sd', LAt w' b (L.drop D first).1 d S' → DAt w' d (L.drop D first).2.1 Sd' → Both S Sd w S' Sd' w' → K (.tuple #[.bool (L.drop D first).2.2.1, .int .i64 (L.drop D first).2.2.2]) w') :
    Runs Tryz.prog F_wal_Log_Drop #[.pointer (some ⟨b, 0, none⟩), .int .i64 first] w K := by
  have h0 := h
  obtain ⟨wv, wvs, h⟩ := h
  refine c_wal_Log_Drop ?_
  unfold H_wal_Log_Drop
  unfold Lg.drop at hk
  have hov := ok.over
  refine b_ptr_nil ?_
  refine Cond_f ⟨trivial, ?_⟩
  (with_reducible refine fld0 ?_)
  (with_reducible refine ldB h.box (by (simp only [List.getElem?_toArray, List.getElem?_cons_succ, List.getElem?_cons_zero]; rfl)) ?_)
  (with_reducible refine b_neq ?_)
  by_cases ho : L.over ≠ 0
  · rw [if_pos ho] at hk
    refine cnd_t (by omega) ⟨trivial, ?_⟩
    (with_reducible refine fld0 ?_)
    have s2 := drew_step w
    generalize w.drew = w2 at s2 ⊢
    have h2 := h.step s2 fun _ _ x => x
    (with_reducible refine ldB h2.box (by (simp only [List.getElem?_toArray, List.getElem?_cons_succ, List.getElem?_cons_zero]; rfl)) ?_)
    exact hk w2 S Sd ⟨wv, wvs, h2⟩ (hd.step s2 fun _ _ x => x) ((Both.refl hdis).none s2)
  · rw [if_neg ho] at hk
    have ho0 : L.over = 0 := Decidable.not_not.1 ho
    refine cnd_f (by omega) ?_
    intro J hJ
    have Jt : (first < 1 ∨ L.seg < first) → J (.bool true) w := fun hc => hJ _ _ (Cond_t (by
      rw [if_pos hc] at hk
      exact hk w S Sd h0 hd (Both.refl hdis)))
    (with_reducible refine b_lss ?_)
    refine gt_f (fun h1 => ?_) (fun h1 => Jt (.inl h1))
    refine ⟨trivial, ?_⟩
    (with_reducible refine fld0 ?_)
    (with_reducible refine fld0 ?_)
    (with_reducible refine ldB h.box (by (simp only [List.getElem?_toArray, List.getElem?_cons_succ, List.getElem?_cons_zero]; rfl)) ?_)
    (with_reducible refine b_gtr ?_)
    by_cases hs : L.seg < first
    · rw [decide_eq_true hs]
      exact Jt (.inr hs)
    rw [decide_eq_false hs]
    rw [if_neg (by omega)] at hk
    refine hJ _ _ (Cond_f ?_)
    intro J1 hJ1
    have hbw := h.box.lt
    have hbl := h.lim b h.Sb
    have hbS := hdis b h.Sb
    (with_reducible refine cf ?_)
    refine below_ok (first := first) hg h0 hd fun v w1 o1 t1 => ?_
    have h1 := h.step t1.step fun _ _ x => x
    have d1 := hd.step t1.step fun _ _ x => x
    have g1 := hg.none t1.step
    refine l_view (Own.ints o1) ?_
    (with_reducible refine b_gtr ?_)
    -- the end
    have fin : ∀ (w2 : World) (S2 Sd2 : Nat → Prop) (L2 : Lg) (D2 : Dk) (wv2 : Value) (wvs2 : List Value), LIs w2 b L2 d S2 wv2 wvs2 → DAt w2 d D2 Sd2 → Both S Sd w S2 Sd2 w2 → Glob w2 → L2.over ≤ 1000 →
        (∀ w' , LAt w' b L2 d S2 → DAt w' d D2 Sd2 → Both S Sd w S2 Sd2 w' → K (.tuple #[.bool (decide (L2.over = 0) && decide (below D2.now first = [])), .int .i64 L2.over]) w') → J1 w2 := by
      intro w2 S2 Sd2 L2 D2 wv2 wvs2 h2 d2 e2 g2 hov2 hk2
      refine hJ1 _ ⟨trivial, ?_⟩
      (with_reducible refine fld0 ?_)
      have s3 := drew_step w2
      generalize w2.drew = w3 at s3 ⊢
      have h3 := h2.step s3 fun _ _ x => x
      have d3 := d2.step s3 fun _ _ x => x
      have e3 := e2.none s3
      (with_reducible refine ldB h3.box (by (simp only [List.getElem?_toArray, List.getElem?_cons_succ, List.getElem?_cons_zero]; rfl)) ?_)
      (with_reducible refine b_eql ?_)
      by_cases hz : L2.over = 0
      · refine Gate_is (by simp [hz]) ⟨trivial, ?_⟩
        (with_reducible refine fld0 ?_)
        (with_reducible refine ldB h3.box (by (simp only [List.getElem?_toArray, List.getElem?_cons_succ, List.getElem?_cons_zero]; rfl)) ?_)
        (with_reducible refine cf ?_)
        refine below_ok (first := first) (g2.none s3) ⟨_, _, h3⟩ d3 fun v4 w4 o4 t4 => ?_
        have h4 := h3.step t4.step fun _ _ x => x
        refine ⟨ldBs h4.box rfl, ?_⟩
        refine l_view (Own.ints o4) ?_
        (with_reducible refine b_eql ?_)
        have q := hk2 w4 ⟨_, _, h4⟩ (d3.step t4.step fun _ _ x => x) (e3.none t4.step)
        have e : decide ((((below D2.now first).length : Nat) : Int) = 0) = decide (below D2.now first = []) := by
          congr 1
          rw [eq_iff_iff, ← List.length_eq_zero_iff]
          omega
        rw [e]
        simpa [hz] using q
      · refine Gate_not (by simp [hz]) ⟨trivial, ?_⟩
        (with_reducible refine fld0 ?_)
        (with_reducible refine ldB h3.box (by (simp only [List.getElem?_toArray, List.getElem?_cons_succ, List.getElem?_cons_zero]; rfl)) ?_)
        refine ⟨ldBs h3.box rfl, ?_⟩
        have q := hk2 w3 ⟨_, _, h3⟩ d3 e3
        simpa [hz] using q
    cases hb : below D.now first with
    | nil =>
      rw [hb] at hk
      refine cnd_f (by simp) ?_
      refine fin w1 S Sd L D wv wvs h1 d1 ((Both.refl hdis).none t1.step) g1 hov fun w' a1 a2 a3 => ?_
      rw [hb, ho0]
      have q := hk w' S Sd a1 a2 a3
      simpa using q
    | cons n r =>
      rw [hb] at hk o1
      refine cnd_t (by simp) ⟨trivial, ?_⟩
      (with_reducible refine fld0 ?_)
      have s2 := drew_step w1
      generalize w1.drew = w2 at s2 ⊢
      have h2 := h1.step s2 fun _ _ x => x
      have d2 := d1.step s2 fun _ _ x => x
      have o2 := o1.step s2 fun _ _ x => x
      refine fld0 ?_
      (with_reducible refine ldB h2.box (by (simp only [List.getElem?_toArray, List.getElem?_cons_succ, List.getElem?_cons_zero]; rfl)) ?_)
      refine iget (l := n :: r) (Own.ints o2) 0 rfl (by simp) fun p _ hp => ?_
      refine ld hp ?_
      have hn64 : I64 n := by
        have hm : n ∈ below D.now first := by rw [hb]; simp
        unfold below at hm
        rw [segs_ms] at hm
        have hm2 := (List.mem_filter.1 hm).1
        rw [List.mem_mergeSort] at hm2
        obtain ⟨s, _, rfl⟩ := List.mem_map.1 (List.mem_filter.1 hm2).1
        have := segNo_range s
        exact ⟨by omega, by omega⟩
      (with_reducible refine cf ?_)
      refine Name_ok (g1.none s2) hn64 fun w3 s3 => ?_
      have h3 := h2.step s3 fun _ _ x => x
      have d3 := d2.step s3 fun _ _ x => x
      refine ⟨ldBs h3.box rfl, ?_⟩
      (with_reducible refine cf ?_)
      refine Delete_ok d3 fun w4 Sd4 d4 e4 => ?_
      have s03 : Step None' w w3 := (t1.step.then_none s2).then_none s3
      have z3 := s03.size
      have hdis4 : ∀ k, S k → ¬ Sd4 k := fun k hk hk' => (e4.grow k hk').elim (hdis k hk) fun x => by have := (h.lim k hk).2; omega
      have h4 := h3.step e4.step hdis
      refine ⟨trivial, ?_⟩
      (with_reducible refine fld0 ?_)
      refine stB h4.box (by simp) rfl fun w5 b5 s5 => ?_
      have d5 := d4.step s5 fun k hk e => hdis4 b h.Sb (e ▸ hk)
      have e5 : Both S Sd w S Sd4 w5 := ⟨⟨((s03.of_none).trans e4.step fun k hk => .inl (.inr hk)).trans s5 fun k hk => .inl (.inl (by rw [hk]; exact h.Sb)), fun k hk => hk.elim (fun x => .inl (.inl x)) fun x => (e4.grow k x).imp .inr fun y => by omega⟩, hdis4⟩
      have g5 := (((g1.none s2).none s3).step e4.step (hd.lim)).step s5 fun k hk => by omega
      have hde := delete_err D (segName n)
      refine fin w5 S Sd4 { L with over := (D.delete (segName n)).2 } (D.delete (segName n)).1 wv wvs (h4.turn s5 rfl b5) d5 e5 g5 (by simp only []; omega) fun w' a1 a2 a3 => ?_
      exact hk w' S Sd4 a1 a2 a3

/-! ### Rotate -/
theorem next_Ok {L : Lg} (ok : L.Ok) (D : Dk) : (L.next D).1.Ok := by
  obtain ⟨o1, o2, o3, o4, o5, o6, o7, o8, o9⟩ := ok
  unfold Lg.next
  split
  · rename_i h0
    rw [if_pos h0] at o6
    split
    · exact ⟨o1, o2, o3, o4, o5, by rw [if_pos h0]; exact o6, o7, o8, o9⟩
    · have he := append_err D (segName L.seg) (framesB L.seq L.wait)
      refine ⟨o1, Nat.mod_lt _ (by decide), ?_, o8, o5, ?_, ?_, by simp [Lg.tick, Lg.lay], by simp [Lg.tick, Lg.lay]⟩
      · simp only [Lg.tick, Lg.lay]; omega
      · simp only [Lg.tick, Lg.lay, h0]
        simp
        omega
      · simp only [Lg.tick, Lg.lay]; omega
  · rename_i h0
    rw [if_neg h0] at o6
    split
    · rename_i h2
      have he := append_err D (segName L.seg) (framesB L.seq [[]])
      refine ⟨o1, Nat.mod_lt _ (by decide), ?_, o4, o5, ?_, ?_, o8, o9⟩
      · simp only [Lg.tick, Lg.lay]; omega
      · simp only [Lg.tick, Lg.lay, h2]
        simp
        omega
      · simp only [Lg.tick, Lg.lay]; omega
    · have he := sync_err D (segName L.seg)
      refine ⟨o1, o2, ?_, o4, o5, ?_, ?_, o8, o9⟩
      · simp only [Lg.tick]; omega
      · simp only [Lg.tick]
        by_cases h4 : (L.step + 1) % 4 = 0 <;> by_cases h5 : (D.sync (segName L.seg)).2 = 0 <;> simp [h4, h5] <;> omega
      · simp only [Lg.tick]; omega
theorem begin_eq (L : Lg) (D : Dk) : L.begin' D = ({ L with seg := L.seg + 1, seq := (Lg.begin' ⟨L.seg, L.seq, [], 0, 0, 0, 0, 0⟩ D).1.seq }, (Lg.begin' ⟨L.seg, L.seq, [], 0, 0, 0, 0, 0⟩ D).2.1, (Lg.begin' ⟨L.seg, L.seq, [], 0, 0, 0, 0, 0⟩ D).2.2) := by
  unfold Lg.begin' Lg.lay
  simp only []
  split
  · rfl
  · split <;> rfl
theorem begin_seq (L : Lg) (D : Dk) : (L.begin' D).1.seq < 2 ^ 64 := by
  unfold Lg.begin' Lg.lay
  simp only []
  repeat' split
  all_goals exact Nat.mod_lt _ (by decide)
def stepM (b : Nat) (w : World) : Nat := match w.heap[b]? with
  | some (Obj.cells cs _ _) => (match cs[5]? with
    | some (Value.int _ n) => if n = 0 then 0 else 4 - n.toNat
    | _ => 0)
  | _ => 0
theorem stepM_eq {seg : Int} {q : Nat} {c3 c4 c6 c7 c8 : Value} {n : Nat} (h : TB w b d seg q c3 c4 (.int .i64 n) c6 c7 c8) : stepM b w = if n = 0 then 0 else 4 - n := by
  unfold stepM
  rw [show w.heap[b]? = _ from h]
  simp only [List.getElem?_toArray, List.getElem?_cons_succ, List.getElem?_cons_zero]
  by_cases h0 : n = 0
  · simp [h0]
  · rw [if_neg (by omega), if_neg h0]; omega
theorem next_step {L : Lg} (D : Dk) (h : 0 < L.step) : (L.next D).1.step = (L.step + 1) % 4 := by
  unfold Lg.next Lg.tick Lg.lay
  rw [if_neg (by omega)]
  split <;> rfl

theorem Rotate_ok (hg : Glob w) (h : LAt w b L d S) (hd : DAt w d D Sd) (hdis : ∀ k, S k → ¬ Sd k) (ok : L.Ok)
    (hk : ∀ w' S' Sd', LAt w' b (L.rotate D).1 d S' → DAt w' d (L.rotate D).2.1 Sd' → Both S Sd w S' Sd' w' → K (.tuple #[.int .i64 (L.rotate D).2.2.1, .int .i64 (L.rotate D).2.2.2]) w') :
    Runs Tryz.prog F_wal_Log_Rotate #[.pointer (some ⟨b, 0, none⟩)] w K := by
  refine c_wal_Log_Rotate ?_
  unfold H_wal_Log_Rotate
  unfold Lg.rotate at hk
  refine b_ptr_nil ?_
  refine Cond_f ?_
  refine ⟨fun wr => ∃ (n : Nat) (L1 : Lg) (D1 : Dk) (S1 Sd1 : Nat → Prop), LAt wr b L1 d S1 ∧ DAt wr d D1 Sd1 ∧ Both S Sd w S1 Sd1 wr ∧ Glob wr ∧ L1.Ok ∧ Lg.settle 4 L D = Lg.settle n L1 D1 ∧ (0 < L1.step → 4 ≤ n + L1.step),
    stepM b, ⟨4, L, D, S, Sd, h, hd, Both.refl hdis, hg, ok, rfl, fun _ => by omega⟩, ?_⟩
  rintro w1 ⟨n, L1, D1, S1, Sd1, ⟨wv, wvs, h1⟩, d1, e1, g1, ok1, hset, hn⟩
  have hst := ok1.step
  have hov := ok1.over
  have hseg := ok1.seg
  intro J1 hJ1
  -- all is settled
  have Jf : ¬ (L1.over = 0 ∧ 0 < L1.step) → J1 (.bool false) w1 := by
    intro hno
    have hs2 : Lg.settle 4 L D = (L1, D1) := by
      rw [hset]
      cases n with
      | zero => rfl
      | succ n => rw [Lg.settle, if_neg hno]
    rw [hs2] at hk
    simp only [] at hk
    refine hJ1 _ _ (Cond_f ?_)
    intro J2 hJ2
    refine ⟨trivial, ?_⟩
    (with_reducible refine fld0 ?_)
    (with_reducible refine ldB h1.box (by (simp only [List.getElem?_toArray, List.getElem?_cons_succ, List.getElem?_cons_zero]; rfl)) ?_)
    (with_reducible refine b_eql ?_)
    by_cases hz : L1.over ≠ 0
    · refine cnd_f (by omega) ?_
      rw [if_pos hz] at hk
      refine hJ2 _ ⟨trivial, ?_⟩
      (with_reducible refine fld0 ?_)
      (with_reducible refine ldB h1.box (by (simp only [List.getElem?_toArray, List.getElem?_cons_succ, List.getElem?_cons_zero]; rfl)) ?_)
      (with_reducible refine b_neq ?_)
      refine cnd_t (by omega) ⟨trivial, ?_⟩
      (with_reducible refine fld0 ?_)
      have s2 := drew_step w1
      generalize w1.drew = w2 at s2 ⊢
      have h2 := h1.step s2 fun _ _ x => x
      (with_reducible refine ldB h2.box (by (simp only [List.getElem?_toArray, List.getElem?_cons_succ, List.getElem?_cons_zero]; rfl)) ?_)
      exact hk w2 S1 Sd1 ⟨_, _, h2⟩ (d1.step s2 fun _ _ x => x) (e1.none s2)
    · have hz0 : L1.over = 0 := Decidable.not_not.1 hz
      rw [if_neg hz] at hk
      refine cnd_t (by omega) ⟨trivial, ?_⟩
      (with_reducible refine fld0 ?_)
      have hbl := h1.lim b h1.Sb
      (with_reducible refine cf ?_)
      refine begin_ok g1 h1.box ⟨by omega, by omega⟩ ok1.seq d1 (e1.apart b h1.Sb) hbl.1 fun w2 Sd2 q2 d2 hq2 b2 e2 n2 => ?_
      have hbe := begin_err ⟨L1.seg, L1.seq, [], 0, 0, 0, 0, 0⟩ D1
      rw [begin_eq] at hk
      generalize Lg.begin' ⟨L1.seg, L1.seq, [], 0, 0, 0, 0, 0⟩ D1 = B at hk d2 hq2 hbe ⊢
      subst hq2
      simp only [] at hk
      have hap := (h1.both (D := D1) d1 e1.apart e2).resolve_right n2
      refine ⟨trivial, ?_⟩
      (with_reducible refine fld0 ?_)
      refine stB b2 (by simp) rfl fun w3 b3 s3 => ?_
      have d3 := d2.step s3 fun k hk e => n2 (e ▸ hk)
      have s13 : Step (fun k => Sd1 k ∨ k = b) w1 w3 := e2.step.trans s3 fun i hi => .inl (.inr hi)
      have hX : ∀ k, S1 k → k ≠ b → ¬ (Sd1 k ∨ k = b) := fun k hk hne hh => hh.elim (e1.apart k hk) hne
      have h3 : LIs w3 b { L1 with seg := L1.seg + 1, seq := B.1.seq, over := B.2.2 } d S1 wv wvs := by
        refine ⟨b3, h1.own.step s13 fun k hk => hX k (h1.Sv k hk) (own_ne h1.own h1.box (by decide) hk), h1.len, fun j l hj => ?_, h1.Sb, h1.Sv, h1.Sr, fun k hk => ⟨(h1.lim k hk).1, by have := (h1.lim k hk).2; have := s13.size; omega⟩⟩
        obtain ⟨u, hu1, hu2⟩ := h1.row j l hj
        exact ⟨u, hu1, hu2.step s13 fun k hk => hX k (h1.Sr u (List.mem_of_getElem? hu1) k hk) (own_ne hu2 h1.box (by decide) hk)⟩
      have e3 : Both S Sd w S1 Sd2 w3 := by
        refine ⟨⟨e1.evo.step.trans s13 fun k hk => ?_, fun k hk => ?_⟩, hap⟩
        · rcases hk with hk | hk
          · exact e1.evo.grow k (.inr hk)
          · rw [hk]; exact e1.evo.grow b (.inl h1.Sb)
        · have z1 := e1.evo.size
          rcases hk with hk | hk
          · exact e1.evo.grow k (.inl hk)
          · rcases e2.grow k (.inl hk) with (h5 | h5) | h5
            · exact e1.evo.grow k (.inr h5)
            · rw [h5]; exact e1.evo.grow b (.inl h1.Sb)
            · exact .inr (by omega)
      refine hJ2 _ ⟨trivial, ?_⟩
      (with_reducible refine fld0 ?_)
      (with_reducible refine ldB h3.box (by (simp only [List.getElem?_toArray, List.getElem?_cons_succ, List.getElem?_cons_zero]; rfl)) ?_)
      (with_reducible refine b_neq ?_)
      by_cases hB : B.2.2 ≠ 0
      · rw [if_pos hB] at hk
        refine cnd_t (by omega) ⟨trivial, ?_⟩
        (with_reducible refine fld0 ?_)
        have s4 := drew_step w3
        generalize w3.drew = w4 at s4 ⊢
        have h4 := h3.step s4 fun _ _ x => x
        (with_reducible refine ldB h4.box (by (simp only [List.getElem?_toArray, List.getElem?_cons_succ, List.getElem?_cons_zero]; rfl)) ?_)
        exact hk w4 S1 Sd2 ⟨_, _, h4⟩ (d3.step s4 fun _ _ x => x) (e3.none s4)
      · rw [if_neg hB] at hk
        refine cnd_f (by omega) ⟨trivial, ?_⟩
        (with_reducible refine fld0 ?_)
        (with_reducible refine fld0 ?_)
        (with_reducible refine ldB h3.box (by (simp only [List.getElem?_toArray, List.getElem?_cons_succ, List.getElem?_cons_zero]; rfl)) ?_)
        exact hk w3 S1 Sd2 ⟨_, _, h3⟩ d3 e3
  refine ⟨trivial, ?_⟩
  (with_reducible refine fld0 ?_)
  (with_reducible refine ldB h1.box (by (simp only [List.getElem?_toArray, List.getElem?_cons_succ, List.getElem?_cons_zero]; rfl)) ?_)
  (with_reducible refine b_eql ?_)
  by_cases hz : L1.over = 0
  · refine Gate_is (by simp [hz]) ⟨trivial, ?_⟩
    (with_reducible refine fld0 ?_)
    (with_reducible refine ldB h1.box (by (simp only [List.getElem?_toArray, List.getElem?_cons_succ, List.getElem?_cons_zero]; rfl)) ?_)
    (with_reducible refine b_gtr ?_)
    by_cases hs : 0 < L1.step
    · rw [decide_eq_true (by omega)]
      refine hJ1 _ _ (Cond_t ?_)
      (with_reducible refine cf ?_)
      refine next_ok g1 ⟨_, _, h1⟩ d1 e1.apart ok1 fun w2 S2 Sd2 h2 d2 e2 => ?_
      obtain ⟨n', rfl⟩ : ∃ n', n = n' + 1 := ⟨n - 1, by have := hn hs; omega⟩
      have hns := next_step D1 hs
      have hok2 := next_Ok ok1 D1
      have g2 := g1.step e2.step fun k hk => hk.elim (fun x => (h1.lim k x).1) fun x => d1.lim k x
      obtain ⟨wv2, wvs2, h2⟩ := h2
      refine ⟨⟨n', (L1.next D1).1, (L1.next D1).2, S2, Sd2, ⟨_, _, h2⟩, d2, e1.trans e2, g2, hok2, ?_, fun hp => ?_⟩, ?_⟩
      · rw [hset, Lg.settle, if_pos ⟨hz, hs⟩]
      · have := hn hs; omega
      · rw [stepM_eq h1.box, stepM_eq h2.box, hns]
        split <;> split <;> omega
    · rw [decide_eq_false (by omega)]
      exact Jf (fun h => hs h.2)
  · exact Gate_not (by simp [hz]) (Jf (fun h => hz h.1))
end
end Go.Proofs.VvS

namespace Go.Proofs.VvS
open Go Go.Proofs Vv Go.RowKit

theorem read_len {D : Dk} (h : D.WF) (s : Name) : (D.read s).1.length ≤ 262144 := by
  unfold Dk.read
  split
  · simp
  · split
    · simp
    · cases hl : nlook D.now s with
      | none => simp
      | some i =>
        have hi := look_lt h hl
        simp only [List.getElem?_eq_getElem hi, Option.map_some, Option.getD_some]
        exact (h.syn _ (List.getElem_mem hi)).2
theorem read_err (D : Dk) (s : Name) : (D.read s).2 ≤ 24 := by
  unfold Dk.read
  repeat' split
  all_goals simp
theorem read_lg (D : Dk) : ((D.read lg).2 = 24 ↔ D.off = true) := by
  unfold Dk.read
  cases D.off with
  | true => simp
  | false =>
    have : isName lg = true := by decide
    rw [this]
    simp only [Bool.false_eq_true, if_false, Bool.not_true, iff_false]
    split <;> simp
theorem bods_len : ∀ {bs : List (List UInt8)} {cs : List Cm}, bods bs = some cs → cs.length ≤ bs.length
  | [], cs, h => by simp [bods] at h; subst h; simp
  | [] :: r, cs, h => by
    rw [bods] at h
    have := bods_len h
    simp; omega
  | (c :: x) :: r, cs, h => by
    rw [bods] at h
    split at h
    · obtain ⟨l, h1, rfl⟩ := Option.map_eq_some_iff.1 h
      have := bods_len h1
      simp; omega
    · cases h
theorem rdBods_len {seg : Int} {bs : List (List UInt8)} {cs : List Cm} (h : rdBods seg bs = some cs) : cs.length ≤ bs.length := by
  cases bs with
  | nil => simp [rdBods] at h; subst h; simp
  | cons a r =>
    rw [rdBods] at h
    split at h
    · have := bods_len h
      simp; omega
    · cases h
theorem rdGo_len {seg : Int} {q : Nat} {b : List UInt8} {cs : List Cm} {m q' : Nat} (h : rdSeg.go seg b q = some (cs, m, q')) : cs.length * 32 ≤ b.length ∧ q' < 2 ^ 64 ∧ m * 32 ≤ b.length := by
  unfold rdSeg.go at h
  split at h
  · cases h
  · rename_i bs a ha
    obtain ⟨l, h1, h2⟩ := Option.map_eq_some_iff.1 h
    cases h2
    have := fall_len ha
    have := rdBods_len h1
    exact ⟨by omega, Nat.mod_lt _ (by decide), by omega⟩
theorem rdSeg_len {seg : Int} {q : Nat} {b : List UInt8} {known : Bool} {cs : List Cm} {m q' : Nat} (h : rdSeg seg q b known = some (cs, m, q')) : cs.length * 32 ≤ b.length ∧ q' < 2 ^ 64 ∧ m * 32 ≤ b.length := by
  unfold rdSeg at h
  split at h
  · split at h
    · cases h
    · exact rdGo_len h
  · exact rdGo_len h

/-- two rows of commits become one -/
theorem CRows.join {base : Nat} {w : World} {v u : Value} {cs ds : List Cm} {svs tvs : List Value} {ty : TypeId} {cc : Array Bool} {K : Value → World → Prop} (h : CRows base w v cs svs) (k : CRows base w u ds tvs) (hap : ∀ a ∈ svs, ∀ b ∈ tvs, ∀ k, foot a k → ¬ foot b k) (hvu : ∀ k, foot u k → ¬ foot v k) (hbase : base ≤ w.heap.size) (hl : cs.length + ds.length ≤ 1000000)
    (hk : ∀ v' w', CRows base w' v' (cs ++ ds) (svs ++ tvs) → Turn w v w' v' → K v' w') : BltD Tryz.prog .append #[T_s_api_Commit, T_s_api_Commit] ty cc #[v, u] w K := by
  have one : ∀ u ∈ tvs, u.oneCell' = true := by
    intro u hu
    obtain ⟨j, hj⟩ := List.getElem?_of_mem hu
    have hjl := (List.getElem?_eq_some_iff.1 hj).1
    rw [k.len] at hjl
    obtain ⟨u', h1, h2⟩ := k.row j _ (List.getElem?_eq_getElem hjl)
    rw [hj] at h1; cases h1
    exact h2.shape1
  refine app h.own (ASrc.of_view k.view) (cmCells_one one) (fun n hn => by rw [cmCells_len h.len] at hn; unfold maxLen; omega) fun v' w' o' t' => ?_
  have keep : ∀ (c : Cm) (y : Value), Own w y T_api_Write 3 (wrRow c.writes) → Own w' y T_api_Write 3 (wrRow c.writes) := fun c y hy => hy.step t'.step fun k hk hk2 => by
    have t1 := tag_own hy hk
    rw [tag_own h.own hk2] at t1
    exact absurd t1 (by decide)
  refine hk v' w' ⟨by rw [cmCells_app h.len]; exact o', by simp [h.len, k.len], fun j c hj => ?_, fun k hk => (t'.grow k hk).elim (h.new k) fun x => by omega, fun y hy k2 hk2 => ?_, ?_⟩ t'
  · by_cases hjl : j < cs.length
    · rw [List.getElem?_append_left hjl] at hj
      obtain ⟨y, h1, h2⟩ := h.row j c hj
      exact ⟨y, by rw [List.getElem?_append_left (by have := h.len; omega)]; exact h1, keep c y h2⟩
    · rw [List.getElem?_append_right (by omega)] at hj
      obtain ⟨y, h1, h2⟩ := k.row _ c hj
      exact ⟨y, by rw [List.getElem?_append_right (by have := h.len; omega), h.len]; exact h1, keep c y h2⟩
  · rcases List.mem_append.1 hy with hy | hy
    · exact h.apart y hy k2 hk2
    · exact k.apart y hy k2 hk2
  · rw [List.pairwise_append]
    exact ⟨h.sep, k.sep, hap⟩

section
variable {w : World} {d : Nat} {D : Dk} {Sd : Nat → Prop} {K : Value → World → Prop}
set_option maxHeartbeats 2000000 in
set_option maxRecDepth 8000 in
theorem Open_ok (hg : Glob w) {fr : Int} (hd : DAt w d D Sd) (hfr : I64 fr)
    (h0 : (wopen D fr).2.2 = none → ∀ w' Sd', DAt w' d (wopen D fr).1 Sd' → Evo Sd w Sd' w' → K (.tuple #[.pointer none, .slice none 0 0, .int .i64 (wopen D fr).2.1]) w')
    (h1 : ∀ L cs, (wopen D fr).2.2 = some (L, cs) → ∀ b u svs w' S' Sd', LAt w' b L d S' → DAt w' d (wopen D fr).1 Sd' → Evo Sd w Sd' w' → (∀ k, S' k → ¬ Sd' k) → (∀ k, S' k → w.heap.size ≤ k) → CRows w.heap.size w' u cs svs →
      (∀ k, foot u k → ¬ S' k ∧ ¬ Sd' k) → (∀ y ∈ svs, ∀ k, foot y k → ¬ S' k ∧ ¬ Sd' k) → K (.tuple #[.pointer (some ⟨b, 0, none⟩), u, .int .i64 0]) w') :
    Runs Tryz.prog F_wal_Open #[.pointer (some ⟨d, 0, none⟩), .int .i64 fr] w K := by
  unfold I64 at hfr
  have hSdl := hd.lt
  have hwf := hd.wf
  refine c_wal_Open ?_
  unfold H_wal_Open
  unfold wopen at h0 h1
  refine b_ptr_nil ?_
  refine Cond_f ?_
  intro J hJ
  have Jt : (fr < 1 ∨ 1073741824 < fr) → J (.bool true) w := fun hc => hJ _ _ (Cond_t (by
    rw [if_pos hc] at h0
    exact h0 rfl w Sd hd (Evo.refl _ _)))
  (with_reducible refine b_lss ?_)
  refine gt_f (fun hc1 => ?_) (fun hc1 => Jt (.inl hc1))
  (with_reducible refine b_gtr ?_)
  by_cases hc2 : 1073741824 < fr
  · rw [decide_eq_true hc2]
    exact Jt (.inr hc2)
  rw [decide_eq_false hc2]
  rw [if_neg (by omega)] at h0 h1
  refine hJ _ _ (Cond_f ?_)
  clear Jt hJ
  have hro := read_lg D
  (with_reducible refine cf ?_)
  refine Read_ok (s := lg) hd fun rv w1 o1 t1 => ?_
  (with_reducible refine ext2_0 ?_); (with_reducible refine ext2_1 ?_)
  refine b_eql ?_
  have d1 := hd.step t1.step fun _ _ x => x
  by_cases hoff : D.off = true
  · rw [if_pos hoff] at h0
    have h24 := hro.2 hoff
    refine cnd_t (by omega) ?_
    rw [h24]
    exact h0 rfl w1 Sd d1 (Evo.of_none t1.step)
  rw [if_neg hoff] at h0 h1
  refine cnd_f (fun h => hoff (hro.1 (by omega))) ?_
  (with_reducible refine b_sub (by (first | (unfold I64; omega) | omega)) ?_)
  refine bld #[.pointer (some ⟨d, 0, none⟩), .int .i64 (fr - 1), .int .u64 0] (by kernel_rfl) ?_
  refine bld #[.pointer (some ⟨d, 0, none⟩), .int .i64 (fr - 1), .int .u64 0, .slice none 0 0, .int .i64 0, .int .i64 0, .int .i64 0, .int .i64 0, .int .i64 0] (by kernel_rfl) ?_
  refine bxA fun w2 b2 s2 z2 => ?_
  have d2 := d1.step s2 fun _ _ x => x
  have g2 := (hg.none t1.step).none s2
  have z1 := t1.step.size
  have s02 : Step None' w w2 := t1.step.then_none s2
  have hgz := hg.size
  generalize hbdef : w1.heap.size = b at b2 z2 ⊢
  have hbw : w.heap.size ≤ b := by omega
  replace b2 : TB w2 b d (fr - 1) 0 (.slice none 0 0) (.int .i64 0) (.int .i64 0) (.int .i64 0) (.int .i64 0) (.int .i64 0) := b2
  (with_reducible refine cf ?_)
  refine segments_ok g2 d2 fun iv w3 o3 t3 => ?_
  have b3 := b2.step t3.step fun x => x
  have d3 := d2.step t3.step fun _ _ x => x
  have g3 := g2.none t3.step
  have s03 := s02.then_none t3.step
  have hin := t3.new
  have hallI : ∀ n ∈ segs D.now, 1 ≤ n ∧ n ≤ 1073807360 := by
    intro n hn
    rw [segs_ms, List.mem_mergeSort] at hn
    obtain ⟨hn1, hn2⟩ := List.mem_filter.1 hn
    obtain ⟨s, _, rfl⟩ := List.mem_map.1 hn1
    have := segNo_range s
    simp at hn2
    omega
  have hlen64 : (segs D.now).length ≤ 64 := by
    have := hwf.nowOk.len
    rw [segs_ms, List.length_mergeSort]
    refine Nat.le_trans (List.length_filter_le _ _) ?_
    simp; omega
  generalize segs D.now = all at o3 h0 h1 hallI hlen64
  have hiv := Own.ints o3
  refine l_view hiv ?_
  -- no segment is missing
  refine ⟨fun i wr => ∃ j : Nat, i = .int .i64 j ∧ j ≤ all.length ∧ w3 = wr ∧ ∀ k, k < j → gap fr all k = false, fun i _ => match i with | .int _ q => all.length - q.toNat | _ => 0, ⟨0, rfl, by omega, rfl, fun k hk => by omega⟩, ?_⟩
  rintro _ _ ⟨j, rfl, hj, rfl, hgap⟩
  (with_reducible refine b_lss ?_)
  refine cnd (fun hlt => ?_) (fun hlt => ?_)
  · have hjl : j < all.length := by omega
    refine iget hiv j rfl hjl fun p _ hp => ?_
    refine ld hp ?_
    have hn := hallI _ (List.getElem_mem hjl)
    intro J2 hJ2
    have gt2 : gap fr all j = true → J2 (.bool true) w3 := fun hgj => hJ2 _ _ (Cond_t (by
      have : (List.range all.length).any (gap fr all) = true := List.any_eq_true.2 ⟨j, by simp [hjl], hgj⟩
      simp only [this, if_true] at h0
      exact h0 trivial w3 Sd d3 (Evo.of_none s03)))
    have gf2 : gap fr all j = false → J2 (.bool false) w3 := fun hgj => hJ2 _ _ (Cond_f (by
      (with_reducible refine b_add (by (first | (unfold I64; omega) | omega)) ?_)
      exact ⟨⟨j + 1, by simp, by omega, rfl, fun k hk => by
        by_cases e : k = j
        · rw [e]; exact hgj
        · exact hgap k (by omega)⟩, by simp only []; omega⟩))
    have hgd : all.getD j 0 = all[j] := by simp [hjl]
    (with_reducible refine b_gtr ?_)
    refine gt_t (fun hgt => ?_) (fun hgt => gf2 (by unfold gap; rw [hgd]; simp; omega))
    (with_reducible refine b_eql ?_)
    refine gt_f (fun hj0 => ?_) (fun hj0 => gt2 (by unfold gap; rw [hgd]; simp; omega))
    (with_reducible refine b_sub (by (first | (unfold I64; omega) | omega)) ?_)
    have hj1 : j - 1 < all.length := by omega
    have hgd1 : all.getD (j - 1) 0 = all[j - 1] := by simp [hj1]
    refine iget hiv (j - 1) (by omega) hj1 fun p2 _ hp2 => ?_
    refine ld hp2 ?_
    have hn2 := hallI _ (List.getElem_mem hj1)
    (with_reducible refine b_sub (by (first | (unfold I64; omega) | omega)) ?_)
    (with_reducible refine b_neq ?_)
    by_cases hne : all[j - 1] ≠ all[j] - 1
    · rw [decide_eq_true hne]
      exact gt2 (by unfold gap; rw [hgd, hgd1]; simp; omega)
    · rw [decide_eq_false hne]
      exact gf2 (by unfold gap; rw [hgd, hgd1]; simp; omega)
  · have hjn : j = all.length := by omega
    subst hjn
    have hnogap : (List.range all.length).any (gap fr all) = false := by
      rw [List.any_eq_false]
      intro k hk
      rw [hgap k (by simpa using hk)]
      decide
    simp only [hnogap, Bool.false_eq_true, if_false] at h0 h1
    clear hgap
    refine l_view hiv ?_
    -- the segments are read
    refine ⟨fun x y i wr => ∃ (j : Nat) (seg : Int) (q : Nat) (kn : Bool) (cs : List Cm) (svs : List Value), y = .bool kn ∧ i = .int .i64 j ∧ j ≤ all.length ∧ 0 ≤ seg ∧ seg ≤ 1073807360 ∧ q < 2 ^ 64 ∧ cs.length ≤ 8192 * j ∧ CRows w3.heap.size wr x cs svs ∧ (∀ y ∈ svs, ∀ k, foot y k → k < wr.heap.size) ∧ TB wr b d seg q (.slice none 0 0) (.int .i64 0) (.int .i64 0) (.int .i64 0) (.int .i64 0) (.int .i64 0) ∧
        Step (fun k => k = b) w3 wr ∧ rdAll D fr all (fr - 1, 0, false, []) = rdAll D fr (all.drop j) (seg, q, kn, cs),
      fun _ _ i _ => match i with | .int _ m => all.length - m.toNat | _ => 0, ⟨0, fr - 1, 0, false, [], [], rfl, rfl, by omega, by omega, by omega, by omega, by simp, CRows.nil _ _, fun y hy => by simp at hy, b3, Step.refl _ _, rfl⟩, ?_⟩
    rintro x _ _ w4 ⟨j, seg, q, kn, cs, svs, rfl, rfl, hj, hseg0, hseg1, hq, hcl, hcr, hsvl, b4, s34, hrd⟩
    have d4 := d3.step s34 fun k hk e => by have := hSdl k hk; omega
    have g4 := g3.step s34 fun k hk => by omega
    have z34 := s34.size
    have hbw4 := b4.lt
    have hb3 := b3.lt
    have s04 : Step None' w w4 := s03.then_new s34 fun i hi => by omega
    have hiv4 := View.step hiv s34 fun k hk e => by have := hin k hk; have := b2.lt; omega
    (with_reducible refine b_lss ?_)
    refine cnd (fun hlt => ?_) (fun hlt => ?_)
    · have hjl : j < all.length := by omega
      refine iget hiv4 j rfl hjl fun p _ hp => ?_
      refine ld hp ?_
      have hn := hallI _ (List.getElem_mem hjl)
      rw [List.drop_eq_getElem_cons hjl, rdAll] at hrd
      generalize all[j] = n at hn hrd ⊢
      (with_reducible refine b_lss ?_)
      refine cnd (fun hskip => ?_) (fun hskip => ?_)
      · rw [if_pos hskip] at hrd
        (with_reducible refine b_add (by (first | (unfold I64; omega) | omega)) ?_)
        exact ⟨⟨j + 1, seg, q, kn, cs, svs, rfl, by simp, by omega, hseg0, hseg1, hq, by omega, hcr, hsvl, b4, s34, hrd⟩, by simp only []; omega⟩
      · rw [if_neg hskip] at hrd
        refine ⟨trivial, ?_⟩
        (with_reducible refine fld0 ?_)
        (with_reducible refine fld0 ?_)
        refine stB b4 (by simp) rfl fun w5 b5 s5 => ?_
        replace b5 : TB w5 b d n q (.slice none 0 0) (.int .i64 0) (.int .i64 0) (.int .i64 0) (.int .i64 0) (.int .i64 0) := b5
        have d5 := d4.step s5 fun k hk e => by have := hSdl k hk; omega
        have g5 := g4.step s5 fun k hk => by omega
        refine ⟨trivial, ?_⟩
        (with_reducible refine fld0 ?_)
        (with_reducible refine cf ?_)
        refine tname_ok g5 b5 ⟨by omega, by omega⟩ fun w6 s6 => ?_
        have b6 := b5.step s6 fun x => x
        have d6 := d5.step s6 fun _ _ x => x
        (with_reducible refine cf ?_)
        refine Read_ok d6 fun rb w7 o7 t7 => ?_
        have hrl := read_len hwf (segName n)
        have hre := read_err D (segName n)
        generalize D.read (segName n) = R at o7 hrd hrl hre ⊢
        have b7 := b6.step t7.step fun x => x
        have d7 := d6.step t7.step fun _ _ x => x
        (with_reducible refine ext2_0 ?_); (with_reducible refine ext2_1 ?_); (with_reducible refine b_neq ?_)
        have s47 : Step (fun k => k = b) w4 w7 := (s5.then_none s6).then_none t7.step
        have s07 : Step None' w w7 := s04.then_new s47 fun i hi => by omega
        by_cases he : R.2 ≠ 0
        · rw [if_pos he] at hrd
          refine cnd_t (by omega) ?_
          rw [hrd] at h0
          exact h0 rfl w7 Sd d7 (Evo.of_none s07)
        · rw [if_neg he] at hrd
          refine cnd_f (by omega) ⟨trivial, ?_⟩
          (with_reducible refine fld0 ?_)
          have z6 := s5.size
          have z7 := s6.size
          have hnb : ¬ foot rb b := fun hf => by have := t7.new b hf; omega
          (with_reducible refine cf ?_)
          refine tread_ok b7 o7.bytes hnb (by omega) ⟨by omega, by omega⟩ hq (fun hno w8 q8 b8 s8 => ?_) (fun ds m q8 hyes u tvs w8 b8 cr8 s8 => ?_)
          · (with_reducible refine ext3_0 ?_); (with_reducible refine ext3_1 ?_); (with_reducible refine ext3_2 ?_); (with_reducible refine b_neq ?_)
            refine cnd_t (by decide) ?_
            rw [hno] at hrd
            rw [hrd] at h0
            refine h0 rfl w8 Sd (d7.step s8 fun k hk e => by have := hSdl k hk; omega) (Evo.of_none (s07.then_new s8 fun i hi => by omega))
          · (with_reducible refine ext3_0 ?_); (with_reducible refine ext3_1 ?_); (with_reducible refine ext3_2 ?_); (with_reducible refine b_neq ?_)
            refine cnd_f (by decide) ?_
            rw [hyes] at hrd
            have hlen := rdSeg_len hyes
            have z47 := s47.size
            have s48 : Step (fun k => k = b) w4 w8 := s47.trans s8 fun i hi => .inl hi
            have hb3' : b < w3.heap.size := hb3
            have hcr8 := hcr.step s48 fun k hk => by omega
            have cr8' : CRows w3.heap.size w8 u ds tvs := cr8.base (by omega)
            have hx4 := hcr.own.lt
            have hfit : ∀ y ∈ tvs, ∀ k, foot y k → k < w8.heap.size := by
              intro y hy k hk
              obtain ⟨i, hi⟩ := List.getElem?_of_mem hy
              have hil := (List.getElem?_eq_some_iff.1 hi).1
              rw [cr8.len] at hil
              obtain ⟨y', g1, g2⟩ := cr8.row i _ (List.getElem?_eq_getElem hil)
              rw [hi] at g1; cases g1
              exact g2.lt k hk
            refine CRows.join hcr8 cr8' (fun a ha y hy k hk hk2 => ?_) (fun k hk hk2 => ?_) (by have := s48.size; omega) (by omega) fun x' w9 cr9 t9 => ?_
            · have := hsvl a ha k hk
              have := cr8.apart y hy k hk2
              omega
            · have := cr8.new k hk
              have := hx4 k hk2
              omega
            have hxb : ¬ foot x b := fun hf => by have := hcr.new b hf; omega
            have b9 := b8.step t9.step hxb
            have s39 : Step (fun k => k = b) w3 w9 := (s34.trans s48 fun i hi => .inl hi).trans t9.step fun i hi => .inr (hcr.new i hi)
            have hsv9 : ∀ y ∈ svs ++ tvs, ∀ k, foot y k → k < w9.heap.size := by
              intro y hy k hk
              have := t9.step.size
              have := s48.size
              rcases List.mem_append.1 hy with hy | hy
              · have := hsvl y hy k hk; omega
              · have := hfit y hy k hk; omega
            have hgo : ∀ kn' : Bool, kn' = (kn || decide (0 < m)) → ∃ (j' : Nat) (seg : Int) (q : Nat) (kn'' : Bool) (cs' : List Cm) (svs : List Value), Value.bool kn' = .bool kn'' ∧ Value.int .i64 ((j : Int) + 1) = .int .i64 j' ∧ j' ≤ all.length ∧ 0 ≤ seg ∧ seg ≤ 1073807360 ∧ q < 2 ^ 64 ∧ cs'.length ≤ 8192 * j' ∧ CRows w3.heap.size w9 x' cs' svs ∧ (∀ y ∈ svs, ∀ k, foot y k → k < w9.heap.size) ∧ TB w9 b d seg q (.slice none 0 0) (.int .i64 0) (.int .i64 0) (.int .i64 0) (.int .i64 0) (.int .i64 0) ∧
                Step (fun k => k = b) w3 w9 ∧ rdAll D fr all (fr - 1, 0, false, []) = rdAll D fr (all.drop j') (seg, q, kn'', cs') := by
              intro kn' hkn
              refine ⟨j + 1, n, q8, kn', cs ++ ds, svs ++ tvs, rfl, by simp, by omega, by omega, by omega, hlen.2.1, by rw [List.length_append]; omega, cr9, hsv9, b9, s39, ?_⟩
              rw [hrd, hkn]
            cases kn with
            | true =>
              refine Gate_not rfl ?_
              (with_reducible refine b_add (by (first | (unfold I64; omega) | omega)) ?_)
              exact ⟨hgo true rfl, by simp only []; omega⟩
            | false =>
              refine Gate_is rfl ?_
              (with_reducible refine b_gtr ?_)
              (with_reducible refine b_add (by (first | (unfold I64; omega) | omega)) ?_)
              have e : decide ((0 : Int) < (m : Int)) = decide (0 < m) := by
                congr 1; rw [eq_iff_iff]; omega
              rw [e]
              exact ⟨hgo _ (by simp), by simp only []; omega⟩
    · have hjn : j = all.length := by omega
      subst hjn
      rw [List.drop_length, rdAll] at hrd
      rw [hrd] at h0 h1
      simp only [] at h0 h1
      refine ⟨trivial, ?_⟩
      (with_reducible refine fld0 ?_)
      have hxl := hcr.own.lt
      (with_reducible refine cf ?_)
      refine begin_ok g4 b4 ⟨hseg0, by omega⟩ hq d4 (fun hh => by have := hSdl b hh; omega) (by omega) fun w5 Sd5 q5 d5 hq5 b5 e5 n5 => ?_
      have hbe := begin_err ⟨seg, q, [], 0, 0, 0, 0, 0⟩ D
      rw [begin_eq ⟨seg, q, [], 0, 0, 0, 0, 0⟩ D] at h0 h1
      generalize Lg.begin' ⟨seg, q, [], 0, 0, 0, 0, 0⟩ D = B at h0 h1 d5 hq5 hbe ⊢
      subst hq5
      simp only [] at h0 h1
      have z5 := e5.size
      have e05 : Evo Sd w Sd5 w5 := ⟨(s04.of_none).trans e5.step fun k hk => hk.imp id fun e => by omega, fun k hk => (e5.grow k (.inl hk)).elim (fun h => h.imp id fun e => by omega) fun h => .inr (by have := s04.size; omega)⟩
      (with_reducible refine b_neq ?_)
      by_cases hB : B.2.2 ≠ 0
      · rw [if_pos hB] at h0
        refine cnd_t (by omega) ?_
        exact h0 rfl w5 Sd5 d5 e05
      · rw [if_neg hB] at h0 h1
        refine cnd_f (by omega) ?_
        have hcr5 : CRows w3.heap.size w5 x cs svs := by
          refine hcr.step (S := fun k => Sd k ∨ k = b) e5.step fun k hk => ?_
          have := s03.size
          rcases hk with hk | hk
          · have := hSdl k hk; omega
          · omega
        have hgr5 : ∀ k, w3.heap.size ≤ k → k < w4.heap.size → ¬ Sd5 k := by
          intro k hk1 hk2 hk3
          have := s03.size
          rcases e5.grow k (.inl hk3) with (hk4 | hk4) | hk4
          · have := hSdl k hk4; omega
          · omega
          · omega
        have hz03 := s03.size
        refine h1 _ cs rfl b x svs w5 (fun k => k = b) Sd5 ⟨.slice none 0 0, [], ⟨b5, Own.nil _ _ _, rfl, fun j l hj => by simp at hj, rfl, fun k hk => by simp [foot, Value.ownBlock] at hk, fun u hu => by simp at hu, fun k hk => by subst hk; exact ⟨by omega, by omega⟩⟩⟩ d5 e05 (fun k hk => by subst hk; exact n5) (fun k hk => by omega) (hcr5.base hz03) (fun k hk => ?_) fun y hy k hk => ?_
        · have := hcr.new k hk
          have := hxl k hk
          exact ⟨by omega, hgr5 k (by omega) (by omega)⟩
        · have := hcr.apart y hy k hk
          have := hsvl y hy k hk
          exact ⟨by omega, hgr5 k (by omega) (by omega)⟩
end
end Go.Proofs.VvS

namespace Go.Proofs.VvS
open Go Go.Proofs Vv Go.RowKit

/-! ### a commit of one write -/
def oneC (t : Int) : Cm := ⟨t, [⟨[97], [120], false⟩]⟩
theorem one_ok {w : World} {t : Int} {K : Value → World → Prop} (hk : ∀ v w', CVal w' v (oneC t) → Step None' w w' → K v w') : Runs Tryz.prog F_varvelaw08_one #[.int .i64 t] w K := by
  refine c_varvelaw08_one ?_
  unfold H_varvelaw08_one
  refine alA fun w1 a1 s1 z1 => ?_
  refine bld #[Str [97], Str [120], .bool false] (by kernel_rfl) ?_
  refine bsS rfl (by show 0 < 3 ∧ 3 ≤ 1000; decide) ?_
  have v2 : View (w1.alloc (.cells #[Str [97], Str [120], .bool false] T_api_Write)) (.slice (some ⟨w1.heap.size, 0, none⟩) 1 1) 3 1 [Str [97], Str [120], .bool false] := View.oneS w1 _ _
  have s2 : Step None' w1 (w1.alloc (.cells #[Str [97], Str [120], .bool false] T_api_Write)) := (Step.refl _ _).alloc _
  have ec : (Value.agg #[Str [97], Str [120], .bool false]).cells = #[Str [97], Str [120], .bool false] := rfl
  rw [ec]
  generalize (w1.alloc (.cells #[Str [97], Str [120], .bool false] T_api_Write)) = w2 at v2 s2 ⊢
  refine bld #[.int .i64 t, .slice (some ⟨w1.heap.size, 0, none⟩) 1 1] (by kernel_rfl) ?_
  have a2 := a1.step s2 fun x => x
  refine stW a2 rfl rfl (by intro y hy; simp at hy; rcases hy with rfl | rfl <;> rfl) fun w3 a3 s3 => ?_
  refine rvW a3 rfl ?_
  refine hk _ w3 ⟨_, rfl, ?_⟩ ((s1.then_none s2).then_new s3 fun i hi => by omega)
  refine View.step v2 s3 fun k hk e => ?_
  simp [foot, Value.ownBlock] at hk
  omega

/-! ### the examples at the head -/
def okB (L : Lg) : Bool := decide (0 ≤ L.seg ∧ L.seg ≤ 4000000000000000000) && decide (L.seq < 2 ^ 64) && decide (L.step ≤ 3) && decide (L.group ≤ 10000) && decide (L.tickets ≤ 1000000000000000) &&
  decide (L.flushed + (if L.step = 0 then 0 else L.group) + L.wait.length ≤ L.tickets) && decide (L.over ≤ 1000) && decide (L.wait.length ≤ 10000) && L.wait.all fun x => decide (x.length ≤ 20000)
theorem okB_ok {L : Lg} (h : okB L = true) : L.Ok := by
  unfold okB at h
  simp only [Bool.and_eq_true, decide_eq_true_eq, List.all_eq_true] at h
  obtain ⟨⟨⟨⟨⟨⟨⟨⟨h1, h2⟩, h3⟩, h4⟩, h5⟩, h6⟩, h7⟩, h8⟩, h9⟩ := h
  exact ⟨h1, h2, h3, h4, h5, h6, h7, h8, h9⟩
def sO1 : Dk × Nat × Option (Lg × List Cm) := wopen newDk 1
def sL1 : Lg := ⟨1, 1, [], 0, 0, 0, 0, 0⟩
theorem sO1_eq : sO1 = (sO1.1, 0, some (sL1, [])) := by kernel_rfl
theorem sO1_n : sO1.1.n = 3 := by kernel_rfl
def sP1 : Lg × Nat × Nat := sL1.put (oneC 1)
theorem sP1_eq : sP1.2 = (1, 0) := by kernel_rfl
def sP2 : Lg × Nat × Nat := sP1.1.put (oneC 2)
theorem sP2_eq : sP2.2 = (2, 0) := by kernel_rfl
/-- the flushes -/
def sF : Nat → Lg × Dk
  | 0 => (sP2.1, sO1.1)
  | j + 1 => (((sF j).1.flush (sF j).2).1, ((sF j).1.flush (sF j).2).2.1)
theorem sF_ok : ∀ j, j ≤ 4 → (sF j).1.Ok := by
  intro j hj
  match j, hj with
  | 0, _ => exact okB_ok (by kernel_rfl)
  | 1, _ => exact okB_ok (by kernel_rfl)
  | 2, _ => exact okB_ok (by kernel_rfl)
  | 3, _ => exact okB_ok (by kernel_rfl)
  | 4, _ => exact okB_ok (by kernel_rfl)
  | j + 5, h => omega
theorem sF_not : ∀ j, j < 3 → ((sF j).1.flush (sF j).2).2.2 = (false, 0) := by
  have h0 : ((sF 0).1.flush (sF 0).2).2.2 = (false, 0) := by kernel_rfl
  have h1 : ((sF 1).1.flush (sF 1).2).2.2 = (false, 0) := by kernel_rfl
  have h2 : ((sF 2).1.flush (sF 2).2).2.2 = (false, 0) := by kernel_rfl
  intro j hj
  match j, hj with
  | 0, _ => exact h0
  | 1, _ => exact h1
  | 2, _ => exact h2
  | j + 3, h => omega
theorem sF_yes : ((sF 3).1.flush (sF 3).2).2.2 = (true, 0) := by kernel_rfl
theorem sF_none : (sF 3).1.flushed = 0 := by kernel_rfl
def sR : Lg × Dk × Int × Nat := (sF 4).1.rotate (sF 4).2
theorem sR_eq : sR.2.2 = (2, 0) := by kernel_rfl
theorem sR_flushed : sR.1.flushed = 2 := by kernel_rfl
def sO2 : Dk × Nat × Option (Lg × List Cm) := wopen sR.2.1 1
theorem sO2_eq : sO2.2.2.map (fun p => p.2.length) = some 2 := by kernel_rfl
theorem sO3_eq : wopen sO2.1 0 = (sO2.1, 2, none) := rfl
theorem sP1_Ok : sP1.1.Ok := okB_ok (by kernel_rfl)
theorem sL1_Ok : sL1.Ok := okB_ok (by kernel_rfl)

set_option maxHeartbeats 2000000 in
set_option maxRecDepth 8000 in
theorem shown_ok {w : World} {K : Value → World → Prop} (hg : Glob w) (hk : ∀ w', Step None' w w' → K (.bool true) w') : Runs Tryz.prog F_varvelaw08_shown #[] w K := by
  refine c_varvelaw08_shown ?_
  unfold H_varvelaw08_shown
  (with_reducible refine cf ?_)
  refine New_ok hg.size fun d w1 Sd1 d1 s1 hS1 => ?_
  have g1 := hg.none s1
  have limd : ∀ (w' : World) (D : Dk) (S : Nat → Prop), DAt w' d D S → ∀ k, S k → glim ≤ k := fun w' D S h => h.lim
  (with_reducible refine cf ?_)
  have hO1 : wopen newDk 1 = (sO1.1, 0, some (sL1, [])) := sO1_eq
  refine Open_ok g1 d1 ⟨by decide, by decide⟩ (fun h => by rw [hO1] at h; cases h) fun L cs h b u svs w2 S2 Sd2 l2 d2 e2 ap2 nw2 cr2 _ _ => ?_
  rw [hO1] at h d2
  simp only [Option.some.injEq, Prod.mk.injEq] at h
  obtain ⟨rfl, rfl⟩ := h
  simp only [] at d2
  have hz1 := s1.size
  have e02 : Evo (fun k => w.heap.size ≤ k) w (fun k => w.heap.size ≤ k) w2 := ⟨(s1.of_none).trans e2.step fun k hk => .inl (hS1 k hk), fun k hk => .inl hk⟩
  have g2 := g1.step e2.step d1.lim
  (with_reducible refine ext3_0 ?_); (with_reducible refine ext3_1 ?_); (with_reducible refine ext3_2 ?_)
  intro J hJ
  refine b_ptr_nil ?_
  refine Gate_is rfl ?_
  refine b_ptr_nil ?_
  refine Gate_is rfl ?_
  refine l_view cr2.view ?_
  (with_reducible refine b_neq ?_)
  refine Gate_is rfl ?_
  (with_reducible refine b_neq ?_)
  refine Gate_is rfl ?_
  (with_reducible refine cf ?_)
  refine Ops_ok d2 ?_
  rw [sO1_n]
  (with_reducible refine b_neq ?_)
  refine hJ _ _ (Cond_f ?_)
  clear hJ
  -- two commits are put
  (with_reducible refine cf ?_)
  refine one_ok fun v3 w3 cv3 s3 => ?_
  have l3 := l2.step s3 fun _ _ x => x
  have d3 := d2.step s3 fun _ _ x => x
  (with_reducible refine cf ?_)
  refine LPut_ok l3 sL1_Ok cv3 (by decide) fun w4 S4 l4 e4 => ?_
  have eP1 : (sL1.put (oneC 1)).2 = (1, 0) := sP1_eq
  have hP1 : (sL1.put (oneC 1)).1 = sP1.1 := rfl
  rw [eP1] at *
  rw [hP1] at l4
  have d4 := d3.step e4.step fun k hk hk2 => ap2 k hk2 hk
  have z2 := e2.size
  have z3 := s3.size
  have z4 := e4.size
  have hd2l := d2.lt
  have hl2l := l2.lt
  have ap4 : ∀ k, S4 k → ¬ Sd2 k := fun k hk hk2 => (e4.grow k hk).elim (fun h => ap2 k h hk2) fun h => by have := hd2l k hk2; omega
  (with_reducible refine ext2_0 ?_); (with_reducible refine ext2_1 ?_)
  (with_reducible refine cf ?_)
  refine one_ok fun v5 w5 cv5 s5 => ?_
  have l5 := l4.step s5 fun _ _ x => x
  have d5 := d4.step s5 fun _ _ x => x
  (with_reducible refine cf ?_)
  refine LPut_ok l5 sP1_Ok cv5 (by decide) fun w6 S6 l6 e6 => ?_
  have eP2 : (sP1.1.put (oneC 2)).2 = (2, 0) := sP2_eq
  have hP2 : (sP1.1.put (oneC 2)).1 = sP2.1 := rfl
  rw [eP2]
  rw [hP2] at l6
  have d6 := d5.step e6.step fun k hk hk2 => ap4 k hk2 hk
  have z5 := s5.size
  have z6 := e6.size
  have ap6 : ∀ k, S6 k → ¬ Sd2 k := fun k hk hk2 => (e6.grow k hk).elim (fun h => ap4 k h hk2) fun h => by have := hd2l k hk2; omega
  (with_reducible refine ext2_0 ?_); (with_reducible refine ext2_1 ?_)
  have nw6 : ∀ k, S6 k ∨ Sd2 k → w.heap.size ≤ k := by
    intro k hk
    rcases hk with hk | hk
    · rcases e6.grow k hk with h | h
      · rcases e4.grow k h with h | h
        · have := nw2 k h; omega
        · omega
      · omega
    · rcases e2.grow k hk with h | h
      · exact hS1 k h
      · omega
  have s06 : Step None' w w6 := ((((s1.then_new e2.step hS1).then_none s3).then_new e4.step fun k hk => by have := nw2 k hk; omega).then_none s5).then_new e6.step fun k hk => (e4.grow k hk).elim (fun h => by have := nw2 k h; omega) fun h => by omega
  have g6 := hg.none s06
  -- three flushes
  refine ⟨fun i wr => ∃ (j : Nat) (S Sd : Nat → Prop), i = .int .i64 j ∧ j ≤ 3 ∧ LAt wr b (sF j).1 d S ∧ DAt wr d (sF j).2 Sd ∧ Both S6 Sd2 w6 S Sd wr, fun i _ => match i with | .int _ q => 3 - q.toNat | _ => 0, ⟨0, S6, Sd2, rfl, by omega, l6, d6, Both.refl ap6⟩, ?_⟩
  rintro _ w7 ⟨j, S7, Sd7, rfl, hj, l7, d7, e7⟩
  have g7 := g6.step e7.step fun k hk => hk.elim (l6.lim k) (d6.lim k)
  have s07 : Step None' w w7 := s06.then_new e7.step nw6
  have nw7 : ∀ k, S7 k ∨ Sd7 k → w.heap.size ≤ k := fun k hk => (e7.evo.grow k hk).elim (nw6 k) fun h => by have := s06.size; omega
  (with_reducible refine b_lss ?_)
  refine cnd (fun hlt => ?_) (fun hlt => ?_)
  · have hj3 : j < 3 := by omega
    (with_reducible refine cf ?_)
    refine Flush_ok g7 l7 d7 e7.apart (sF_ok j (by omega)) fun w8 S8 Sd8 l8 d8 e8 => ?_
    have hf := sF_not j hj3
    rw [hf]
    (with_reducible refine ext2_0 ?_); (with_reducible refine ext2_1 ?_)
    intro J2 hJ2
    refine Gate_is rfl ?_
    (with_reducible refine b_neq ?_)
    refine hJ2 _ _ (Cond_f ?_)
    (with_reducible refine b_add (by (first | (unfold I64; omega) | omega)) ?_)
    exact ⟨⟨j + 1, S8, Sd8, by simp, by omega, l8, d8, e7.trans e8⟩, by simp only []; omega⟩
  · have hj3 : j = 3 := by omega
    subst hj3
    (with_reducible refine cf ?_)
    refine Flushed_ok l7 ?_
    rw [sF_none]
    (with_reducible refine cf ?_)
    refine Flush_ok g7 l7 d7 e7.apart (sF_ok 3 (by omega)) fun w8 S8 Sd8 l8 d8 e8 => ?_
    rw [sF_yes]
    (with_reducible refine ext2_0 ?_); (with_reducible refine ext2_1 ?_)
    have g8 := g7.step e8.step fun k hk => hk.elim (l7.lim k) (d7.lim k)
    have nw8 : ∀ k, S8 k ∨ Sd8 k → w.heap.size ≤ k := fun k hk => (e8.evo.grow k hk).elim (nw7 k) fun h => by have := s07.size; omega
    have s08 : Step None' w w8 := s07.then_new e8.step nw7
    (with_reducible refine cf ?_)
    refine Rotate_ok g8 l8 d8 e8.apart (sF_ok 4 (by omega)) fun w9 S9 Sd9 l9 d9 e9 => ?_
    have eR : ((sF 4).1.rotate (sF 4).2).2.2 = (2, 0) := sR_eq
    have eR1 : (((sF 3).1.flush (sF 3).2).1.rotate ((sF 3).1.flush (sF 3).2).2.1) = sR := rfl
    have eR2 : sR.2.2 = (2, 0) := sR_eq
    rw [eR1] at l9 d9 ⊢
    rw [eR2]
    (with_reducible refine ext2_0 ?_); (with_reducible refine ext2_1 ?_)
    have g9 := g8.step e9.step fun k hk => hk.elim (l8.lim k) (d8.lim k)
    have nw9 : ∀ k, S9 k ∨ Sd9 k → w.heap.size ≤ k := fun k hk => (e9.evo.grow k hk).elim (nw8 k) fun h => by have := s08.size; omega
    have s09 : Step None' w w9 := s08.then_new e9.step nw8
    (with_reducible refine cf ?_)
    have hO2s := sO2_eq
    have hO2 : wopen sR.2.1 1 = sO2 := rfl
    refine Open_ok g9 d9 ⟨by decide, by decide⟩ (fun h => by rw [hO2] at h; rw [h] at hO2s; cases hO2s) fun L cs h b2 u svs w10 S10 Sd10 l10 d10 e10 ap10 nw10 cr10 hu10 _ => ?_
    rw [hO2] at h d10
    have hcs : cs.length = 2 := by
      rw [h] at hO2s
      simpa using hO2s
    have l9' := l9.step e10.step fun k hk hk2 => e9.apart k hk hk2
    have s010 : Step None' w w10 := s09.then_new e10.step fun k hk => nw9 k (.inr hk)
    have g10 := g9.step e10.step d9.lim
    (with_reducible refine ext3_0 ?_); (with_reducible refine ext3_1 ?_); (with_reducible refine ext3_2 ?_)
    (with_reducible refine cf ?_)
    refine Open_ok g10 d10 ⟨by decide, by decide⟩ (fun _ w11 Sd11 d11 e11 => ?_) (fun L2 cs2 h2 => by rw [sO3_eq] at h2; cases h2)
    rw [sO3_eq]
    have hd10l := d10.lim
    have nw10' : ∀ k, Sd10 k → w.heap.size ≤ k := fun k hk => (e10.grow k hk).elim (fun h => nw9 k (.inr h)) fun h => by have := s09.size; omega
    have s011 : Step None' w w11 := s010.then_new e11.step nw10'
    have g11 := g10.step e11.step hd10l
    have hap : ∀ k, S9 k → ¬ Sd10 k := fun k hk hk2 => (e10.grow k hk2).elim (e9.apart k hk) fun h => by have := l9.lt k hk; omega
    have l11 := l9'.step e11.step hap
    have hv11 : View w11 u 2 2 (cmCells cs svs) := by
      have hv := cr10.view
      rw [hcs] at hv
      refine View.step hv e11.step fun k hk hk2 => ?_
      exact (hu10 k hk).2 hk2
    (with_reducible refine ext3_0 ?_); (with_reducible refine ext3_1 ?_); (with_reducible refine ext3_2 ?_)
    repeat (first | (with_reducible refine b_eql ?_) | (refine Gate_is rfl ?_))
    (with_reducible refine cf ?_)
    refine Flushed_ok l11 ?_
    rw [sR_flushed]
    repeat (first | (with_reducible refine b_eql ?_) | (refine Gate_is rfl ?_))
    refine l_view hv11 ?_
    repeat (first | (with_reducible refine b_eql ?_) | (refine Gate_is rfl ?_))
    (with_reducible refine cf ?_)
    refine Name_ok g11 ⟨by decide, by decide⟩ fun w12 s12 => ?_
    refine s_eql ?_
    have eN : segName 3 = [108, 111, 103, 45, 51] := by kernel_rfl
    rw [eN]
    simp only [decide_true]
    exact hk _ (s011.then_none s12)
end Go.Proofs.VvS

namespace Go.Proofs.VvS
open Go Go.Proofs Vv Go.RowKit

section
variable {P : Program} {t : TypeId} {cx cy : Bool} {a : Int} {K : Value → Prop}
theorem b_remT (b : Int) (hb : b ≠ 0) (h : I64 (a.tmod b)) (k : K (.int .i64 (a.tmod b))) : Bin P .rem t cx cy (.int .i64 a) (.int .i64 b) K :=
  Bin_of (fun w => by simp [eqGuard_at_int, binOp_rem, Op.intDiv, hb, IntWalk.i64_in _ h]) k
theorem b_quoT (b : Int) (hb : b ≠ 0) (h : I64 (a.tdiv b)) (k : K (.int .i64 (a.tdiv b))) : Bin P .quo t cx cy (.int .i64 a) (.int .i64 b) K :=
  Bin_of (fun w => by simp [eqGuard_at_int, binOp_quo, Op.intDiv, hb, IntWalk.i64_in _ h]) k
theorem u_neg64 (h : I64 (-a)) (k : K (.int .i64 (-a))) : Pu P (Op.unary .neg (.int .i64 a)) K := u_neg (by rw [IntWalk.i64_in _ h]; exact k)
end
theorem run_sliceBoundsF {P : Program} {low high : Option Value} {lo hi m c : Nat} (hl : Low low lo) (hh : High high hi m) (h1 : lo ≤ hi) (h2 : hi ≤ m) (h3 : m ≤ c) (w : World) : (Instr.sliceBounds false m c low high none).run P w = .ok (lo, hi, c) w := by
  have hc : hi ≤ c := by omega
  rcases hl with ⟨rfl, rfl⟩ | ⟨kd, rfl⟩ <;> rcases hh with ⟨rfl, rfl⟩ | ⟨kd', rfl⟩ <;> simp [Instr.sliceBounds, run_bound h1, run_bound hc]
/-- a part of a text -/
theorem sslice {P : Program} {t : TypeId} [ht : Und P t .string] {l : List UInt8} {low high : Option Value} {K : Value → Prop} (lo hi : Nat) (hl : Low low lo) (hh : High high hi l.length) (h1 : lo ≤ hi) (h2 : hi ≤ l.length)
    (k : K (Str ((l.take hi).drop lo))) : Pu P (Instr.sliceAt t (Str l) low high none) K := by
  refine Pu_of (fun w => ?_) k
  have hb := run_sliceBoundsF (P := P) hl hh h1 h2 (Nat.le_refl _) w
  have e : (ByteArray.mk l.toArray).size = l.length := by simp [ByteArray.size]
  have e2 : (ByteArray.mk l.toArray).extract lo hi = ByteArray.mk ((l.take hi).drop lo).toArray := by
    rw [ByteArray.extract_mk, List.drop_take]
  simp only [Instr.sliceAt, Instr.slice, run_underlying ht.h, Sem.run_bind, Result.andThen_ok]
  simp [hb, e, e2]

/-! ### the reference's names -/
theorem tdiv10 (a : Int) : a.tdiv 10 = if 0 ≤ a then ((a.natAbs / 10 : Nat) : Int) else -((a.natAbs / 10 : Nat) : Int) := by
  split
  · rename_i h
    obtain ⟨n, rfl⟩ := Int.eq_ofNat_of_zero_le h
    simp [Int.tdiv]
  · rename_i h
    obtain ⟨n, hn⟩ := Int.eq_ofNat_of_zero_le (show 0 ≤ -a by omega)
    have : a = -(n : Int) := by omega
    subst this
    rw [Int.neg_tdiv]
    simp [Int.tdiv]
theorem tmod10 (a : Int) : a.tmod 10 = if 0 ≤ a then ((a.natAbs % 10 : Nat) : Int) else -((a.natAbs % 10 : Nat) : Int) := by
  split
  · rename_i h
    obtain ⟨n, rfl⟩ := Int.eq_ofNat_of_zero_le h
    simp [Int.tmod]
  · rename_i h
    obtain ⟨n, hn⟩ := Int.eq_ofNat_of_zero_le (show 0 ≤ -a by omega)
    have : a = -(n : Int) := by omega
    subst this
    rw [Int.neg_tmod]
    simp [Int.tmod]
theorem digit_piece (k : Nat) (h : k < 10) : (([48, 49, 50, 51, 52, 53, 54, 55, 56, 57] : List UInt8).take (k + 1)).drop k = [UInt8.ofNat (48 + k)] := by
  match k, h with
  | 0, _ => rfl
  | 1, _ => rfl
  | 2, _ => rfl
  | 3, _ => rfl
  | 4, _ => rfl
  | 5, _ => rfl
  | 6, _ => rfl
  | 7, _ => rfl
  | 8, _ => rfl
  | 9, _ => rfl
  | k + 10, h => omega
theorem decDigits_eq' (u : Nat) : Lib.decDigits u = (if u / 10 = 0 then [] else Lib.decDigits (u / 10)) ++ [UInt8.ofNat (48 + u % 10)] := by
  rw [Lib.decDigits]
  split
  · rename_i h
    rw [if_pos (by omega), Nat.mod_eq_of_lt h]; rfl
  · rename_i h
    rw [if_neg (by omega)]
theorem digits_ok {w : World} {n : Int} {K : Value → World → Prop} (hn : I64 n) (hk : K (Str (Lib.itoa n)) w) : Runs Tryz.prog F_varveref08_digits #[.int .i64 n] w K := by
  have hil := itoa_len hn
  unfold I64 at hn
  have hdl : (Lib.decDigits n.natAbs).length ≤ 100 := by
    unfold Lib.itoa at hil
    split at hil
    · simp at hil; omega
    · have : n.natAbs = n.toNat := by omega
      rw [this]; exact hil
  refine c_varveref08_digits ?_
  unfold H_varveref08_digits
  -- what is there, what is to come
  refine ⟨fun x y wr => ∃ (s : List UInt8) (m : Int), x = Str s ∧ y = .int .i64 m ∧ wr = w ∧ I64 m ∧ ((s = [] ∧ m = n) ∨ (s ≠ [] ∧ (if m.natAbs = 0 then [] else Lib.decDigits m.natAbs) ++ s = Lib.decDigits n.natAbs)),
    fun x y _ => match x, y with | .string s, .int _ m => 2 * m.natAbs + (if s.size = 0 then 1 else 0) | _, _ => 0, ⟨[], n, rfl, rfl, rfl, hn, .inl ⟨rfl, rfl⟩⟩, ?_⟩
  rintro _ _ wr ⟨s, m, rfl, rfl, hwr, hm, hst⟩
  subst hwr
  unfold I64 at hm
  have hsl : s.length ≤ 100 := by
    rcases hst with ⟨rfl, _⟩ | ⟨_, h⟩
    · simp
    · have := congrArg List.length h
      simp only [List.length_append] at this
      omega
  intro J1 hJ1
  have Jt : (m ≠ 0 ∨ s = []) → J1 (.bool true) wr := by
    intro hc
    refine hJ1 _ _ (Cond_t ?_)
    have hr := tmod10 m
    have hq := tdiv10 m
    refine b_remT 10 (by decide) (by rw [hr]; split <;> exact ⟨by omega, by omega⟩) ?_
    intro J2 hJ2
    have fin : J2 (.int .i64 ((m.natAbs % 10 : Nat) : Int)) wr := by
      refine hJ2 _ _ ?_
      (with_reducible refine b_add (by (first | (unfold I64; omega) | omega)) ?_)
      refine sslice (l := [48, 49, 50, 51, 52, 53, 54, 55, 56, 57]) (m.natAbs % 10) (m.natAbs % 10 + 1) (lowI rfl) (highI (by omega)) (by omega) (by simp; omega) ?_
      rw [digit_piece _ (by omega)]
      refine s_add (by simp; omega) ?_
      refine b_quoT 10 (by decide) (by rw [hq]; split <;> exact ⟨by omega, by omega⟩) ?_
      have hqa : (m.tdiv 10).natAbs = m.natAbs / 10 := by rw [hq]; split <;> omega
      refine ⟨⟨_, m.tdiv 10, rfl, rfl, rfl, by rw [hq]; split <;> exact ⟨by omega, by omega⟩, .inr ⟨by simp, ?_⟩⟩, ?_⟩
      · rw [hqa]
        rcases hst with ⟨rfl, rfl⟩ | ⟨hs, h⟩
        · rw [List.append_nil, ← decDigits_eq']
        · rw [if_neg (by rcases hc with h | h; omega; exact absurd h hs), decDigits_eq'] at h
          rw [← h]
          simp
      · simp only [hqa]
        have e1 : (ByteArray.mk ([UInt8.ofNat (48 + m.natAbs % 10)] ++ s).toArray).size = s.length + 1 := by simp [ByteArray.size]
        have e2 : (ByteArray.mk s.toArray).size = s.length := by simp [ByteArray.size]
        rw [e1, e2, if_neg (by omega)]
        by_cases hm0 : m = 0
        · subst hm0
          rcases hc with h | h
          · exact absurd rfl h
          · subst h; simp
        · split <;> omega
    (with_reducible refine b_lss ?_)
    refine cnd (fun hneg => ?_) (fun hneg => ?_)
    · have e : -(m.tmod 10) = ((m.natAbs % 10 : Nat) : Int) := by
        rw [hr] at hneg ⊢
        split at hneg <;> rename_i h
        · omega
        · rw [if_neg h]; omega
      refine u_neg64 (by rw [e]; exact ⟨by omega, by omega⟩) ?_
      rw [e]; exact fin
    · have e : m.tmod 10 = ((m.natAbs % 10 : Nat) : Int) := by
        rw [hr] at hneg ⊢
        split at hneg <;> rename_i h
        · rw [if_pos h]
        · rw [if_neg h]; omega
      rw [e]; exact fin
  (with_reducible refine b_neq ?_)
  refine gt_f (fun hm0 => ?_) (fun hm0 => Jt (.inl hm0))
  refine s_eql (b := []) ?_
  by_cases hs : s = []
  · rw [decide_eq_true hs]
    exact Jt (.inr hs)
  · rw [decide_eq_false hs]
    have hm00 : m = 0 := by omega
    subst hm00
    have hfull : s = Lib.decDigits n.natAbs := by
      rcases hst with ⟨h, _⟩ | ⟨_, h⟩
      · exact absurd h hs
      · simpa using h
    refine hJ1 _ _ (Cond_f ?_)
    (with_reducible refine b_lss ?_)
    unfold Lib.itoa at hk
    refine cnd (fun hneg => ?_) (fun hneg => ?_)
    · rw [if_pos hneg] at hk
      refine s_add (a := [45]) (by simp; omega) ?_
      rw [hfull]; exact hk
    · rw [if_neg hneg] at hk
      have : n.natAbs = n.toNat := by omega
      rw [hfull, this]; exact hk
theorem RName_ok {w : World} {n : Int} {K : Value → World → Prop} (hn : I64 n) (hk : K (Str (segName n)) w) : Runs Tryz.prog F_varveref08_Name #[.int .i64 n] w K := by
  refine c_varveref08_Name ?_
  unfold H_varveref08_Name
  (with_reducible refine cf ?_)
  refine digits_ok hn ?_
  have hl := itoa_len hn
  exact s_add (a := lg) (by simp [lg]; omega) hk

theorem WalNames_ok {w : World} {n : Int} {K : Value → World → Prop} (hg : Glob w) (hn : I64 n) (hk : ∀ w', Step None' w w' → K (.bool true) w') : Runs Tryz.prog F_varvelaw08_WalNames #[.int .i64 n] w K := by
  refine c_varvelaw08_WalNames ?_
  unfold H_varvelaw08_WalNames
  (with_reducible refine cf ?_)
  refine shown_ok hg fun w1 s1 => ?_
  refine Gate_is rfl ?_
  (with_reducible refine cf ?_)
  refine Name_ok (hg.none s1) hn fun w2 s2 => ?_
  (with_reducible refine cf ?_)
  refine RName_ok hn ?_
  refine s_eql ?_
  simp only [decide_true]
  exact hk _ (s1.then_none s2)
end Go.Proofs.VvS

namespace Go.Proofs.VvS
open Go Go.Proofs Vv Go.ChangeShapes Go.WideShapes Go.ChangeAt Go.RowKit
open Go.Proofs.YtolefmkgllngnaaGreatDoor

/-! ### what the list of package-level variables gives -/
theorem own' : ownKnob Tryz.prog.godebug = none := by kernel_rfl
theorem gSyn : Tryz.prog.globalNamed "strconv.ErrSyntax" = some 1 := by kernel_rfl
theorem gRng : Tryz.prog.globalNamed "strconv.ErrRange" = some 2 := by kernel_rfl
theorem g64 : Tryz.prog.globalNamed "math/bits.deBruijn64tab" = some 4 := by kernel_rfl
theorem gPow : Tryz.prog.globalNamed "internal/strconv.uint64pow10" = some 0 := by kernel_rfl
theorem tSyn : (Tryz.prog.globals[1]?).map (·.type) = some 162 := by kernel_rfl
theorem tRng : (Tryz.prog.globals[2]?).map (·.type) = some 162 := by kernel_rfl
theorem tPow : (Tryz.prog.globals[0]?).map (·.type) = some 234 := by kernel_rfl
theorem star' : "*" ++ "errors.errorString" = "*errors.errorString" := by decide
theorem rowPtr (u : TypeId) (h : Tryz.prog.typeName? 3 u = some "*errors.errorString") : u = 267 :=
  typeName_ptr_named (nm := "errors.errorString") (by rw [star']; kernel_rfl) (by kernel_rfl) (by decide) u (by rw [star']; exact h)
theorem under234 : Tryz.prog.underlying 234 = some (.array 20 77) := by kernel_rfl
theorem glob_of_laid {W : World} (h : laidMetH Tryz.prog Rows.walNamesRow.laid W) : Glob W := by
  have h4 := laidMet.tail (P := Tryz.prog) h
  have h0 := laidMet.tail h4
  have hr := laidMet.tail h0
  have hs := laidMet.tail hr
  obtain ⟨a1, s1, v1, -⟩ := laid_sentinel hs gSyn tSyn Tryz.underlying162 rowPtr Tryz.underlying267 Tryz.underlying269 rfl rfl Tryz.underlying9 (by kernel_rfl) (by kernel_rfl)
  obtain ⟨a2, s2, v2, -⟩ := laid_sentinel hr gRng tRng Tryz.underlying162 rowPtr Tryz.underlying267 Tryz.underlying269 rfl rfl Tryz.underlying9 (by kernel_rfl) (by kernel_rfl)
  refine ⟨?_, Lib.tabIs_of_head (rest := [("strconv.ErrRange", Rows.laid_strconv_ErrRange), ("strconv.ErrSyntax", Rows.laid_strconv_ErrSyntax)]) gPow tPow under234 Tryz.underlying77 (by kernel_rfl) (by kernel_rfl) h0, ⟨_, _, by have e := World.var?_cell gSyn v1 0; simpa using e⟩, ⟨_, _, by have e := World.var?_cell gRng v2 0; simpa using e⟩⟩
  obtain ⟨ps, ⟨g, t, cs, fuel, p, q, hg, ht, hv, -⟩, -⟩ := h4
  unfold World.var? at hv
  rw [g64] at hv
  simp only [Option.bind_some] at hv
  show 5 ≤ W.heap.size
  rcases Nat.lt_or_ge 4 W.heap.size with h' | h'
  · exact h'
  · simp [Array.getElem?_eq_none h'] at hv

/-! ### a world that has them -/
abbrev synS : ByteArray := { data := #[105, 110, 118, 97, 108, 105, 100, 32, 115, 121, 110, 116, 97, 120] }
abbrev rngS : ByteArray := { data := #[118, 97, 108, 117, 101, 32, 111, 117, 116, 32, 111, 102, 32, 114, 97, 110, 103, 101] }
noncomputable def low : Nat := (World.holding Tryz.prog default ⟨#[], #[], []⟩).heap.size
noncomputable def setVar (h : Array Obj) (k : Nat) (cs : Array Value) : Array Obj := h.modify k fun
  | .cells _ t frozen => .cells cs t frozen
  | o => o
def litVals : DataW Unit → List Value
  | .agg l => l.map fun
    | .lit (.int k z) => .int k z
    | _ => .nilIface
  | _ => []
noncomputable def laidWorld (os : Os) : World :=
  let w0 := World.holding Tryz.prog os ⟨#[.cells #[.string synS] 269, .cells #[.string rngS] 269], #[], []⟩
  { w0 with heap := setVar (setVar (setVar (setVar (setVar w0.heap 0 (litVals Rows.laid_internal_strconv_uint64pow10).toArray) 3 (litVals Rows.laid_math_bits_deBruijn32tab).toArray) 4 (litVals Rows.laid_math_bits_deBruijn64tab).toArray)
      1 #[.iface 267 (.pointer (some ⟨low, 0, none⟩))]) 2 #[.iface 267 (.pointer (some ⟨low + 1, 0, none⟩))] }
theorem laid_met (os : Os) (args : Array Value) : laidMet Tryz.prog Rows.walNamesRow.laid ((laidWorld os).forCall (fun _ _ => 0) ⟨#[], args, []⟩).memory :=
  laidMet_of_run' 8 (by kernel_rfl) (by kernel_rfl)
end Go.Proofs.VvS

namespace Go.Proofs.VvS
open Go Go.Proofs Vv Go.ChangeShapes Go.WideShapes Go.ChangeAt Go.RowKit
open Go.Proofs.YtolefmkgllngnaaGreatDoor
theorem namesReads (os : Os) {H : Type} (enc : TypeId × Value → H) : ∃ places, DataW.whole enc Tryz.prog ((laidWorld os).forCall (fun _ _ => 0) ⟨#[], #[.int .i64 0], []⟩).memory Tryz.f3.params.toList Rows.walNamesSpec.vars false #[Value.int .i64 0].toList 8 = some ([.lit (.int .i64 0)], [], places) :=
  ⟨[], by kernel_rfl⟩
theorem Step.grown {w w' : World} (h : Step None' w w') : Below w.heap.size w w' := ⟨h.os, h.tape, h.output, h.size, fun k hk => h.keep k hk (fun x => x)⟩
set_option maxRecDepth 100000 in
theorem namesContract (H : Type) (enc : TypeId × Value → H) (W : World) (base : Nat) (args : Array Value) (ds gs : List (DataW H)) (before : List MemPlace)
    (hval : ∀ (j : Nat) t v, Tryz.f3.params[j]? = some t → args[j]? = some v → Value.okWide Tryz.prog W .any base t v)
    (hW : DataW.Whole enc Tryz.prog Tryz.f3.params.toList Rows.walNamesSpec.vars false W args.toList ds gs before) (hL : laidMetH Tryz.prog Rows.walNamesRow.laid W) :
    Calls Tryz.prog 3 args W fun e W' => ∃ v, e = .returned v ∧ Rows.walNamesSpec.post enc Tryz.prog Tryz.f3 false true false false W args v W' := by
  have hW' := hW
  obtain ⟨p, q, hA0, hV, rfl, hfz, hnd⟩ := hW
  have hA : DataW.TrodAll enc Tryz.prog W 0 (fun _ => true) true Tryz.f3.params.toList args.toList ds p := hA0
  rw [Tryz.params3] at hA hval
  obtain ⟨v0, vs0, d0, ds0, p0, q0, hargs, rfl, rfl, h0, r0⟩ := trodAll_cons hA
  obtain ⟨rfl, rfl, rfl⟩ := trodAll_nil r0
  obtain rfl : args = #[v0] := by cases args; simp_all
  obtain ⟨rfl, rfl⟩ := trodVars_none hV
  obtain ⟨n, rfl, rfl, rfl, wn⟩ := open_int Tryz.underlying3 (hval 0 3 v0 rfl rfl) h0
  clear hA0
  simp only [List.append_nil] at hW'
  have hn : I64 n := by
    have e1 : IntKind.i64.min = -9223372036854775808 := rfl
    have e2 : IntKind.i64.max = 9223372036854775807 := rfl
    simp [Lit.wf, e1, e2] at wn
    exact ⟨by omega, by omega⟩
  have walk : Runs Tryz.prog F_varvelaw08_WalNames #[.int .i64 n] W fun v W' => v = .bool true ∧ Below W.heap.size W W' :=
    WalNames_ok (glob_of_laid hL) hn fun w' s => ⟨rfl, Step.grown s⟩
  refine Calls.mono walk fun e W' ⟨v, he, hv, hg⟩ => ?_
  subst he hv
  exact ⟨_, rfl, _, _, _, [], [], [], hW', trodAll_cons_mk (shut_bool Tryz.underlying4 _) trodAll_mk0, trodAll_cons_mk (shut_int Tryz.underlying3 wn) trodAll_mk0, rfl, hg.frame _, fun h => by cases h⟩

set_option maxRecDepth 100000 in
theorem namesLifted (os : Os) (started : os.Started) (H : Type) (enc : TypeId × Value → H) (F : Stop.Interp) :
    ReturnsInHanded {} Tryz.checked os 3 .any ((OpenSpec.ofChange Rows.walNamesSpec).preRow enc Tryz.prog Tryz.f3 Rows.walNamesRow.domain false Rows.walNamesRow.laid) (((OpenSpec.ofChange Rows.walNamesSpec).at F).post enc Tryz.prog Tryz.f3 false true false false) := by
  obtain ⟨places, hx⟩ := namesReads os enc
  refine returnsInHanded_of_row (C := Tryz.checked) (s := OpenSpec.ofChange Rows.walNamesSpec) own' started (by kernel_rfl) Tryz.func3
    (witness_row_atRef (enc := enc) (C := Tryz.checked) false (laidWorld os) #[.int .i64 0] rfl (by kernel_rfl) (by kernel_rfl) (by kernel_rfl)
      (OpenSpec.preRow_of_cond 8 hx (by kernel_rfl) (fun k hk => by cases hk) (by kernel_rfl) (laid_met os _))) ?_
  intro W base args ds gs before hval hW _ _ _ hL _ _
  exact namesContract H enc W base args ds gs before hval hW hL
theorem namesSaid : Rows.WalNamesSaid :=
  OpenClaim.holds_of_cond 3 Tryz.f3 rfl rfl rfl rfl rfl rfl rfl ⟨rfl, rfl, rfl, rfl, rfl⟩ rfl rfl rfl rfl rfl (by kernel_rfl) Tryz.func3 (by kernel_rfl)
    (of_decide_eq_true (by kernel_rfl)) (by unfold Func.isWrapper; first | (rw [if_pos (by decide +kernel)]; kernel_rfl) | (rw [if_neg (by decide +kernel)]; exact ⟨rfl, rfl⟩))
    (fun os started H enc _ F => by rw [OpenClaim.pre_eq_preRow]; exact namesLifted os started H enc F)
theorem namesPlain (f : FuncId) (fn : Func) (hf : Tryz.pinned.checked.prog.funcNamed "varve/varvelaw08.WalNames" = some f) (hfn : Tryz.pinned.checked.prog.funcs[f]? = some fn) :
    true = Tryz.pinned.checked.prog.looks [] ∧ ∀ (j : Nat) t, fn.params[j]? = some t → Tryz.pinned.checked.prog.wantsStandIn t = false := by
  obtain rfl : f = 3 := Option.some.inj ((show Tryz.prog.funcNamed "varve/varvelaw08.WalNames" = some 3 by kernel_rfl).symm.trans hf) |>.symm
  obtain rfl : fn = Tryz.f3 := (Option.some.inj (Tryz.func3.symm.trans hfn)).symm
  refine ⟨by kernel_rfl, fun j t ht => ?_⟩
  rw [Tryz.params3] at ht
  obtain rfl : t = 3 := by simpa using Array.mem_of_getElem? ht
  exact (show Tryz.prog.wantsStandIn 3 = false by kernel_rfl)
theorem namesCard : Rows.WalNamesCardSaid :=
  Claim7.holds_tied_plain_at .later [] _ _ _ _ namesSaid (fun _ h => by cases h) (by kernel_rfl) (fun _ h => by cases h) walNames_row_tie rfl ⟨rfl, rfl⟩ (by kernel_rfl) rfl namesPlain (by kernel_rfl)
end Go.Proofs.VvS

namespace Go.Proofs.YtolefmkgllngnaaGreatDoor
open Go
theorem walNames_card : Rows.WalNamesCardSaid := Go.Proofs.VvS.namesCard
end Go.Proofs.YtolefmkgllngnaaGreatDoor
