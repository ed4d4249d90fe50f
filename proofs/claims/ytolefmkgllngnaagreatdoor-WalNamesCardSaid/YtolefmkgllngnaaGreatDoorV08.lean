/-
  WalNames: every input answers true. Part 8 of its proof: VvDisk2 VvDisk3 VvDisk4 VvDisk5 VvDisk6 VvDisk7 VvDisk8.
-/
import Derived.Test.YtolefmkgllngnaaGreatDoorV07
import Derived.Laws.Externs
import Derived.MapKept
import Derived.StringKeys

namespace Go.Proofs.VvS
open Go Go.Proofs Vv Go.RowKit
open Go.ChangeMaps (setBlock)

/-- which kind a block is of -/
def tagOf (w : World) (b : Nat) : Nat := match w.heap[b]? with
  | some (.cells _ T _) => T + 1
  | _ => 0
theorem tag_box {w : World} {b T : Nat} {cs : Array Value} (h : Box w b T cs) : tagOf w b = T + 1 := by
  unfold tagOf; rw [show w.heap[b]? = _ from h]
theorem tag_map {w : World} {b : Nat} {m : Ents} (h : MBox w b m) : tagOf w b = 0 := by
  obtain ⟨es, clk, h, _⟩ := h
  unfold tagOf; rw [h]
theorem tag_own {w : World} {v : Value} {T n : Nat} {xs : List Value} (h : Own w v T n xs) {b : Nat} (hb : foot v b) : tagOf w b = T + 1 := by
  rcases h with ⟨rfl, _⟩ | ⟨g, n, c, cur, rfl, hg, _⟩
  · simp [foot, Value.ownBlock] at hb
  · simp [foot, Value.ownBlock] at hb
    subst hb
    unfold tagOf; rw [hg]

def fptr (fb : List Nat) (i : Nat) : Value := .pointer ((fb[i]?).map fun b => ⟨b, 0, none⟩)
def dirEnts (fb : List Nat) (l : Dir) : Ents := l.map fun p => (p.1, fptr fb p.2)
theorem look_dirEnts (fb : List Nat) (l : Dir) (s : Name) : nlook (dirEnts fb l) s = (nlook l s).map (fptr fb) := by
  unfold nlook dirEnts
  rw [List.find?_map]
  simp only [Option.map_map]
  rfl
theorem drop_dirEnts (fb : List Nat) (l : Dir) (s : Name) : drop' (dirEnts fb l) s = dirEnts fb (drop' l s) := by
  unfold drop' dirEnts
  rw [List.filter_map]
  rfl
theorem dwith_dirEnts (fb : List Nat) (l : Dir) (s : Name) (i : Nat) : ((s, fptr fb i) :: drop' (dirEnts fb l) s).Perm (dirEnts fb (dwith l s i)) := by
  rw [drop_dirEnts]
  exact ((dwith_perm l s i).map (fun p : Name × Nat => (p.1, fptr fb p.2))).symm
theorem dirEnts_len (fb : List Nat) (l : Dir) : (dirEnts fb l).length = l.length := by simp [dirEnts]
theorem fptr_app (fb g : List Nat) {i : Nat} (h : i < fb.length) : fptr (fb ++ g) i = fptr fb i := by
  unfold fptr; rw [List.getElem?_append_left h]
theorem dirEnts_app (fb g : List Nat) {l : Dir} (h : ∀ p ∈ l, p.2 < fb.length) : dirEnts (fb ++ g) l = dirEnts fb l := by
  unfold dirEnts
  exact List.map_congr_left fun p hp => by rw [fptr_app _ _ (h p hp)]

/-- a closure that the log holds -/
def IsCh (w : World) (S : Nat → Prop) (fb : List Nat) : Ch → Value → Prop
  | .make s i, v => ∃ x y, v = .func (.func F_disk_Disk_Append_1) #[] #[.pointer (some ⟨x, 0, none⟩), .pointer (some ⟨y, 0, none⟩)] ∧ Box w x T_p_disk_file #[fptr fb i] ∧ Box w y T_string #[Str s] ∧ S x ∧ S y
  | .del s, v => ∃ y, v = .func (.func F_disk_Disk_Delete_1) #[] #[.pointer (some ⟨y, 0, none⟩)] ∧ Box w y T_string #[Str s] ∧ S y
  | .ren _ _, _ => False
structure LogIs (w : World) (S : Nat → Prop) (fb : List Nat) (log : List Ch) (lv : Value) (lvs : List Value) : Prop where
  own : Own w lv T_fn_disk_directory_of_ 1 lvs
  len : lvs.length = log.length
  ch : ∀ (j : Nat) (c : Ch), log[j]? = some c → ∃ v, lvs[j]? = some v ∧ IsCh w S fb c v
  Sl : ∀ k, foot lv k → S k
structure FilesIs (w : World) (S : Nat → Prop) (fs : List Fl) (fb : List Nat) (rv : List Value) : Prop where
  fbl : fb.length = fs.length
  rvl : rv.length = fs.length
  nd : fb.Nodup
  file : ∀ (i : Nat) (f : Fl), fs[i]? = some f → ∃ b v, fb[i]? = some b ∧ rv[i]? = some v ∧ Box w b T_disk_file #[v, .int .i64 f.syn] ∧ Own w v T_uint8 1 (B8 f.b)
  sep : ∀ (i j : Nat) (v u : Value), i ≠ j → rv[i]? = some v → rv[j]? = some u → ∀ k, foot v k → ¬ foot u k
  Sf : ∀ b ∈ fb, S b
  Sr : ∀ v ∈ rv, ∀ k, foot v k → S k

theorem LogIs.step {w w' : World} {S S' : Nat → Prop} {fb : List Nat} {log : List Ch} {lv : Value} {lvs : List Value} (h : LogIs w S fb log lv lvs) (hs : Step S' w w')
    (hn : ∀ b, S b → S' b → tagOf w b ≠ T_fn_disk_directory_of_ + 1 ∧ tagOf w b ≠ T_string + 1 ∧ tagOf w b ≠ T_p_disk_file + 1) : LogIs w' S fb log lv lvs := by
  refine ⟨h.own.step hs fun k hk h' => (hn k (h.Sl k hk) h').1 (tag_own h.own hk), h.len, fun j c hj => ?_, h.Sl⟩
  obtain ⟨v, h1, h2⟩ := h.ch j c hj
  refine ⟨v, h1, ?_⟩
  cases c with
  | make s i =>
    obtain ⟨x, y, h3, h4, h5, h6, h7⟩ := h2
    exact ⟨x, y, h3, h4.step hs fun h' => (hn x h6 h').2.2 (tag_box h4), h5.step hs fun h' => (hn y h7 h').2.1 (tag_box h5), h6, h7⟩
  | del s =>
    obtain ⟨y, h3, h5, h7⟩ := h2
    exact ⟨y, h3, h5.step hs fun h' => (hn y h7 h').2.1 (tag_box h5), h7⟩
  | ren a b => exact h2
theorem IsCh.mono {w : World} {S S2 : Nat → Prop} {fb : List Nat} (hS : ∀ k, S k → S2 k) {c : Ch} {v : Value} (h : IsCh w S fb c v) : IsCh w S2 fb c v := by
  cases c with
  | make s i => obtain ⟨x, y, h3, h4, h5, h6, h7⟩ := h; exact ⟨x, y, h3, h4, h5, hS _ h6, hS _ h7⟩
  | del s => obtain ⟨y, h3, h5, h7⟩ := h; exact ⟨y, h3, h5, hS _ h7⟩
  | ren a b => exact h
theorem IsCh.app {w : World} {S : Nat → Prop} {fb : List Nat} (g : List Nat) {c : Ch} {v : Value} (hc : ∀ s i, c = .make s i → i < fb.length) (h : IsCh w S fb c v) : IsCh w S (fb ++ g) c v := by
  cases c with
  | make s i => obtain ⟨x, y, h3, h4, h5, h6, h7⟩ := h; exact ⟨x, y, h3, by rw [fptr_app _ _ (hc s i rfl)]; exact h4, h5, h6, h7⟩
  | del s => obtain ⟨y, h3, h5, h7⟩ := h; exact ⟨y, h3, h5, h7⟩
  | ren a b => exact h
theorem LogIs.mono {w : World} {S S2 : Nat → Prop} {fb : List Nat} {log : List Ch} {lv : Value} {lvs : List Value} (h : LogIs w S fb log lv lvs) (hS : ∀ k, S k → S2 k) : LogIs w S2 fb log lv lvs :=
  ⟨h.own, h.len, fun j c hj => let ⟨v, h1, h2⟩ := h.ch j c hj; ⟨v, h1, h2.mono hS⟩, fun k hk => hS k (h.Sl k hk)⟩
theorem FilesIs.step {w w' : World} {S S' : Nat → Prop} {fs : List Fl} {fb : List Nat} {rv : List Value} (h : FilesIs w S fs fb rv) (hs : Step S' w w')
    (hn : ∀ b, S b → S' b → tagOf w b ≠ T_disk_file + 1 ∧ tagOf w b ≠ T_uint8 + 1) : FilesIs w' S fs fb rv := by
  refine ⟨h.fbl, h.rvl, h.nd, fun i f hf => ?_, h.sep, h.Sf, h.Sr⟩
  obtain ⟨b, v, h1, h2, h3, h4⟩ := h.file i f hf
  exact ⟨b, v, h1, h2, h3.step hs fun h' => (hn b (h.Sf b (List.mem_of_getElem? h1)) h').1 (tag_box h3), h4.step hs fun k hk h' => (hn k (h.Sr v (List.mem_of_getElem? h2) k hk) h').2 (tag_own h4 hk)⟩
theorem FilesIs.mono {w : World} {S S2 : Nat → Prop} {fs : List Fl} {fb : List Nat} {rv : List Value} (h : FilesIs w S fs fb rv) (hS : ∀ k, S k → S2 k) : FilesIs w S2 fs fb rv :=
  ⟨h.fbl, h.rvl, h.nd, h.file, h.sep, fun b hb => hS b (h.Sf b hb), fun v hv k hk => hS k (h.Sr v hv k hk)⟩

structure DRep where
  nb : Nat
  ob : Nat
  lv : Value
  lvs : List Value
  fb : List Nat
  rv : List Value
structure DRaw (w : World) (d : Nat) (D : Dk) (S : Nat → Prop) (r : DRep) : Prop where
  box : Box w d T_disk_Disk #[.map (some r.nb), .map (some r.ob), r.lv, .int .i64 D.n, .int .i64 D.cut, .bool D.off]
  now : MBox w r.nb (dirEnts r.fb D.now)
  old : MBox w r.ob (dirEnts r.fb D.old)
  ne : r.nb ≠ r.ob
  log : LogIs w S r.fb D.log r.lv r.lvs
  fil : FilesIs w S D.fs r.fb r.rv
  Sd : S d
  Sn : S r.nb
  So : S r.ob
  lim : ∀ k, S k → glim ≤ k ∧ k < w.heap.size
structure DIs (w : World) (d : Nat) (D : Dk) (S : Nat → Prop) (r : DRep) : Prop extends DRaw w d D S r where
  wf : D.WF
/-- a disk of the program lies at a block; its footprint -/
def DAt (w : World) (d : Nat) (D : Dk) (S : Nat → Prop) : Prop := ∃ r, DIs w d D S r
theorem DRaw.step {w w' : World} {d : Nat} {D : Dk} {S S' : Nat → Prop} {r : DRep} (h : DRaw w d D S r) (hs : Step S' w w') (hn : ∀ i, S i → ¬ S' i) : DRaw w' d D S r :=
  ⟨h.box.step hs (hn _ h.Sd), h.now.step hs (hn _ h.Sn), h.old.step hs (hn _ h.So), h.ne, h.log.step hs fun b h1 h2 => absurd h2 (hn b h1), h.fil.step hs fun b h1 h2 => absurd h2 (hn b h1), h.Sd, h.Sn, h.So,
   fun k hk => ⟨(h.lim k hk).1, Nat.lt_of_lt_of_le (h.lim k hk).2 hs.size⟩⟩
theorem DIs.step {w w' : World} {d : Nat} {D : Dk} {S S' : Nat → Prop} {r : DRep} (h : DIs w d D S r) (hs : Step S' w w') (hn : ∀ i, S i → ¬ S' i) : DIs w' d D S r := ⟨h.toDRaw.step hs hn, h.wf⟩
theorem DAt.step {w w' : World} {d : Nat} {D : Dk} {S S' : Nat → Prop} (h : DAt w d D S) (hs : Step S' w w') (hn : ∀ i, S i → ¬ S' i) : DAt w' d D S := let ⟨r, h⟩ := h; ⟨r, h.step hs hn⟩
theorem DAt.lt {w : World} {d : Nat} {D : Dk} {S : Nat → Prop} (h : DAt w d D S) (k : Nat) (hk : S k) : k < w.heap.size := let ⟨_, h⟩ := h; (h.lim k hk).2
theorem DAt.lim {w : World} {d : Nat} {D : Dk} {S : Nat → Prop} (h : DAt w d D S) (k : Nat) (hk : S k) : glim ≤ k := let ⟨_, h⟩ := h; (h.lim k hk).1
theorem DAt.wf {w : World} {d : Nat} {D : Dk} {S : Nat → Prop} (h : DAt w d D S) : D.WF := let ⟨_, h⟩ := h; h.wf
theorem DAt.Sd {w : World} {d : Nat} {D : Dk} {S : Nat → Prop} (h : DAt w d D S) : S d := let ⟨_, h⟩ := h; h.Sd
/-- a number of the disk's own is turned -/
theorem DRaw.setBox {w w' : World} {d : Nat} {D : Dk} {S : Nat → Prop} {r : DRep} (h : DRaw w d D S r) (hs : Step (fun i => i = d) w w') {n : Nat} {c : Int} {o : Bool}
    (hb : Box w' d T_disk_Disk #[.map (some r.nb), .map (some r.ob), r.lv, .int .i64 n, .int .i64 c, .bool o]) : DRaw w' d { D with n := n, cut := c, off := o } S r := by
  have ht := tag_box h.box
  refine ⟨hb, h.now.step hs (h.now.ne_box h.box), h.old.step hs (h.old.ne_box h.box), h.ne, h.log.step hs ?_, h.fil.step hs ?_, h.Sd, h.Sn, h.So, fun k hk => ⟨(h.lim k hk).1, Nat.lt_of_lt_of_le (h.lim k hk).2 hs.size⟩⟩
  · rintro b _ rfl
    rw [ht]; decide
  · rintro b _ rfl
    rw [ht]; decide
theorem DIs.setBox {w w' : World} {d : Nat} {D : Dk} {S : Nat → Prop} {r : DRep} (h : DIs w d D S r) (hs : Step (fun i => i = d) w w') {n : Nat} {c : Int} {o : Bool} (hw : Dk.WF { D with n := n, cut := c, off := o })
    (hb : Box w' d T_disk_Disk #[.map (some r.nb), .map (some r.ob), r.lv, .int .i64 n, .int .i64 c, .bool o]) : DIs w' d { D with n := n, cut := c, off := o } S r := ⟨h.toDRaw.setBox hs hb, hw⟩
theorem box_set {w w' : World} {b T : Nat} {cs ds : Array Value} (h : Box w b T cs) (e : cs = ds) : Box w b T ds := e ▸ h

/-! ### New, CutAt, Ops -/
theorem New_ok {w : World} {K : Value → World → Prop} (hg : glim ≤ w.heap.size)
    (hk : ∀ d w' S, DAt w' d newDk S → Step None' w w' → (∀ k, S k → w.heap.size ≤ k) → K (.pointer (some ⟨d, 0, none⟩)) w') : Runs Tryz.prog F_disk_New #[] w K := by
  refine c_disk_New ?_
  unfold H_disk_New
  refine mmake fun w1 m1 s1 z1 => ?_
  refine mmake fun w2 m2 s2 z2 => ?_
  (replace m1 := Vv.MBox.step m1 s2 (fun x => x))
  refine bld #[.map (some w.heap.size), .map (some w1.heap.size), .slice none 0 0, .int .i64 0, .int .i64 (-1), .bool false] (by kernel_rfl) ?_
  refine bxA fun w3 b3 s3 z3 => ?_
  (replace m2 := Vv.MBox.step m2 s3 (fun x => x); replace m1 := Vv.MBox.step m1 s3 (fun x => x))
  refine hk _ _ (fun k => w.heap.size ≤ k ∧ k < w3.heap.size) ⟨⟨w.heap.size, w1.heap.size, .slice none 0 0, [], [], []⟩, ⟨b3, m1, m2, by simp only []; omega, ⟨Own.nil _ _ _, rfl, fun j c h => by simp [newDk] at h, fun k hk => by simp [foot, Value.ownBlock] at hk⟩,
    ⟨rfl, rfl, List.nodup_nil, fun i f h => by simp [newDk] at h, fun i j v u _ h => by simp at h, fun b h => by simp at h, fun v h => by simp at h⟩, by omega, by simp only []; omega, by simp only []; omega, fun k hk => by omega⟩, newDk_wf⟩ ((s1.then_none s2).then_none s3) fun k hk => hk.1
theorem CutAt_ok {w : World} {d : Nat} {D : Dk} {S : Nat → Prop} {c : Int} {K : Value → World → Prop} (h : DAt w d D S) (hc : I64 c) (hk : ∀ w', DAt w' d (D.cutAt c) S → Step S w w' → K (.tuple #[]) w') :
    Runs Tryz.prog F_disk_Disk_CutAt #[.pointer (some ⟨d, 0, none⟩), .int .i64 c] w K := by
  obtain ⟨r, h⟩ := h
  refine c_disk_Disk_CutAt ?_
  unfold H_disk_Disk_CutAt
  refine b_ptr_nnil ?_
  refine Cond_t ⟨trivial, ?_⟩
  (with_reducible refine fld0 ?_)
  refine stB h.box (by simp) rfl fun w1 b1 s1 => ?_
  refine ⟨trivial, ?_⟩
  (with_reducible refine fld0 ?_)
  refine stB b1 (by simp) rfl fun w2 b2 s2 => ?_
  exact hk _ ⟨r, h.setBox (stepMany s1 s2) (h.wf.cutAt hc) b2⟩ ((stepMany s1 s2).mono fun i e => by rw [e]; exact h.Sd)
theorem Ops_ok {w : World} {d : Nat} {D : Dk} {S : Nat → Prop} {K : Value → World → Prop} (h : DAt w d D S) (hk : K (.int .i64 D.n) w) : Runs Tryz.prog F_disk_Disk_Ops #[.pointer (some ⟨d, 0, none⟩)] w K := by
  obtain ⟨r, h⟩ := h
  refine c_disk_Disk_Ops ?_
  unfold H_disk_Disk_Ops
  refine b_ptr_nil ?_
  refine Cond_f ⟨trivial, ?_⟩
  (with_reducible refine fld0 ?_)
  (with_reducible refine ldB h.box (by (simp only [List.getElem?_toArray, List.getElem?_cons_succ, List.getElem?_cons_zero]; rfl)) ?_)
  exact hk

/-! ### maps.Clone -/
theorem run_clone {w : World} {b : Nat} {es : Array MapEntry} {clk : Nat} (t : TypeId) (hb : w.heap[b]? = some (.map es clk)) :
    (Extern.MapsClone.clone #[.iface t (.map (some b))]).run Tryz.prog w = .ok (.iface t (.map (some w.heap.size))) (w.alloc (.map es clk)) := by
  have e : Extern.MapsClone.clone #[.iface t (.map (some b))] = (getObj b >>= fun o => match o with
      | .map entries clock => (newObj (.map entries clock) >>= fun n => pure (.iface t (.map (some n))))
      | _ => stuck "maps.clone: a map expected") := rfl
  rw [e]
  simp [MapKept.run_getObj_map hb, Result.andThen, go_sem]
theorem b_map_nil {P : Program} {t k e : TypeId} {cx cy : Bool} {K : Value → Prop} [ht : Und P t (.map k e)] {b : Nat} (c : K (.bool false)) : Bin P .eql t cx cy (.map (some b)) (.map none) K := by
  have he : ∀ w : World, (Op.equal t (.map (some b)) (.map none)).run P w = .ok false w := fun w => eql_run fun d => by simp [Op.equalIn, run_underlying ht.h]
  refine Bin_of (fun w => ?_) c
  have hg : eqGuard .eql t (opnd cx) (opnd cy) (.map (some b)) (.map none) = pure () := by cases cx <;> cases cy <;> rfl
  simp only [hg, binOp, Sem.run_bind, Sem.run_pure, Result.andThen_ok, he]
theorem Clone_map_ok {w : World} {b : Nat} {m : Ents} {K : Value → World → Prop} (h : MBox w b m)
    (hk : ∀ w', MBox w' w.heap.size m → Step None' w w' → w'.heap.size = w.heap.size + 1 → K (.map (some w.heap.size)) w') : Runs Tryz.prog F_maps_Clone_disk_directory_string_disk_file #[.map (some b)] w K := by
  refine c_maps_Clone_disk_directory_string_disk_file ?_
  unfold H_maps_Clone_disk_directory_string_disk_file
  refine b_map_nil ?_
  refine Cond_f ?_
  obtain ⟨es, clk, h1, h2⟩ := h
  refine Pu_of (v := .iface 73 (.map (some b))) (fun w => by simp [Instr.makeInterface]) ?_
  unfold CallF
  rw [run_callFunc_extern Tryz.func82 (by kernel_rfl) (by kernel_rfl) (by kernel_rfl) (e := Extern.MapsClone.clone) (by kernel_rfl), run_clone 73 h1]
  refine Rd_of (v := .map (some w.heap.size)) ?_ (hk _ ⟨es, clk, heap_alloc_new w _, h2⟩ ((Step.refl _ _).alloc _) (by simp))
  simp [Instr.typeAssert, run_underlying Tryz.underlying73, go_sem, Result.andThen]

end Go.Proofs.VvS

namespace Go.Proofs.VvS
open Go Go.Proofs Vv Go.RowKit

theorem drew_step (w : World) : Step None' w w.drew := (Step.refl _ _).drew
/-- a row of texts -/
abbrev Strs (w : World) (v : Value) (l : List (List UInt8)) : Prop := View w v 1 l.length (l.map Str)
theorem Strs.get {w : World} {v : Value} {l : List (List UInt8)} {t e bytes : TypeId} {z : Value} [hs : SliceOf Tryz.prog t e 1 bytes z] {kd : IntKind} {x : Int} {K : Value → Prop} (h : Strs w v l) (i : Nat) (hx : x = i) (hi : i < l.length)
    (k : ∀ p : Addr, foot v p.block → w.cell? p = some (Str (l[i]'hi)) → K (.pointer (some p))) : Pu Tryz.prog (Instr.indexAt t v (.int kd x)) K :=
  vidx h i hx hi fun b o c e h1 => by
    subst e
    refine k _ rfl ?_
    have := h1 0 (Str (l[i]'hi)) (by simp [List.getElem?_eq_getElem hi])
    simpa using this

theorem refused_ok {w : World} {d : Nat} {D : Dk} {S : Nat → Prop} {there : Bool} {nv : Value} {l : List Name} {K : Value → World → Prop} (h : DAt w d D S) (hv : Strs w nv l) (hS : ∀ k, foot nv k → ¬ S k) (ht : there = true → l ≠ []) (hl : l.length ≤ 1000)
    (hk : ∀ w', DAt w' d D.pow S → Step S w w' → K (.int .i64 (D.pow.why there l)) w') : Runs Tryz.prog F_disk_Disk_refused #[.pointer (some ⟨d, 0, none⟩), .bool there, nv] w K := by
  obtain ⟨r, h⟩ := h
  refine c_disk_Disk_refused ?_
  unfold H_disk_Disk_refused
  refine b_ptr_nil ?_
  refine Cond_f ?_
  intro J hJ
  refine ⟨trivial, ?_⟩
  (with_reducible refine fld0 ?_)
  have hn := h.wf.nle
  have hcut := h.wf.cutI
  unfold I64 at hcut
  have hwf := h.wf.pow
  -- what follows the first statement
  have main : ∀ w', DIs w' d D.pow S r → Step S w w' → J w' := by
    intro w2 h2 s2
    refine hJ _ ?_
    have hv2 : Strs w2 nv l := View.step hv s2 hS
    refine ⟨trivial, ?_⟩
    (with_reducible refine fld0 ?_)
    (with_reducible refine ldB h2.box (by (simp only [List.getElem?_toArray, List.getElem?_cons_succ, List.getElem?_cons_zero]; rfl)) ?_)
    unfold Dk.why at hk
    cases hoff : D.pow.off with
    | true =>
      refine Cond_t (hk _ ⟨r, h2⟩ s2 |> fun q => ?_)
      rw [hoff] at q
      exact q
    | false =>
      refine Cond_f ?_
      rw [hoff] at hk
      simp only [Bool.false_eq_true, if_false] at hk
      refine l_view hv2 ?_
      refine ⟨fun i wr => ∃ j : Nat, i = .int .i64 j ∧ j ≤ l.length ∧ DIs wr d D.pow S r ∧ Step S w wr ∧ ∀ s ∈ l.take j, isName s = true, fun i _ => match i with | .int _ n => l.length - n.toNat | _ => 0, ⟨0, rfl, by omega, h2, s2, by simp⟩, ?_⟩
      rintro _ w3 ⟨j, rfl, hj, h3, s3, hall⟩
      have hv3 : Strs w3 nv l := View.step hv s3 hS
      (with_reducible refine b_lss ?_)
      refine cnd (fun hlt => ?_) (fun hlt => ?_)
      · have hjl : j < l.length := by omega
        refine Strs.get hv3 j rfl hjl fun p _ hp => ?_
        refine ld hp ?_
        (with_reducible refine cf ?_)
        refine IsName_ok fun w4 s4 => ?_
        refine unot ?_
        have h4 := h3.step s4 fun _ _ x => x
        cases hnm : isName l[j] with
        | false =>
          refine Cond_t ?_
          have : (l.any fun s => !isName s) = true := List.any_eq_true.2 ⟨l[j], List.getElem_mem hjl, by simp [hnm]⟩
          have q := hk _ ⟨r, h4⟩ (s3.then_none s4)
          rw [this] at q
          exact q
        | true =>
          refine Cond_f ?_
          (with_reducible refine b_add (by (first | (unfold I64; omega) | omega)) ?_)
          refine ⟨⟨j + 1, by simp, by omega, h4, s3.then_none s4, fun s hs => ?_⟩, by simp only []; omega⟩
          rw [List.take_succ_eq_append_getElem hjl] at hs
          rcases List.mem_append.1 hs with hs | hs
          · exact hall s hs
          · simp at hs; rw [hs]; exact hnm
      · have hall' : (l.any fun s => !isName s) = false := by
          rw [List.any_eq_false]
          intro s hs
          rw [List.take_of_length_le (by omega)] at hall
          simp [hall s hs]
        rw [hall'] at hk
        simp only [Bool.false_eq_true, if_false] at hk
        intro J2 hJ2
        have s0 := drew_step w3
        generalize w3.drew = w4 at s0 ⊢
        (replace h3 := Go.Proofs.VvS.DIs.step h3 s0 (fun _ _ x => x); replace hv3 := Vv.View.step hv3 s0 (fun _ _ x => x))
        have s4 := s3.then_none s0
        have fin : (there && (nlook D.pow.now (l.headD [])).isNone) = false → J2 (.bool false) w4 := by
          intro e
          refine hJ2 _ _ (Cond_f ⟨trivial, ?_⟩)
          (with_reducible refine fld0 ?_)
          (with_reducible refine ldB h3.box (by (simp only [List.getElem?_toArray, List.getElem?_cons_succ, List.getElem?_cons_zero]; rfl)) ?_)
          (with_reducible refine b_geq ?_)
          rw [e] at hk
          simp only [Bool.false_eq_true, if_false] at hk
          refine cnd (fun h6 => ?_) (fun h6 => ?_)
          · have q := hk _ ⟨r, h3⟩ s4
            rw [if_pos (by omega)] at q
            exact q
          · have q := hk _ ⟨r, h3⟩ s4
            rw [if_neg (by omega)] at q
            exact q
        cases there with
        | false => exact Gate_not rfl (fin rfl)
        | true =>
          refine Gate_is rfl ⟨trivial, ?_⟩
          (with_reducible refine fld0 ?_)
          (with_reducible refine ldB h3.box (by (simp only [List.getElem?_toArray, List.getElem?_cons_succ, List.getElem?_cons_zero]; rfl)) ?_)
          have hlp : 0 < l.length := by
            have := ht rfl
            cases l with
            | nil => exact absurd rfl this
            | cons a b => simp
          refine Strs.get hv3 0 rfl hlp fun p _ hp => ?_
          refine ld hp ?_
          refine mlook h3.now ?_
          have e0 : l[0] = l.headD [] := by cases l with | nil => simp at hlp | cons a b => rfl
          rw [e0, look_dirEnts]
          cases hq : nlook D.pow.now (l.headD []) with
          | none =>
            refine b_ptr_nil ?_
            refine hJ2 _ _ (Cond_t ?_)
            have q := hk _ ⟨r, h3⟩ s4
            rw [hq] at q
            exact q
          | some i =>
            have hi := look_lt h3.wf hq
            have : i < r.fb.length := by rw [h3.fil.fbl]; exact hi
            simp only [Option.map_some, Option.getD_some, fptr, List.getElem?_eq_getElem this]
            refine b_ptr_nil ?_
            exact fin (by rw [hq]; rfl)
  have s0 := drew_step w
  generalize w.drew = w1 at s0 ⊢
  (replace hv := Vv.View.step hv s0 (fun _ _ x => x); replace h := Go.Proofs.VvS.DIs.step h s0 (fun _ _ x => x))
  (with_reducible refine ldB h.box (by (simp only [List.getElem?_toArray, List.getElem?_cons_succ, List.getElem?_cons_zero]; rfl)) ?_)
  have putoff : ∀ (b : Bool), b = D.pow.off → (nilOk (Value.pointer (some ⟨d, 0, none⟩)) ∧ Pu Tryz.prog (Instr.fieldAt 76 (Value.pointer (some ⟨d, 0, none⟩)) 5) fun t35 => Do Tryz.prog (Instr.storeAt 4 t35 (.bool b)) w1 fun _ w_5 => J w_5) := by
    intro b e
    refine ⟨trivial, ?_⟩
    (with_reducible refine fld0 ?_)
    refine stB h.box (by simp) rfl fun w5 b5 s5 => ?_
    subst e
    exact main _ (h.setBox s5 hwf b5) (s0.of_none.trans s5 fun i hi => .inl (by rw [hi]; exact h.Sd))
  cases ho : D.off with
  | true => exact Gate_not rfl (putoff true (by unfold Dk.pow; simp [ho]))
  | false =>
    refine Gate_is rfl ⟨trivial, ?_⟩
    (with_reducible refine fld0 ?_)
    (with_reducible refine ldB h.box (by (simp only [List.getElem?_toArray, List.getElem?_cons_succ, List.getElem?_cons_zero]; rfl)) ?_)
    (with_reducible refine b_geq ?_)
    refine gt_t (fun h1 => ?_) (fun h1 => ?_)
    · refine ⟨trivial, ?_⟩
      (with_reducible refine fld0 ?_)
      (with_reducible refine ldB h.box (by (simp only [List.getElem?_toArray, List.getElem?_cons_succ, List.getElem?_cons_zero]; rfl)) ?_)
      refine ⟨trivial, ?_⟩
      (with_reducible refine fld0 ?_)
      (with_reducible refine ldB h.box (by (simp only [List.getElem?_toArray, List.getElem?_cons_succ, List.getElem?_cons_zero]; rfl)) ?_)
      (with_reducible refine b_geq ?_)
      exact putoff _ (by unfold Dk.pow; simp [ho, h1])
    · exact putoff false (by unfold Dk.pow; simp [ho]; omega)
end Go.Proofs.VvS

namespace Go.Proofs.VvS
open Go Go.Proofs Vv Go.RowKit

theorem own_not_box {w : World} {v : Value} {T n : Nat} {xs : List Value} (h : Own w v T n xs) {b T' : Nat} {cs : Array Value} (hb : Box w b T' cs) (hT : T ≠ T') : ¬ foot v b := fun hf => by
  have := tag_own h hf
  rw [tag_box hb] at this
  omega
theorem own_not_map {w : World} {v : Value} {T n : Nat} {xs : List Value} (h : Own w v T n xs) {b : Nat} {m : Ents} (hb : MBox w b m) : ¬ foot v b := fun hf => by
  have := tag_own h hf
  rw [tag_map hb] at this
  omega
theorem box_ne {w : World} {b c T T' : Nat} {cs ds : Array Value} (h : Box w b T cs) (k : Box w c T' ds) (hT : T ≠ T') : b ≠ c := by
  rintro rfl
  have := tag_box h
  rw [tag_box k] at this
  omega
theorem modify_set {fs : List Fl} {i : Nat} {f : Fl} (h : fs[i]? = some f) (g : Fl → Fl) : fs.modify i g = fs.set i (g f) := by
  apply List.ext_getElem?
  intro j
  simp only [List.getElem?_modify, List.getElem?_set]
  by_cases hij : i = j
  · subst hij
    rw [h]
    have := (List.getElem?_eq_some_iff.1 h).1
    simp [this]
  · simp [hij]

/-- a file is turned -/
theorem FilesIs.turn {w w' : World} {S : Nat → Prop} {fs : List Fl} {fb : List Nat} {rv : List Value} (h : FilesIs w S fs fb rv) {i : Nat} {f f' : Fl} {b : Nat} {v v' : Value} (hi : fs[i]? = some f) (hb : fb[i]? = some b) (hv : rv[i]? = some v)
    (hs : Step (fun k => k = b ∨ foot v k) w w') (hbox : Box w' b T_disk_file #[v', .int .i64 f'.syn]) (ho : Own w' v' T_uint8 1 (B8 f'.b)) (hg : ∀ k, foot v' k → foot v k ∨ w.heap.size ≤ k) :
    FilesIs w' (fun k => S k ∨ foot v' k) (fs.set i f') fb (rv.set i v') := by
  have hlt := (List.getElem?_eq_some_iff.1 hi).1
  have hlv := (List.getElem?_eq_some_iff.1 hv).1
  have hown : ∀ (j : Nat) (u : Value), rv[j]? = some u → ∃ (f : Fl) (c : Nat), fs[j]? = some f ∧ fb[j]? = some c ∧ Box w c T_disk_file #[u, .int .i64 f.syn] ∧ Own w u T_uint8 1 (B8 f.b) := by
    intro j u hu
    have hj := (List.getElem?_eq_some_iff.1 hu).1
    rw [h.rvl] at hj
    obtain ⟨c, u', h1, h2, h3, h4⟩ := h.file j fs[j] (List.getElem?_eq_getElem hj)
    rw [hu] at h2; cases h2
    exact ⟨_, c, List.getElem?_eq_getElem hj, h1, h3, h4⟩
  have hvo : Own w v T_uint8 1 (B8 f.b) ∧ Box w b T_disk_file #[v, .int .i64 f.syn] := by
    obtain ⟨f0, c, h1, h2, h3, h4⟩ := hown i v hv
    rw [hi] at h1; cases h1
    rw [hb] at h2; cases h2
    exact ⟨h4, h3⟩
  have hnot : ∀ (j : Nat) (u : Value), j ≠ i → rv[j]? = some u → ∀ k, foot u k → ¬ foot v' k := by
    intro j u hj hu k hk hk'
    obtain ⟨f0, c, h1, h2, h3, h4⟩ := hown j u hu
    rcases hg k hk' with h5 | h5
    · exact h.sep j i u v hj hu hv k hk h5
    · have := h4.lt k hk
      omega
  refine ⟨by simp [h.fbl], by simp [h.rvl], h.nd, fun j g hj => ?_, fun j k u x hjk hu hx => ?_, fun c hc => .inl (h.Sf c hc), fun u hu k hk => ?_⟩
  · rw [List.getElem?_set] at hj
    by_cases hij : i = j
    · subst hij
      simp [hlt] at hj
      subst hj
      exact ⟨b, v', hb, by simp [hlv], hbox, ho⟩
    · simp [hij] at hj
      obtain ⟨c, u, h1, h2, h3, h4⟩ := h.file j g hj
      have hcb : c ≠ b := by
        rintro rfl
        obtain ⟨a1, a2⟩ := List.getElem?_eq_some_iff.1 h1
        obtain ⟨b1, b2⟩ := List.getElem?_eq_some_iff.1 hb
        have hp := List.pairwise_iff_getElem.1 h.nd
        rcases Nat.lt_trichotomy i j with hl | hl | hl
        · exact hp i j b1 a1 hl (b2.trans a2.symm)
        · exact hij hl
        · exact hp j i a1 b1 hl (a2.trans b2.symm)
      refine ⟨c, u, h1, by rw [List.getElem?_set_ne hij]; exact h2, h3.step hs ?_, h4.step hs ?_⟩
      · rintro (e | e)
        · exact hcb e
        · exact own_not_box hvo.1 h3 (by decide) e
      · rintro k hk (e | e)
        · subst e; exact own_not_box h4 hvo.2 (by decide) hk
        · exact h.sep j i u v (Ne.symm hij) h2 hv k hk e
  · rw [List.getElem?_set] at hu hx
    by_cases h1 : i = j
    · subst h1
      simp [hlv] at hu
      subst hu
      simp [hjk] at hx
      intro k' hk' hk2
      exact hnot k x (Ne.symm hjk) hx k' hk2 hk'
    · simp [h1] at hu
      by_cases h2 : i = k
      · subst h2
        simp [hlv] at hx
        subst hx
        exact hnot j u hjk hu
      · simp [h2] at hx
        exact h.sep j k u x hjk hu hx
  · rcases List.mem_or_eq_of_mem_set hu with hu | rfl
    · exact .inl (h.Sr u hu k hk)
    · exact .inr hk
/-- a file is turned: the disk -/
theorem DRaw.turn {w w' : World} {d : Nat} {D : Dk} {S : Nat → Prop} {r : DRep} (h : DRaw w d D S r) {i : Nat} {f f' : Fl} {b : Nat} {v v' : Value} (hi : D.fs[i]? = some f) (hb : r.fb[i]? = some b) (hv : r.rv[i]? = some v)
    (hs : Step (fun k => k = b ∨ foot v k) w w') (hbox : Box w' b T_disk_file #[v', .int .i64 f'.syn]) (ho : Own w' v' T_uint8 1 (B8 f'.b)) (hg : ∀ k, foot v' k → foot v k ∨ w.heap.size ≤ k) :
    DRaw w' d { D with fs := D.fs.set i f' } (fun k => S k ∨ foot v' k) { r with rv := r.rv.set i v' } := by
  obtain ⟨b0, v0, h1, h2, h3, h4⟩ := h.fil.file i f hi
  rw [hb] at h1; cases h1
  rw [hv] at h2; cases h2
  have tb := tag_box h3
  refine ⟨h.box.step hs ?_, h.now.step hs ?_, h.old.step hs ?_, h.ne, (h.log.step hs ?_).mono fun k hk => .inl hk, h.fil.turn hi hb hv hs hbox ho hg, .inl h.Sd, .inl h.Sn, .inl h.So, ?_⟩
  · rintro (e | e)
    · exact box_ne h.box h3 (by decide) e
    · exact own_not_box h4 h.box (by decide) e
  · rintro (e | e)
    · exact h.now.ne_box h3 e
    · exact own_not_map h4 h.now e
  · rintro (e | e)
    · exact h.old.ne_box h3 e
    · exact own_not_map h4 h.old e
  · rintro c _ (e | e)
    · subst e; rw [tb]; decide
    · rw [tag_own h4 e]; decide
  · rintro k (e | e)
    · exact ⟨(h.lim k e).1, Nat.lt_of_lt_of_le (h.lim k e).2 hs.size⟩
    · refine ⟨(hg k e).elim (fun x => (h.lim k (h.fil.Sr v (List.mem_of_getElem? hv) k x)).1) fun x => ?_, ho.lt k e⟩
      have := (h.lim d h.Sd)
      omega
/-- a file more -/
theorem DRaw.more {w : World} {d : Nat} {D : Dk} {S : Nat → Prop} {r : DRep} (h : DRaw w d D S r) (hw : D.WF) {c : Nat} (hc : Box w c T_disk_file #[.slice none 0 0, .int .i64 0]) (hn : ¬ S c) (hl : glim ≤ c) :
    DRaw w d { D with fs := D.fs ++ [⟨[], 0⟩] } (fun k => S k ∨ k = c) { r with fb := r.fb ++ [c], rv := r.rv ++ [.slice none 0 0] } := by
  have fbl := h.fil.fbl
  have rvl := h.fil.rvl
  refine ⟨h.box, ?_, ?_, h.ne, ⟨h.log.own, h.log.len, fun j q hj => ?_, fun k hk => .inl (h.log.Sl k hk)⟩, ⟨by simp [fbl], by simp [rvl], ?_, fun i f hf => ?_, fun i j u x hij hu hx => ?_, fun b hb => ?_, fun u hu k hk => ?_⟩, .inl h.Sd, .inl h.Sn, .inl h.So, ?_⟩
  · rw [dirEnts_app _ _ fun p hp => by rw [fbl]; exact (hw.nowOk.mem p hp).1]; exact h.now
  · rw [dirEnts_app _ _ fun p hp => by rw [fbl]; exact (hw.oldOk.mem p hp).1]; exact h.old
  · obtain ⟨v, h1, h2⟩ := h.log.ch j q hj
    exact ⟨v, h1, (h2.app [c] fun s i e => by rw [fbl]; exact hw.logI s i (e ▸ List.mem_of_getElem? hj)).mono fun k hk => .inl hk⟩
  · refine List.nodup_append.2 ⟨h.fil.nd, by simp, ?_⟩
    intro a ha b hb e
    simp at hb
    subst hb; subst e
    exact hn (h.fil.Sf _ ha)
  · by_cases hi : i < D.fs.length
    · rw [List.getElem?_append_left hi] at hf
      obtain ⟨b, v, h1, h2, h3, h4⟩ := h.fil.file i f hf
      exact ⟨b, v, by rw [List.getElem?_append_left (by omega)]; exact h1, by rw [List.getElem?_append_left (by omega)]; exact h2, h3, h4⟩
    · have hi2 : i = D.fs.length := by
        have := (List.getElem?_eq_some_iff.1 hf).1
        simp at this; omega
      subst hi2
      simp at hf
      subst hf
      refine ⟨c, .slice none 0 0, by rw [← fbl]; simp, by rw [← rvl]; simp, hc, Own.nil _ _ _⟩
  · have key : ∀ (j : Nat) (y : Value), (r.rv ++ [.slice none 0 0])[j]? = some y → r.rv[j]? = some y ∨ y = .slice none 0 0 := by
      intro j y hy
      by_cases hj : j < r.rv.length
      · rw [List.getElem?_append_left hj] at hy; exact .inl hy
      · rw [List.getElem?_append_right (by omega)] at hy
        have := List.mem_of_getElem? hy
        simp at this
        exact .inr this
    rcases key i u hu with h1 | rfl
    · rcases key j x hx with h2 | rfl
      · exact h.fil.sep i j u x hij h1 h2
      · intro k _ hk; simp [foot, Value.ownBlock] at hk
    · intro k hk; simp [foot, Value.ownBlock] at hk
  · simp at hb
    rcases hb with hb | rfl
    · exact .inl (h.fil.Sf b hb)
    · exact .inr rfl
  · simp at hu
    rcases hu with hu | rfl
    · exact .inl (h.fil.Sr u hu k hk)
    · simp [foot, Value.ownBlock] at hk
  · rintro k (e | rfl)
    · exact h.lim k e
    · exact ⟨hl, hc.lt⟩
theorem DRaw.mono {w : World} {d : Nat} {D : Dk} {S S2 : Nat → Prop} {r : DRep} (h : DRaw w d D S r) (hS : ∀ k, S k → S2 k) (hl : ∀ k, S2 k → glim ≤ k ∧ k < w.heap.size) : DRaw w d D S2 r :=
  ⟨h.box, h.now, h.old, h.ne, h.log.mono hS, h.fil.mono hS, hS _ h.Sd, hS _ h.Sn, hS _ h.So, hl⟩

/-! ### the closures, and change -/
theorem Append1_ok {w : World} {b x y : Nat} {m : Ents} {pv : Value} {s : Name} {K : Value → World → Prop} (hm : MBox w b m) (hx : Box w x T_p_disk_file #[pv]) (hy : Box w y T_string #[Str s])
    (hk : ∀ w', MBox w' b ((s, pv) :: drop' m s) → Step (fun i => i = b) w w' → K (.tuple #[]) w') : Runs Tryz.prog F_disk_Disk_Append_1 #[.map (some b), .pointer (some ⟨x, 0, none⟩), .pointer (some ⟨y, 0, none⟩)] w K := by
  refine c_disk_Disk_Append_1 ?_
  unfold H_disk_Disk_Append_1
  (with_reducible refine ldB hy (by (simp only [List.getElem?_toArray, List.getElem?_cons_succ, List.getElem?_cons_zero]; rfl)) ?_)
  (with_reducible refine ldB hx (by (simp only [List.getElem?_toArray, List.getElem?_cons_succ, List.getElem?_cons_zero]; rfl)) ?_)
  exact mput hm hk
theorem Delete1_ok {w : World} {b y : Nat} {m : Ents} {s : Name} {K : Value → World → Prop} (hm : MBox w b m) (hy : Box w y T_string #[Str s])
    (hk : ∀ w', MBox w' b (drop' m s) → Step (fun i => i = b) w w' → K (.tuple #[]) w') : Runs Tryz.prog F_disk_Disk_Delete_1 #[.map (some b), .pointer (some ⟨y, 0, none⟩)] w K := by
  refine c_disk_Disk_Delete_1 ?_
  unfold H_disk_Disk_Delete_1
  (with_reducible refine ldB hy (by (simp only [List.getElem?_toArray, List.getElem?_cons_succ, List.getElem?_cons_zero]; rfl)) ?_)
  exact mdel (ats := #[9]) hm hk
set_option maxRecDepth 4000 in
/-- a closure of the log, over whatever directory -/
theorem IsCh.run {w : World} {S : Nat → Prop} {fb : List Nat} {c : Ch} {cv : Value} (h : IsCh w S fb c cv) {b : Nat} {l : Dir} {K : Value → World → Prop} (hm : MBox w b (dirEnts fb l))
    (hk : ∀ w', MBox w' b (dirEnts fb (chd l c)) → Step (fun i => i = b) w w' → K (.tuple #[]) w') : CallV Tryz.prog cv #[.map (some b)] w K := by
  cases c with
  | make s i =>
    obtain ⟨x, y, rfl, h4, h5, _⟩ := h
    ((with_reducible refine cv ?_); simp only [List.append_toArray, List.nil_append, List.cons_append, List.append_nil])
    exact Append1_ok hm h4 h5 fun w' h1 h2 => hk w' (h1.perm (dwith_dirEnts fb l s i)) h2
  | del s =>
    obtain ⟨y, rfl, h5, _⟩ := h
    ((with_reducible refine cv ?_); simp only [List.append_toArray, List.nil_append, List.cons_append, List.append_nil])
    exact Delete1_ok hm h5 fun w' h1 h2 => hk w' (by rw [drop_dirEnts] at h1; exact h1) h2
  | ren a b => exact h.elim
theorem IsCh.one {w : World} {S : Nat → Prop} {fb : List Nat} {c : Ch} {cv : Value} (h : IsCh w S fb c cv) : cv.oneCell' = true := by
  cases c with
  | make s i => obtain ⟨x, y, rfl, _⟩ := h; rfl
  | del s => obtain ⟨y, rfl, _⟩ := h; rfl
  | ren a b => exact h.elim
theorem change_ok {w : World} {d : Nat} {D : Dk} {S : Nat → Prop} {r : DRep} {c : Ch} {cv : Value} {K : Value → World → Prop} (h : DRaw w d D S r) (hc : IsCh w S r.fb c cv) (hl : D.log.length ≤ 65536)
    (hk : ∀ w' S' lv' lvs', DRaw w' d { D with now := chd D.now c, log := D.log ++ [c] } S' { r with lv := lv', lvs := lvs' } → Evo S w S' w' → (∀ k, S k → S' k) → IsCh w' S' r.fb c cv → K (.tuple #[]) w') :
    Runs Tryz.prog F_disk_Disk_change #[.pointer (some ⟨d, 0, none⟩), cv] w K := by
  refine c_disk_Disk_change ?_
  unfold H_disk_Disk_change
  refine ⟨trivial, ?_⟩
  (with_reducible refine fld0 ?_)
  (with_reducible refine ldB h.box (by (simp only [List.getElem?_toArray, List.getElem?_cons_succ, List.getElem?_cons_zero]; rfl)) ?_)
  refine hc.run h.now fun w1 m1 s1 => ?_
  have tn := tag_map h.now
  have h1log : LogIs w1 S r.fb D.log r.lv r.lvs := h.log.step s1 fun b _ e => by subst e; rw [tn]; decide
  have h1fil : FilesIs w1 S D.fs r.fb r.rv := h.fil.step s1 fun b _ e => by subst e; rw [tn]; decide
  have h1box := h.box.step s1 (fun e => h.now.ne_box h.box e.symm)
  have h1old := h.old.step s1 (fun e => h.ne e.symm)
  have hc1 : IsCh w1 S r.fb c cv := by
    cases c with
    | make s i =>
      obtain ⟨x, y, h3, h4, h5, h6, h7⟩ := hc
      exact ⟨x, y, h3, h4.step s1 (fun e => h.now.ne_box h4 e.symm), h5.step s1 (fun e => h.now.ne_box h5 e.symm), h6, h7⟩
    | del s =>
      obtain ⟨y, h3, h5, h7⟩ := hc
      exact ⟨y, h3, h5.step s1 (fun e => h.now.ne_box h5 e.symm), h7⟩
    | ren a b => exact hc
  refine ⟨trivial, ?_⟩
  (with_reducible refine fld0 ?_)
  (with_reducible refine ldB h1box (by (simp only [List.getElem?_toArray, List.getElem?_cons_succ, List.getElem?_cons_zero]; rfl)) ?_)
  refine bs1N hc1.one fun w2 v2 s2 z2 => ?_
  have h2log := h1log.step s2 fun b _ x => x.elim
  have hlen := h.log.len
  refine app (h2log.own) (ASrc.of_view v2) (by simp [hc1.one]) (fun n hn => by simp at hn; unfold maxLen; omega) fun lv' w3 ho3 t3 => ?_
  refine ⟨trivial, ?_⟩
  (with_reducible refine fld0 ?_)
  have h2box := h1box.step s2 fun x => x
  have hfb : ¬ foot r.lv d := own_not_box h2log.own h2box (by decide)
  have h3box := h2box.step t3.step hfb
  refine stB h3box (by simp) ho3.shape1 fun w4 b4 s4 => ?_
  have hS1 : ∀ k, S k → k < w.heap.size := fun k hk => (h.lim k hk).2
  have hg : ∀ k, foot lv' k → foot r.lv k ∨ w2.heap.size ≤ k := t3.grow
  have hstep : Step S w w4 := by
    refine (((s1.mono (S' := S) fun i e => by rw [e]; exact h.Sn).then_none s2).trans t3.step fun i hi => .inl (h.log.Sl i hi)).trans s4 fun i hi => .inl (by rw [hi]; exact h.Sd)
  have z1 := s1.size
  have z2' := s2.size
  have z3 := t3.step.size
  have z4 := s4.size
  -- the steps behind the first, over what lay at w1
  have s14 : Step (fun k => k = d ∨ foot r.lv k) w1 w4 := ((Step.of_none s2).trans t3.step fun i hi => .inl (.inr hi)).trans s4 fun i hi => .inl (.inl hi)
  have td := tag_box h1box
  have ho4 : Own w4 lv' T_fn_disk_directory_of_ 1 (r.lvs ++ [cv]) := ho3.step s4 fun k hf e => by
    have hf' : foot lv' d := e ▸ hf
    rcases hg d hf' with h5 | h5
    · exact hfb h5
    · have := hS1 d h.Sd; omega
  have lift : ∀ (q : Ch) (v : Value), IsCh w1 S r.fb q v → IsCh w4 (fun k => S k ∨ foot lv' k) r.fb q v := by
    intro q v hq
    refine IsCh.mono (fun k hk => .inl hk) ?_
    cases q with
    | make s i =>
      obtain ⟨x, y, h3, h4, h5, h6, h7⟩ := hq
      exact ⟨x, y, h3, h4.step s14 fun e => e.elim (fun e => box_ne h4 h1box (by decide) e) fun e => own_not_box h1log.own h4 (by decide) e, h5.step s14 fun e => e.elim (fun e => box_ne h5 h1box (by decide) e) fun e => own_not_box h1log.own h5 (by decide) e, h6, h7⟩
    | del s =>
      obtain ⟨y, h3, h5, h7⟩ := hq
      exact ⟨y, h3, h5.step s14 fun e => e.elim (fun e => box_ne h5 h1box (by decide) e) fun e => own_not_box h1log.own h5 (by decide) e, h7⟩
    | ren a b => exact hq
  refine hk w4 (fun k => S k ∨ foot lv' k) lv' (r.lvs ++ [cv]) ⟨b4, ?_, ?_, h.ne, ⟨ho4, by simp [hlen], fun j q hj => ?_, fun k hk => .inr hk⟩, ?_, .inl h.Sd, .inl h.Sn, .inl h.So, ?_⟩ ⟨hstep, ?_⟩ (fun k hk => .inl hk) (lift _ _ hc1)
  · exact m1.step s14 fun e => e.elim (fun e => m1.ne_box h1box e) fun e => own_not_map h1log.own m1 e
  · exact h1old.step s14 fun e => e.elim (fun e => h1old.ne_box h1box e) fun e => own_not_map h1log.own h1old e
  · simp only [] at hj
    by_cases hjl : j < D.log.length
    · rw [List.getElem?_append_left hjl] at hj
      obtain ⟨v, h3, h4⟩ := h1log.ch j q hj
      exact ⟨v, by rw [List.getElem?_append_left (by omega)]; exact h3, lift q v h4⟩
    · have : j = D.log.length := by
        have := (List.getElem?_eq_some_iff.1 hj).1
        simp at this; omega
      subst this
      simp at hj
      subst hj
      exact ⟨cv, by rw [← hlen]; simp, lift _ _ hc1⟩
  · refine (h1fil.step s14 ?_).mono fun k hk => .inl hk
    rintro b _ (e | e)
    · subst e; rw [td]; decide
    · rw [tag_own h1log.own e]; decide
  · rintro k (e | e)
    · have := h.lim k e; exact ⟨this.1, by omega⟩
    · refine ⟨(hg k e).elim (fun x => (h.lim k (h.log.Sl k x)).1) fun x => ?_, ho4.lt k e⟩
      have := h.lim d h.Sd
      omega
  · rintro k (e | e)
    · exact .inl e
    · exact (hg k e).elim (fun x => .inl (h.log.Sl k x)) fun x => .inr (by omega)
end Go.Proofs.VvS

namespace Go.Proofs.VvS
open Go Go.Proofs Vv Go.RowKit

theorem fptr_some {fb : List Nat} {i b : Nat} (h : fb[i]? = some b) : fptr fb i = .pointer (some ⟨b, 0, none⟩) := by unfold fptr; rw [h]; rfl
theorem b_addn {cx cy : Bool} {t : TypeId} {n : Nat} {K : Value → Prop} (h : n ≤ 1000000) (k : K (.int .i64 ((n + 1 : Nat) : Int))) : Bin Tryz.prog .add t cx cy (.int .i64 (n : Int)) (.int .i64 1) K :=
  b_add (by unfold I64; omega) (by simpa using k)

set_option maxHeartbeats 1000000 in
theorem Append_ok {w : World} {d : Nat} {D : Dk} {S : Nat → Prop} {s : Name} {v : Value} {b : List UInt8} {K : Value → World → Prop} (h : DAt w d D S) (hv : Bytes w v b) (hvS : ∀ k, foot v k → ¬ S k) (hb : b.length ≤ 500000000)
    (hk : ∀ w' S', DAt w' d (D.append s b).1 S' → Evo S w S' w' → K (.int .i64 (D.append s b).2) w') : Runs Tryz.prog F_disk_Disk_Append #[.pointer (some ⟨d, 0, none⟩), Str s, v] w K := by
  refine c_disk_Disk_Append ?_
  unfold H_disk_Disk_Append
  have hvl := View.lt hv
  have hSl := h.lt
  have hlim := h.lim d h.Sd
  have hA := append_wf h.wf s b
  have hdl := hSl d h.Sd
  refine bx1 rfl fun w1 y1 s1 z1 => ?_
  (replace h := Go.Proofs.VvS.DAt.step h s1 (fun _ _ x => x); replace hv := Vv.View.step hv s1 (fun _ _ x => x))
  (with_reducible refine ldB y1 (by (simp only [List.getElem?_toArray, List.getElem?_cons_succ, List.getElem?_cons_zero]; rfl)) ?_)
  refine bs1N rfl fun w2 n2 s2 z2 => ?_
  (replace y1 := Vv.Box.step y1 s2 (fun x => x); replace h := Go.Proofs.VvS.DAt.step h s2 (fun _ _ x => x); replace hv := Vv.View.step hv s2 (fun _ _ x => x))
  (with_reducible refine cf ?_)
  refine refused_ok (l := [s]) h n2 (fun k hk hs => by simp [foot, Value.ownBlock] at hk; have := hSl k hs; omega) (by simp) (by simp) fun w3 h3 s3 => ?_
  have y3 := y1.step s3 (fun hs => by have := hSl _ hs; omega)
  have hv3 := View.step hv s3 hvS
  have hz3 := s3.size
  have e03 : Evo S w S w3 := ((Evo.of_none s1).then_none s2).trans ⟨s3, fun _ hs => .inl hs⟩
  have hwf := h3.wf
  clear h
  unfold Dk.append at hk hA
  generalize D.pow = E at h3 hk hwf hA
  simp only [] at hk hA
  refine b_neq ?_
  by_cases hw : E.why false [s] ≠ 0
  · rw [if_pos hw] at hk
    refine cnd_t (by omega) ?_
    exact hk _ _ h3 e03
  have hw : E.why false [s] = 0 := Decidable.not_not.1 hw
  rw [if_neg (by simpa using hw)] at hk hA
  refine cnd_f (by omega) ?_
  have hwhy := why_n hw
  obtain ⟨r, h3⟩ := h3
  have hn := hwf.nle
  refine ⟨trivial, ?_⟩
  (with_reducible refine fld0 ?_)
  have s4 := drew_step w3
  generalize w3.drew = w4 at s4 ⊢
  (replace y3 := Vv.Box.step y3 s4 (fun x => x); replace hv3 := Vv.View.step hv3 s4 (fun _ _ x => x); replace h3 := Go.Proofs.VvS.DIs.step h3 s4 (fun _ _ x => x))
  (with_reducible refine ldB h3.box (by (simp only [List.getElem?_toArray, List.getElem?_cons_succ, List.getElem?_cons_zero]; rfl)) ?_)
  (with_reducible refine ldB y3 (by (simp only [List.getElem?_toArray, List.getElem?_cons_succ, List.getElem?_cons_zero]; rfl)) ?_)
  refine mlook h3.now ?_
  rw [look_dirEnts]
  have hp1 : ∀ q : Value, (∃ a, q = .pointer a) → q.oneCell' = true := fun q ⟨a, e⟩ => by subst e; rfl
  generalize hq : ((nlook E.now s).map (fptr r.fb)).getD (.pointer none) = q
  have hqp : ∃ a, q = .pointer a := by
    subst hq
    cases nlook E.now s with
    | none => exact ⟨_, rfl⟩
    | some i => exact ⟨_, rfl⟩
  refine al1 rfl fun w5 x5 s5 z5 => ?_
  (replace y3 := Vv.Box.step y3 s5 (fun x => x); replace hv3 := Vv.View.step hv3 s5 (fun _ _ x => x); replace h3 := Go.Proofs.VvS.DIs.step h3 s5 (fun _ _ x => x))
  refine ⟨by rw [← hq, ← look_dirEnts]; exact mlooks h3.now, ldBs y3 rfl, ldBs h3.box rfl, ?_⟩
  refine stB x5 (by simp) (hp1 _ hqp) fun w6 x6 s6 => ?_
  replace x6 : Box w6 w4.heap.size T_p_disk_file #[q] := x6
  have hlim4 : ∀ k, S k → k < w4.heap.size := fun k hs => by have := hSl k hs; have := s4.size; omega
  have y6 := y3.step s6 (by have := y3.lt; have := s4.size; omega)
  have hv6 := View.step hv3 s6 (fun k hk e => by have := hvl k hk; have := s4.size; omega)
  have h6 := h3.step s6 (fun k hk e => by have := hlim4 k hk; omega)
  have hz4 := s4.size
  have hz6 := s6.size
  have e06 : Evo S w S w6 := ((e03.then_none s4).then_none s5).then_new s6 fun i hi => .inr (by omega)
  clear x5 y3 hv3 h3 y1 s1 s2 s3 s4 s5 s6 e03
  -- the end: the file that the variable names gets the bytes
  intro J hJ
  have fin : ∀ (w7 : World) (S7 : Nat → Prop) (D7 : Dk) (r7 : DRep) (i : Nat) (f : Fl) (c : Nat), DRaw w7 d D7 S7 r7 → D7.fs[i]? = some f → r7.fb[i]? = some c → Box w7 w4.heap.size T_p_disk_file #[.pointer (some ⟨c, 0, none⟩)] → Evo S w S7 w7 → (∀ k, foot v k → ¬ S7 k) → Bytes w7 v b → f.b.length ≤ 300000 → D7.n ≤ 100000 →
      Dk.WF { D7 with fs := D7.fs.set i { f with b := f.b ++ b }, n := D7.n + 1 } → (∀ w' S', DAt w' d { D7 with fs := D7.fs.set i { f with b := f.b ++ b }, n := D7.n + 1 } S' → Evo S w S' w' → K (.int .i64 0) w') → J w7 := by
    intro w7 S7 D7 r7 i f c h7 hf hc x7 e7 hvS7 hv7 hfl hn7 hwf7 hk7
    refine hJ _ ?_
    have s8 := drew_step w7
    generalize w7.drew = w8 at s8 ⊢
    (replace h7 := Go.Proofs.VvS.DRaw.step h7 s8 (fun _ _ x => x); replace x7 := Vv.Box.step x7 s8 (fun x => x); replace hv7 := Vv.View.step hv7 s8 (fun _ _ x => x))
    (with_reducible refine ldB x7 (by (simp only [List.getElem?_toArray, List.getElem?_cons_succ, List.getElem?_cons_zero]; rfl)) ?_)
    (with_reducible refine ldB x7 (by (simp only [List.getElem?_toArray, List.getElem?_cons_succ, List.getElem?_cons_zero]; rfl)) ?_)
    obtain ⟨c', u, h8, h9, h10, h11⟩ := h7.fil.file i f hf
    rw [hc] at h8; cases h8
    refine ⟨trivial, ?_⟩
    (with_reducible refine fld0 ?_)
    (with_reducible refine ldB h10 (by (simp only [List.getElem?_toArray, List.getElem?_cons_succ, List.getElem?_cons_zero]; rfl)) ?_)
    refine app8 h11 (ASrc.of_view hv7) (by omega) fun u' w9 h12 t9 => ?_
    have x9 := x7.step t9.step (own_not_box h11 x7 (by decide))
    refine ⟨ldBs x9 rfl, trivial, ?_⟩
    (with_reducible refine fld0 ?_)
    have h13 := h10.step t9.step (own_not_box h11 h10 (by decide))
    refine stB h13 (by simp) h12.shape1 fun w10 h14 s10 => ?_
    have s810 : Step (fun k => k = c ∨ foot u k) w8 w10 := (t9.step.mono fun i hi => .inr hi).trans s10 fun i hi => .inl (.inl hi)
    have h15 : Own w10 u' T_uint8 1 (B8 (f.b ++ b)) := h12.step s10 fun k hk e => by subst e; exact own_not_box h12 h13 (by decide) hk
    have h16 := h7.turn (f' := { f with b := f.b ++ b }) hf hc h9 s810 h14 h15 t9.grow
    refine ⟨trivial, ?_⟩
    (with_reducible refine fld0 ?_)
    (with_reducible refine ldB h16.box (by (simp only [List.getElem?_toArray, List.getElem?_cons_succ, List.getElem?_cons_zero]; rfl)) ?_)
    refine b_addn (by omega) ?_
    refine ⟨trivial, ?_⟩
    (with_reducible refine fld0 ?_)
    refine stB h16.box (by simp) rfl fun w11 b11 s11 => ?_
    have h17 := h16.setBox s11 b11
    refine hk7 _ _ ⟨_, h17, hwf7⟩ ?_
    have hSu : ∀ k, foot u k → S7 k := h7.fil.Sr u (List.mem_of_getElem? h9)
    refine (e7.then_none s8).trans ⟨(s810.mono (S' := S7) fun k hk => hk.elim (fun e => by rw [e]; exact h7.fil.Sf c (List.mem_of_getElem? hc)) (hSu k)).trans s11 fun k hk => .inl (by rw [hk]; exact h7.Sd), fun k hk => ?_⟩
    rcases hk with hk | hk
    · exact .inl hk
    · exact (t9.grow k hk).imp_left (hSu k)
  intro J1 hJ1
  -- the second switch
  have hlen := View.shape hv6
  have J1t : (∀ w' S', DAt w' d E S' → Evo S w S' w' → K (.int .i64 23) w') → J1 (.bool true) w6 := fun hk' => hJ1 _ _ (Cond_t (hk' _ _ ⟨r, h6⟩ e06))
  intro J2 hJ2
  (with_reducible refine ldB x6 (by (simp only [List.getElem?_toArray, List.getElem?_cons_succ, List.getElem?_cons_zero]; rfl)) ?_)
  cases hq2 : nlook E.now s with
  | none =>
    rw [hq2] at hk hq hA
    simp only [Option.map_none, Option.getD_none] at hq
    subst hq
    refine b_ptr_nil ?_
    refine Gate_is rfl ⟨trivial, ?_⟩
    (with_reducible refine fld0 ?_)
    (with_reducible refine ldB h6.box (by (simp only [List.getElem?_toArray, List.getElem?_cons_succ, List.getElem?_cons_zero]; rfl)) ?_)
    refine mlen h6.now ?_
    rw [dirEnts_len]
    (with_reducible refine b_geq ?_)
    refine hJ2 _ _ (cnd (fun h64 => ?_) (fun h64 => ?_))
    · rw [decide_eq_true h64]
      refine J1t fun w' S' a1 a2 => ?_
      have q := hk w' S'
      rw [if_pos (.inl (by omega))] at q
      exact q a1 a2
    · intro J3 hJ3
      (with_reducible refine ldB x6 (by (simp only [List.getElem?_toArray, List.getElem?_cons_succ, List.getElem?_cons_zero]; rfl)) ?_)
      refine b_ptr_nil ?_
      refine Gate_is rfl ?_
      refine l_view hv6 ?_
      (with_reducible refine b_gtr ?_)
      refine hJ3 _ _ (cnd (fun hbig => ?_) (fun hbig => ?_))
      · rw [decide_eq_true hbig]
        refine J1t fun w' S' a1 a2 => ?_
        have q := hk w' S'
        rw [if_pos (.inr (by omega))] at q
        exact q a1 a2
      · rw [if_neg (by omega)] at hk hA
        (with_reducible refine ldB x6 (by (simp only [List.getElem?_toArray, List.getElem?_cons_succ, List.getElem?_cons_zero]; rfl)) ?_)
        refine b_ptr_nnil ?_
        refine Gate_not rfl (hJ1 _ _ (Cond_f ?_))
        (with_reducible refine ldB x6 (by (simp only [List.getElem?_toArray, List.getElem?_cons_succ, List.getElem?_cons_zero]; rfl)) ?_)
        refine b_ptr_nil ?_
        refine Cond_t ?_
        refine bld #[.slice none 0 0, .int .i64 0] (by kernel_rfl) ?_
        refine bxA fun w7 c7 s7 z7 => ?_
        (replace y6 := Vv.Box.step y6 s7 (fun x => x); replace hv6 := Vv.View.step hv6 s7 (fun _ _ x => x); replace h6 := Go.Proofs.VvS.DIs.step h6 s7 (fun _ _ x => x); replace x6 := Vv.Box.step x6 s7 (fun x => x))
        refine stB x6 (by simp) rfl fun w8 x8 s8 => ?_
        replace x8 : Box w8 w4.heap.size T_p_disk_file #[.pointer (some ⟨w6.heap.size, 0, none⟩)] := x8
        have hl6 : ∀ k, S k → k < w6.heap.size := fun k hs => (h6.lim k hs).2 |> fun h => by have := hlim4 k hs; omega
        have hxlt := x6.lt
        have h8 := h6.step s8 (fun k hk e => by have := hlim4 k hk; omega)
        have y8 := y6.step s8 (by have := y6.lt; omega)
        have hv8 := View.step hv6 s8 (fun k hk e => by have := hvl k hk; omega)
        have c8 := c7.step s8 (by omega)
        have hm := h8.toDRaw.more hwf c8 (fun hs => by have := hl6 _ hs; omega) (by omega)
        -- its footprint, with the two variables
        have hm2 := hm.mono (S2 := fun k => (S k ∨ k = w6.heap.size) ∨ k = w4.heap.size ∨ k = w.heap.size) (fun k hk => .inl hk) (by
          rintro k (hk | rfl | rfl)
          · exact hm.lim k hk
          · exact ⟨by omega, x8.lt⟩
          · exact ⟨by omega, y8.lt⟩)
        have hfb : r.fb.length = E.fs.length := h8.fil.fbl
        have hnew : (r.fb ++ [w6.heap.size])[E.fs.length]? = some w6.heap.size := by rw [← hfb]; simp
        (with_reducible refine cf ?_)
        refine change_ok (c := .make s E.fs.length) hm2 ⟨_, _, rfl, by rw [fptr_some hnew]; exact x8, y8, .inr (.inl rfl), .inr (.inr rfl)⟩ (by have := hwf.logn; simp only []; omega) fun w9 S9 lv' lvs' h9 e9 hS9 hc9 => ?_
        have s9 := e9.step
        have hvne : ∀ k, foot v k → ¬ ((S k ∨ k = w6.heap.size) ∨ k = w4.heap.size ∨ k = w.heap.size) := by
          intro k hk
          have := hvl k hk
          rintro ((hs | e) | e | e)
          · exact hvS k hk hs
          all_goals omega
        have e09 : Evo S w S9 w9 := by
          have e08 : Evo S w S w8 := (e06.then_none s7).then_new s8 fun i hi => .inr (by omega)
          refine ⟨e08.step.trans s9 fun k hk => ?_, fun k hk => ?_⟩
          · rcases hk with (hk | hk) | hk | hk
            · exact .inl hk
            all_goals exact .inr (by omega)
          · rcases e9.grow k hk with (((hk | hk) | hk | hk)) | hk
            · exact .inl hk
            · exact .inr (by omega)
            · exact .inr (by omega)
            · exact .inr (by omega)
            · have := e08.size; exact .inr (by omega)
        have hvS9 : ∀ k, foot v k → ¬ S9 k := fun k hk hs => by
          rcases e9.grow k hs with hk' | hk'
          · exact hvne k hk hk'
          · have := hvl k hk; have := s8.size; omega
        have hv9 := View.step hv8 s9 hvne
        have x9 : Box w9 w4.heap.size T_p_disk_file #[.pointer (some ⟨w6.heap.size, 0, none⟩)] := by
          obtain ⟨x', y', g1, g2, _⟩ := hc9
          simp only [Value.func.injEq, Array.mk.injEq, List.cons.injEq, Value.pointer.injEq, Option.some.injEq, Addr.mk.injEq] at g1
          rw [fptr_some hnew] at g2
          rw [g1.2.2.1.1]; exact g2
        refine fin w9 S9 _ _ E.fs.length ⟨[], 0⟩ w6.heap.size h9 (by simp) hnew x9 e09 hvS9 hv9 (by simp) (by simp only []; omega) ?_ fun w' S' a1 a2 => ?_
        · simpa [chd] using hA
        · exact hk w' S' (by simpa [chd] using a1) a2
  | some i =>
    rw [hq2] at hk hq hA
    simp only [] at hk hA
    have hi := look_lt hwf hq2
    obtain ⟨c, u, h7, h8, h9, h10⟩ := h6.fil.file i E.fs[i] (List.getElem?_eq_getElem hi)
    simp only [Option.map_some, Option.getD_some, fptr_some h7] at hq
    subst hq
    have hsz : E.size i = E.fs[i].b.length := by simp [Dk.size, List.getElem?_eq_getElem hi]
    rw [hsz] at hk hA
    rw [modify_set (List.getElem?_eq_getElem hi)] at hk hA
    have hsy := hwf.syn _ (List.getElem_mem hi)
    refine b_ptr_nil ?_
    refine Gate_not rfl (hJ2 _ _ (Cond_f ?_))
    intro J3 hJ3
    (with_reducible refine ldB x6 (by (simp only [List.getElem?_toArray, List.getElem?_cons_succ, List.getElem?_cons_zero]; rfl)) ?_)
    refine b_ptr_nil ?_
    refine Gate_not rfl (hJ3 _ _ (Cond_f ?_))
    (with_reducible refine ldB x6 (by (simp only [List.getElem?_toArray, List.getElem?_cons_succ, List.getElem?_cons_zero]; rfl)) ?_)
    refine b_ptr_nnil ?_
    refine Gate_is rfl ?_
    refine l_view hv6 ?_
    (with_reducible refine ldB x6 (by (simp only [List.getElem?_toArray, List.getElem?_cons_succ, List.getElem?_cons_zero]; rfl)) ?_)
    refine ⟨trivial, ?_⟩
    (with_reducible refine fld0 ?_)
    (with_reducible refine ldB h9 (by (simp only [List.getElem?_toArray, List.getElem?_cons_succ, List.getElem?_cons_zero]; rfl)) ?_)
    refine l_view h10.bytes ?_
    (with_reducible refine b_sub (by (first | (unfold I64; omega) | omega)) ?_)
    (with_reducible refine b_gtr ?_)
    refine hJ1 _ _ (cnd (fun hbig => ?_) (fun hbig => ?_))
    · rw [if_pos (by omega)] at hk
      exact hk _ _ ⟨r, h6⟩ e06
    · rw [if_neg (by omega)] at hk hA
      (with_reducible refine ldB x6 (by (simp only [List.getElem?_toArray, List.getElem?_cons_succ, List.getElem?_cons_zero]; rfl)) ?_)
      refine b_ptr_nil ?_
      refine Cond_f ?_
      exact fin w6 S E r i E.fs[i] c h6.toDRaw (List.getElem?_eq_getElem hi) h7 x6 e06 hvS hv6 (by omega) (by omega) hA hk
end Go.Proofs.VvS

namespace Go.Proofs.VvS
open Go Go.Proofs Vv Go.RowKit

/-- what the file of a name is -/
theorem DIs.at {w : World} {d : Nat} {D : Dk} {S : Nat → Prop} {r : DRep} (h : DIs w d D S r) {s : Name} {i : Nat} (hl : nlook D.now s = some i) :
    ∃ (c : Nat) (u : Value) (f : Fl), D.fs[i]? = some f ∧ r.fb[i]? = some c ∧ r.rv[i]? = some u ∧ Box w c T_disk_file #[u, .int .i64 f.syn] ∧ Own w u T_uint8 1 (B8 f.b) ∧ fptr r.fb i = .pointer (some ⟨c, 0, none⟩) ∧ f.syn ≤ f.b.length ∧ f.b.length ≤ 262144 ∧ D.size i = f.b.length := by
  have hi := look_lt h.wf hl
  obtain ⟨c, u, h7, h8, h9, h10⟩ := h.fil.file i D.fs[i] (List.getElem?_eq_getElem hi)
  have hsy := h.wf.syn _ (List.getElem_mem hi)
  exact ⟨c, u, D.fs[i], List.getElem?_eq_getElem hi, h7, h8, h9, h10, fptr_some h7, hsy.1, hsy.2, by simp [Dk.size, List.getElem?_eq_getElem hi]⟩

/-- what Read answers -/
def readVal (e : Nat) (v : Value) : Value := .tuple #[v, .int .i64 e]
theorem Read_ok {w : World} {d : Nat} {D : Dk} {S : Nat → Prop} {s : Name} {K : Value → World → Prop} (h : DAt w d D S)
    (hk : ∀ v w', Own w' v T_uint8 1 (B8 (D.read s).1) → Made w w' v → K (.tuple #[v, .int .i64 (D.read s).2]) w') : Runs Tryz.prog F_disk_Disk_Read #[.pointer (some ⟨d, 0, none⟩), Str s] w K := by
  obtain ⟨r, h⟩ := h
  refine c_disk_Disk_Read ?_
  unfold H_disk_Disk_Read
  unfold Dk.read at hk
  refine b_ptr_nil ?_
  refine Cond_f ⟨trivial, ?_⟩
  (with_reducible refine fld0 ?_)
  (with_reducible refine ldB h.box (by (simp only [List.getElem?_toArray, List.getElem?_cons_succ, List.getElem?_cons_zero]; rfl)) ?_)
  cases ho : D.off with
  | true =>
    rw [ho] at hk
    exact Cond_t (hk _ _ (Own.nil _ _ _) (Made.nil _))
  | false =>
    rw [ho] at hk
    refine Cond_f ?_
    (with_reducible refine cf ?_)
    refine IsName_ok fun w1 s1 => ?_
    (replace h := Go.Proofs.VvS.DIs.step h s1 (fun _ _ x => x))
    refine unot ?_
    cases hnm : isName s with
    | false =>
      rw [hnm] at hk
      exact Cond_t (hk _ _ (Own.nil _ _ _) ⟨s1, fun k hk => by simp [foot, Value.ownBlock] at hk⟩)
    | true =>
      rw [hnm] at hk
      simp only [Bool.false_eq_true, if_false, Bool.not_true] at hk
      refine Cond_f ⟨trivial, ?_⟩
      (with_reducible refine fld0 ?_)
      (with_reducible refine ldB h.box (by (simp only [List.getElem?_toArray, List.getElem?_cons_succ, List.getElem?_cons_zero]; rfl)) ?_)
      refine mlook h.now ?_
      rw [look_dirEnts]
      cases hq : nlook D.now s with
      | none =>
        rw [hq] at hk
        refine b_ptr_nil ?_
        exact Cond_t (hk _ _ (Own.nil _ _ _) ⟨s1, fun k hk => by simp [foot, Value.ownBlock] at hk⟩)
      | some i =>
        obtain ⟨c, u, f, h1, h2, h3, h4, h5, h6, h7, h8, h9⟩ := h.at hq
        rw [hq] at hk
        simp only [h1, Option.map_some, Option.getD_some] at hk
        simp only [Option.map_some, Option.getD_some, h6]
        refine b_ptr_nil ?_
        refine Cond_f ⟨trivial, ?_⟩
        (with_reducible refine fld0 ?_)
        (with_reducible refine ldB h.box (by (simp only [List.getElem?_toArray, List.getElem?_cons_succ, List.getElem?_cons_zero]; rfl)) ?_)
        refine mlook h.now ?_
        rw [look_dirEnts, hq]
        simp only [Option.map_some, Option.getD_some, h6]
        refine ⟨trivial, ?_⟩
        (with_reducible refine fld0 ?_)
        (with_reducible refine ldB h4 (by (simp only [List.getElem?_toArray, List.getElem?_cons_succ, List.getElem?_cons_zero]; rfl)) ?_)
        (with_reducible refine cf ?_)
        refine Clone_ok h5.bytes (by omega) fun v w2 h10 h11 => ?_
        exact hk _ _ h10 (Made.of_step s1 h11)

theorem Sync_ok {w : World} {d : Nat} {D : Dk} {S : Nat → Prop} {s : Name} {K : Value → World → Prop} (h : DAt w d D S)
    (hk : ∀ w' S', DAt w' d (D.sync s).1 S' → Evo S w S' w' → K (.int .i64 (D.sync s).2) w') : Runs Tryz.prog F_disk_Disk_Sync #[.pointer (some ⟨d, 0, none⟩), Str s] w K := by
  refine c_disk_Disk_Sync ?_
  unfold H_disk_Disk_Sync
  have hSl := h.lt
  have hA := sync_wf h.wf s
  refine bs1N rfl fun w2 n2 s2 z2 => ?_
  (replace h := Go.Proofs.VvS.DAt.step h s2 (fun _ _ x => x))
  (with_reducible refine cf ?_)
  refine refused_ok (l := [s]) h n2 (fun k hk hs => by simp [foot, Value.ownBlock] at hk; have := hSl k hs; omega) (by simp) (by simp) fun w3 h3 s3 => ?_
  have e03 : Evo S w S w3 := (Evo.of_none s2).trans ⟨s3, fun _ hs => .inl hs⟩
  have hwf := h3.wf
  clear h
  unfold Dk.sync at hk hA
  generalize D.pow = E at h3 hk hwf hA
  simp only [] at hk hA
  refine b_eql ?_
  by_cases hw : E.why true [s] ≠ 0
  · rw [if_pos hw] at hk
    refine cnd_f (by omega) ?_
    exact hk _ _ h3 e03
  have hw : E.why true [s] = 0 := Decidable.not_not.1 hw
  rw [if_neg (by simpa using hw)] at hk hA
  refine cnd_t (by omega) ?_
  obtain ⟨r, h3⟩ := h3
  have hn := hwf.nle
  obtain ⟨i, hq⟩ := Option.isSome_iff_exists.1 ((why_n hw).2.2.2 rfl)
  simp only [List.headD_cons] at hq
  obtain ⟨c, u, f, h1, h2, h4, h5, h6, h7, h8, h9, h10⟩ := h3.at hq
  rw [hq] at hk hA
  simp only [Option.getD_some, modify_set h1] at hk hA
  refine ⟨trivial, ?_⟩
  (with_reducible refine fld0 ?_)
  (with_reducible refine ldB h3.box (by (simp only [List.getElem?_toArray, List.getElem?_cons_succ, List.getElem?_cons_zero]; rfl)) ?_)
  refine mlook h3.now ?_
  rw [look_dirEnts, hq]
  simp only [Option.map_some, Option.getD_some, h7]
  refine ⟨trivial, ?_⟩
  (with_reducible refine fld0 ?_)
  (with_reducible refine ldB h5 (by (simp only [List.getElem?_toArray, List.getElem?_cons_succ, List.getElem?_cons_zero]; rfl)) ?_)
  refine l_view h6.bytes ?_
  refine ⟨trivial, ?_⟩
  (with_reducible refine fld0 ?_)
  refine stB h5 (by simp) rfl fun w4 b4 s4 => ?_
  have h11 := h3.toDRaw.turn (f' := { f with syn := f.b.length }) (v' := u) h1 h2 h4 (s4.mono fun i e => .inl e) b4 (h6.step s4 fun k hk e => by subst e; exact own_not_box h6 h5 (by decide) hk) (fun k hk => .inl hk)
  have hSr := h3.fil.Sr u (List.mem_of_getElem? h4)
  have hSf := h3.fil.Sf c (List.mem_of_getElem? h2)
  refine ⟨trivial, ?_⟩
  (with_reducible refine fld0 ?_)
  (with_reducible refine ldB h11.box (by (simp only [List.getElem?_toArray, List.getElem?_cons_succ, List.getElem?_cons_zero]; rfl)) ?_)
  refine b_addn (by omega) ?_
  refine ⟨trivial, ?_⟩
  (with_reducible refine fld0 ?_)
  refine stB h11.box (by simp) rfl fun w5 b5 s5 => ?_
  have e0 : ((E.why true [s] : Nat) : Int) = 0 := by omega
  rw [e0]
  refine hk _ _ ⟨_, h11.setBox s5 b5, hA⟩ (((e03.then_in s4 fun i e => by rw [e]; exact hSf).then_in s5 fun i e => by rw [e]; exact h3.Sd).shrink fun k hk => .inl (hk.elim id (hSr k)))

set_option maxRecDepth 4000 in
theorem Delete_ok {w : World} {d : Nat} {D : Dk} {S : Nat → Prop} {s : Name} {K : Value → World → Prop} (h : DAt w d D S)
    (hk : ∀ w' S', DAt w' d (D.delete s).1 S' → Evo S w S' w' → K (.int .i64 (D.delete s).2) w') : Runs Tryz.prog F_disk_Disk_Delete #[.pointer (some ⟨d, 0, none⟩), Str s] w K := by
  refine c_disk_Disk_Delete ?_
  unfold H_disk_Disk_Delete
  have hSl := h.lt
  have hlim := h.lim d h.Sd
  have hdl := hSl d h.Sd
  have hA := delete_wf h.wf s
  refine bx1 rfl fun w1 y1 s1 z1 => ?_
  (replace h := Go.Proofs.VvS.DAt.step h s1 (fun _ _ x => x))
  (with_reducible refine ldB y1 (by (simp only [List.getElem?_toArray, List.getElem?_cons_succ, List.getElem?_cons_zero]; rfl)) ?_)
  refine bs1N rfl fun w2 n2 s2 z2 => ?_
  (replace y1 := Vv.Box.step y1 s2 (fun x => x); replace h := Go.Proofs.VvS.DAt.step h s2 (fun _ _ x => x))
  (with_reducible refine cf ?_)
  refine refused_ok (l := [s]) h n2 (fun k hk hs => by simp [foot, Value.ownBlock] at hk; have := hSl k hs; omega) (by simp) (by simp) fun w3 h3 s3 => ?_
  have y3 := y1.step s3 (fun hs => by have := hSl _ hs; omega)
  have e03 : Evo S w S w3 := ((Evo.of_none s1).then_none s2).trans ⟨s3, fun _ hs => .inl hs⟩
  have hwf := h3.wf
  clear h
  unfold Dk.delete at hk hA
  generalize D.pow = E at h3 hk hwf hA
  simp only [] at hk hA
  refine b_eql ?_
  by_cases hw : E.why true [s] ≠ 0
  · rw [if_pos hw] at hk
    refine cnd_f (by omega) ?_
    exact hk _ _ h3 e03
  have hw : E.why true [s] = 0 := Decidable.not_not.1 hw
  rw [if_neg (by simpa using hw)] at hk hA
  refine cnd_t (by omega) ?_
  obtain ⟨r, h3⟩ := h3
  have hn := hwf.nle
  have hm := h3.toDRaw.mono (S2 := fun k => S k ∨ k = w.heap.size) (fun k hk => .inl hk) (by
    rintro k (hk | rfl)
    · exact h3.lim k hk
    · exact ⟨by omega, y3.lt⟩)
  (with_reducible refine cf ?_)
  refine change_ok (c := .del s) hm ⟨_, rfl, y3, .inr rfl⟩ (by have := hwf.logn; omega) fun w4 S4 lv' lvs' h4 e4 _ _ => ?_
  refine ⟨trivial, ?_⟩
  (with_reducible refine fld0 ?_)
  (with_reducible refine ldB h4.box (by (simp only [List.getElem?_toArray, List.getElem?_cons_succ, List.getElem?_cons_zero]; rfl)) ?_)
  refine b_addn (by omega) ?_
  refine ⟨trivial, ?_⟩
  (with_reducible refine fld0 ?_)
  refine stB h4.box (by simp) rfl fun w5 b5 s5 => ?_
  have e0 : ((E.why true [s] : Nat) : Int) = 0 := by omega
  rw [e0]
  have e3 : Evo S w (fun k => S k ∨ k = w.heap.size) w3 := e03.shrink fun k hk => hk.elim .inl fun e => .inr (by omega)
  exact hk _ _ ⟨_, h4.setBox s5 b5, hA⟩ ((e3.trans e4).then_in s5 fun i e => by rw [e]; exact h4.Sd)

theorem SyncDir_ok {w : World} {d : Nat} {D : Dk} {S : Nat → Prop} {K : Value → World → Prop} (h : DAt w d D S)
    (hk : ∀ w' S', DAt w' d D.syncDir.1 S' → Evo S w S' w' → K (.int .i64 D.syncDir.2) w') : Runs Tryz.prog F_disk_Disk_SyncDir #[.pointer (some ⟨d, 0, none⟩)] w K := by
  refine c_disk_Disk_SyncDir ?_
  unfold H_disk_Disk_SyncDir
  have hSl := h.lt
  have hlim := h.lim d h.Sd
  have hdl := hSl d h.Sd
  have hA := syncDir_wf h.wf
  (with_reducible refine cf ?_)
  have hnil : Strs w (.slice none 0 0) [] := View.nil _ _
  refine refused_ok (l := []) h hnil (fun k hk => by simp [foot, Value.ownBlock] at hk) (by simp) (by simp) fun w3 h3 s3 => ?_
  have e03 : Evo S w S w3 := ⟨s3, fun _ hs => .inl hs⟩
  have hwf := h3.wf
  clear h
  unfold Dk.syncDir at hk hA
  generalize D.pow = E at h3 hk hwf hA
  simp only [] at hk hA
  refine b_eql ?_
  by_cases hw : E.why false [] ≠ 0
  · rw [if_pos hw] at hk
    refine cnd_f (by omega) ?_
    exact hk _ _ h3 e03
  have hw : E.why false [] = 0 := Decidable.not_not.1 hw
  rw [if_neg (by simpa using hw)] at hk hA
  refine cnd_t (by omega) ?_
  obtain ⟨r, h3⟩ := h3
  have hn := hwf.nle
  refine ⟨trivial, ?_⟩
  (with_reducible refine fld0 ?_)
  (with_reducible refine ldB h3.box (by (simp only [List.getElem?_toArray, List.getElem?_cons_succ, List.getElem?_cons_zero]; rfl)) ?_)
  (with_reducible refine cf ?_)
  refine Clone_map_ok h3.now fun w4 m4 s4 z4 => ?_
  have h4 := h3.step s4 fun _ _ x => x
  have hz := e03.size
  have hSl3 : ∀ k, S k → k < w3.heap.size := fun k hk => (h3.lim k hk).2
  refine ⟨trivial, ?_⟩
  (with_reducible refine fld0 ?_)
  refine stB h4.box (by simp) rfl fun w5 b5 s5 => ?_
  replace b5 : Box w5 d T_disk_Disk #[.map (some r.nb), .map (some w3.heap.size), r.lv, .int .i64 E.n, .int .i64 E.cut, .bool E.off] := b5
  refine ⟨trivial, ?_⟩
  (with_reducible refine fld0 ?_)
  refine stB b5 (by simp) rfl fun w6 b6 s6 => ?_
  replace b6 : Box w6 d T_disk_Disk #[.map (some r.nb), .map (some w3.heap.size), .slice none 0 0, .int .i64 E.n, .int .i64 E.cut, .bool E.off] := b6
  refine ⟨trivial, ?_⟩
  (with_reducible refine fld0 ?_)
  (with_reducible refine ldB b6 (by (simp only [List.getElem?_toArray, List.getElem?_cons_succ, List.getElem?_cons_zero]; rfl)) ?_)
  refine b_addn (by omega) ?_
  refine ⟨trivial, ?_⟩
  (with_reducible refine fld0 ?_)
  refine stB b6 (by simp) rfl fun w7 b7 s7 => ?_
  have s47 : Step (fun i => i = d) w4 w7 := stepMany (stepMany s5 s6) s7
  have td := tag_box h4.box
  have e0 : ((E.why false [] : Nat) : Int) = 0 := by omega
  rw [e0]
  have m7 := m4.step s47 (fun e => m4.ne_box h4.box e)
  refine hk w7 (fun k => S k ∨ k = w3.heap.size) ⟨{ r with ob := w3.heap.size, lv := .slice none 0 0, lvs := [] }, ⟨b7, h4.now.step s47 (h4.now.ne_box h4.box), m7, fun e => ?_, ⟨Own.nil _ _ _, rfl, fun j c hj => by simp at hj, fun k hk => by simp [foot, Value.ownBlock] at hk⟩, (h4.fil.step s47 ?_).mono fun k hk => .inl hk, .inl h4.Sd, .inl h4.Sn, .inr rfl, ?_⟩, hA⟩ ?_
  · have := hSl3 r.nb h4.Sn
    simp only [] at e
    omega
  · rintro b _ rfl
    rw [td]; decide
  · rintro k (hk | rfl)
    · exact ⟨(h3.lim k hk).1, by have := hSl3 k hk; have := s47.size; omega⟩
    · exact ⟨by omega, m7.lt⟩
  · exact ((e03.then_none s4).then_in s47 fun i e => by rw [e]; exact h4.Sd).shrink fun k hk => hk.imp id fun e => by omega

theorem Poke_ok {w : World} {d : Nat} {D : Dk} {S : Nat → Prop} {s : Name} {a : Int} {x : UInt8} {K : Value → World → Prop} (h : DAt w d D S)
    (hk : ∀ w' S', DAt w' d (D.poke s a x).1 S' → Evo S w S' w' → K (.int .i64 (D.poke s a x).2) w') : Runs Tryz.prog F_disk_Disk_Poke #[.pointer (some ⟨d, 0, none⟩), Str s, .int .i64 a, .int .u8 x.toNat] w K := by
  have hA := poke_wf h.wf s a x
  obtain ⟨r, h⟩ := h
  refine c_disk_Disk_Poke ?_
  unfold H_disk_Disk_Poke
  unfold Dk.poke at hk hA
  refine b_ptr_nil ?_
  refine Cond_f ?_
  (with_reducible refine cf ?_)
  refine IsName_ok fun w1 s1 => ?_
  (replace h := Go.Proofs.VvS.DIs.step h s1 (fun _ _ x => x))
  have e01 : Evo S w S w1 := Evo.of_none s1
  refine unot ?_
  cases hnm : isName s with
  | false =>
    rw [hnm] at hk
    exact Cond_t (hk _ _ ⟨r, h⟩ e01)
  | true =>
    rw [hnm] at hk hA
    simp only [Bool.false_eq_true, if_false, Bool.not_true] at hk hA
    refine Cond_f ⟨trivial, ?_⟩
    (with_reducible refine fld0 ?_)
    (with_reducible refine ldB h.box (by (simp only [List.getElem?_toArray, List.getElem?_cons_succ, List.getElem?_cons_zero]; rfl)) ?_)
    refine mlook h.now ?_
    rw [look_dirEnts]
    cases hq : nlook D.now s with
    | none =>
      rw [hq] at hk
      refine b_ptr_nil ?_
      exact Cond_t (hk _ _ ⟨r, h⟩ e01)
    | some i =>
      obtain ⟨c, u, f, h1, h2, h3, h4, h5, h6, h7, h8, h9⟩ := h.at hq
      rw [hq] at hk hA
      simp only [h9, modify_set h1] at hk hA
      simp only [Option.map_some, Option.getD_some, h6]
      refine b_ptr_nil ?_
      refine Cond_f ?_
      intro J hJ
      have Jt : (a < 0 ∨ (f.b.length : Int) ≤ a) → J (.bool true) w1 := fun hc => hJ _ _ (Cond_t (by rw [if_pos hc] at hk; exact hk _ _ ⟨r, h⟩ e01))
      (with_reducible refine b_lss ?_)
      refine gt_f (fun h0 => ?_) (fun h0 => Jt (.inl h0))
      refine ⟨trivial, ?_⟩
      (with_reducible refine fld0 ?_)
      (with_reducible refine ldB h.box (by (simp only [List.getElem?_toArray, List.getElem?_cons_succ, List.getElem?_cons_zero]; rfl)) ?_)
      refine mlook h.now ?_
      rw [look_dirEnts, hq]
      simp only [Option.map_some, Option.getD_some, h6]
      refine ⟨trivial, ?_⟩
      (with_reducible refine fld0 ?_)
      (with_reducible refine ldB h4 (by (simp only [List.getElem?_toArray, List.getElem?_cons_succ, List.getElem?_cons_zero]; rfl)) ?_)
      refine l_view h5.bytes ?_
      (with_reducible refine b_geq ?_)
      by_cases hge : (f.b.length : Int) ≤ a
      · rw [decide_eq_true hge]
        exact Jt (.inr hge)
      · rw [decide_eq_false hge]
        rw [if_neg (by omega)] at hk hA
        refine hJ _ _ (Cond_f ⟨trivial, ?_⟩)
        (with_reducible refine fld0 ?_)
        (with_reducible refine ldB h.box (by (simp only [List.getElem?_toArray, List.getElem?_cons_succ, List.getElem?_cons_zero]; rfl)) ?_)
        refine mlook h.now ?_
        rw [look_dirEnts, hq]
        simp only [Option.map_some, Option.getD_some, h6]
        refine ⟨trivial, ?_⟩
        (with_reducible refine fld0 ?_)
        (with_reducible refine ldB h4 (by (simp only [List.getElem?_toArray, List.getElem?_cons_succ, List.getElem?_cons_zero]; rfl)) ?_)
        refine h5.set8 a.toNat (by omega) (by omega) fun p hp hset => ?_
        obtain ⟨⟨v0, g1⟩, g2, g3⟩ := hset w1 x h5
        refine st g1 g2 rfl ?_
        have hs : Step (foot u) w1 (w1.setCell p (.int .u8 x.toNat)) := (Step.refl (foot u) w1).setCell (.inl hp) _
        have h10 := h.toDRaw.turn (f' := { f with b := f.b.set a.toNat x }) (v' := u) h1 h2 h3 (hs.mono fun i e => .inr e) (h4.step hs (own_not_box h5 h4 (by decide))) g3 (fun k hk => .inl hk)
        have hSr := h.fil.Sr u (List.mem_of_getElem? h3)
        exact hk _ _ ⟨_, h10, hA⟩ ((e01.then_in hs hSr).shrink fun k hk => .inl (hk.elim id (hSr k)))
end Go.Proofs.VvS

namespace Go.Proofs.VvS
open Go Go.Proofs Vv Go.RowKit

/-! ### Names -/
def rdNil (_ : Value) : Option (DataW Unit × List MemPlace) := some (.nil, [])
theorem MBox.owns {w : World} {b : Nat} {m : Ents} (h : MBox w b m) (hk : ∀ p ∈ m, p.1.length ≤ 1000) (hl : m.length ≤ 1000) :
    ∃ D : DataW Unit, w.ownsMap Tryz.prog T_string rdNil b m.length D ∧ (strKeys D).Perm (m.map (·.1)) ∧ Maps.size D = m.length := by
  obtain ⟨es, clk, h1, ⟨l, h2, h3⟩, h4, h5, h6⟩ := h
  have hmem : ∀ x ∈ es.toList, ∃ p ∈ l, x.key = Str p.1 := by
    intro x hx
    have : (x.key, x.val) ∈ strs l := by rw [← h2]; exact List.mem_map.2 ⟨x, hx, rfl⟩
    obtain ⟨p, hp, e⟩ := List.mem_map.1 this
    exact ⟨p, hp, (congrArg Prod.fst e).symm⟩
  have hlen : es.size = m.length := by
    have := congrArg List.length h2
    simp [strs] at this
    rw [this, h3.length_eq]
  have hkey : ∀ p ∈ l, keyOf Tryz.prog T_string (Str p.1) = some (.string p.1) := by
    intro p hp
    have := hk p (h3.mem_iff.1 hp)
    have e := WideMaps.keyOf_string_mk (P := Tryz.prog) (k := T_string) (s := ⟨p.1.toArray⟩) Tryz.underlying9 (by unfold maxLen; simp [ByteArray.size]; omega)
    simpa using e
  have hrd : ∀ x ∈ es.toList, ∃ p ∈ l, x.key = Str p.1 ∧ WideElems.rd Tryz.prog T_string rdNil x = some (.string p.1, .nil) := by
    intro x hx
    obtain ⟨p, hp, e⟩ := hmem x hx
    exact ⟨p, hp, e, by unfold WideElems.rd; rw [e, hkey p hp]; rfl⟩
  refine ⟨.map ((es.toList.map (WideElems.rg Tryz.prog T_string rdNil)).foldr DataW.insert []), ⟨es, clk, h1, ⟨by unfold maxLen; omega, ⟨h6, h5, ?_⟩, fun x hx => ?_⟩, by omega, rfl⟩, ?_, ?_⟩
  · have e : es.toList.map (·.key) = l.map fun p => Str p.1 := by
      have := congrArg (List.map Prod.fst) h2
      simpa [strs, List.map_map, Function.comp_def] using this
    rw [e]
    have hu := (h4.perm h3.symm)
    unfold Uniq at hu
    rw [List.Nodup, List.pairwise_map] at hu ⊢
    refine List.Pairwise.imp (fun hne e => hne ?_) hu
    simpa using e
  · obtain ⟨p, _, _, e⟩ := hrd x hx
    exact ⟨_, e⟩
  · refine (List.Perm.map _ (WideShapes.sorted_perm _)).trans ?_
    rw [List.map_map]
    have e : es.toList.map ((fun p => strOf p.1) ∘ WideElems.rg Tryz.prog T_string rdNil) = l.map (·.1) := by
      have e1 : es.toList.map ((fun p => strOf p.1) ∘ WideElems.rg Tryz.prog T_string rdNil) = (es.toList.map fun x => (x.key, x.val)).map fun q => match q.1 with | .string s => s.data.toList | _ => [] := by
        rw [List.map_map]
        refine List.map_congr_left fun x hx => ?_
        obtain ⟨p, _, e1, e2⟩ := hrd x hx
        simp only [Function.comp, WideElems.rg, e2, e1, Option.getD_some, strOf]
      rw [e1, h2, strs, List.map_map]
      refine List.map_congr_left fun p _ => ?_
      simp
    rw [e]
    exact h3.map _
  · simp only [Maps.size]
    rw [length_sorted, List.length_map, Array.length_toList, hlen]

theorem names_sorted {l : Dir} (h : Rising l) {ss : List Name} (hp : ss.Perm (l.map (·.1))) : ss.mergeSort (fun x y => decide (x ≤ y)) = l.map (·.1) := by
  have e := mergeSort_of_perm hp
  unfold leB at e
  rw [e]
  refine List.mergeSort_of_pairwise ?_
  rw [List.pairwise_map]
  refine List.Pairwise.imp (fun {p q} hlt => ?_) h
  exact decide_eq_true (List.le_of_lt (nlt_iff.1 hlt))

set_option maxRecDepth 4000 in
theorem Names_ok {w : World} {d : Nat} {D : Dk} {S : Nat → Prop} {K : Value → World → Prop} (h : DAt w d D S)
    (hk : ∀ v w', Own w' v T_string 1 ((D.now.map (·.1)).map Str) → Made w w' v → K v w') : Runs Tryz.prog F_disk_Disk_Names #[.pointer (some ⟨d, 0, none⟩)] w K := by
  obtain ⟨r, h⟩ := h
  refine c_disk_Disk_Names ?_
  unfold H_disk_Disk_Names
  refine b_ptr_nil ?_
  refine Cond_f ⟨trivial, ?_⟩
  (with_reducible refine fld0 ?_)
  (with_reducible refine ldB h.box (by (simp only [List.getElem?_toArray, List.getElem?_cons_succ, List.getElem?_cons_zero]; rfl)) ?_)
  have hok := h.wf.nowOk
  have hln := hok.len
  obtain ⟨D0, g1, g2, g3⟩ := MBox.owns h.now (by
    intro p hp
    obtain ⟨q, hq, rfl⟩ := List.mem_map.1 hp
    have := (hok.mem q hq).2
    unfold isName at this
    simp at this
    have := this.1.2
    simp only []; omega) (by rw [dirEnts_len]; omega)
  have hl2 := dirEnts_len r.fb D.now
  (with_reducible refine cf ?_)
  refine c_maps_Keys_disk_directory_string_disk_file ?_
  unfold H_maps_Keys_disk_directory_string_disk_file
  refine bx ?_
  (with_reducible refine cf ?_)
  have hc := callsIn_wide.1 (Tryz.slices_Sorted_keys_43_44 r.nb _ D0 rdNil w g1 (by unfold maxLen; omega) (by omega))
  refine hc.mono fun e w' hh => ?_
  obtain ⟨v, ss, rfl, h1, h2, h3, h4⟩ := hh
  refine ⟨v, rfl, ?_⟩
  have hss : ss.mergeSort (fun x y => decide (x ≤ y)) = D.now.map (·.1) := by
    refine names_sorted hok.ris (h1.trans (g2.trans ?_))
    rw [dirEnts, List.map_map]
    exact List.Perm.refl _
  rw [hss] at h2
  have hs1 : Step None' w (w.alloc (.cells #[.map (some r.nb)] 73)) := (Step.refl _ _).alloc _
  have hs2 : Step None' (w.alloc (.cells #[.map (some r.nb)] 73)) w' := ⟨h4.os, h4.tape, h4.output, h4.size, fun k hk _ => h4.block k hk⟩
  obtain ⟨h5, h6⟩ := h2
  have e : (D.now.map (·.1)).map encStr = (D.now.map (·.1)).map Str := rfl
  rw [e] at h6 h5
  refine hk v w' ?_ ⟨hs1.then_none hs2, fun k hk => ?_⟩
  · rcases h6 with ⟨rfl, h7⟩ | ⟨g, cap, cur, rfl, a1, a2, a3, a4, a5, a6⟩
    · left
      rw [h7, Nat.zero_mul] at h5
      exact ⟨rfl, List.eq_nil_of_length_eq_zero h5⟩
    · right
      exact ⟨g, _, cap, cur, rfl, a2, a3, a4, a5, a6⟩
  · rcases h6 with ⟨rfl, h7⟩ | ⟨g, cap, cur, rfl, a1, a2, a3, a4, a5, a6⟩
    · simp [foot, Value.ownBlock] at hk
    · simp [foot, Value.ownBlock] at hk
      simp at a1
      omega
end Go.Proofs.VvS

namespace Go.Proofs.VvS
open Go Go.Proofs Vv Go.RowKit

theorem perm_lift {α β : Type} (f : α → β) : ∀ (l : List β) (T : List α), (T.map f).Perm l → ∃ T', T.Perm T' ∧ T'.map f = l := by
  intro l
  induction l with
  | nil =>
    intro T h
    have := h.eq_nil
    simp at this
    subst this
    exact ⟨[], List.Perm.refl _, rfl⟩
  | cons x l ih =>
    intro T h
    have hx : x ∈ T.map f := h.mem_iff.2 (by simp)
    obtain ⟨t, ht, rfl⟩ := List.mem_map.1 hx
    obtain ⟨A, B, rfl⟩ := List.append_of_mem ht
    have hp : (A ++ t :: B).Perm (t :: (A ++ B)) := List.perm_middle
    have h2 : ((A ++ B).map f).Perm l := ((hp.map f).symm.trans h).cons_inv
    obtain ⟨T', h3, h4⟩ := ih _ h2
    exact ⟨t :: T', hp.trans (h3.cons t), by simp [h4]⟩

theorem torn_get {b : List UInt8} {i : Nat} (h : i < b.length) : (torn b i)[b.length - 1 - i]? = b[b.length - 1 - i]? := by
  unfold torn
  rw [List.getElem?_append_left (by simp; omega)]
  rw [List.getElem?_take]
  rw [if_pos (by omega)]
theorem torn_succ {b : List UInt8} {i : Nat} (h : i < b.length) : (torn b i).set (b.length - 1 - i) (b[b.length - 1 - i]'(by omega) ^^^ 255) = torn b (i + 1) := by
  apply List.ext_getElem?
  intro j
  rw [List.getElem?_set]
  have hl := torn_len b i
  by_cases hj : b.length - 1 - i = j
  · subst hj
    simp only [if_true, hl]
    rw [if_pos (by omega)]
    unfold torn
    rw [List.getElem?_append_right (by simp; omega)]
    simp only [List.length_take]
    have e : b.length - 1 - i - min (b.length - (i + 1)) b.length = 0 := by omega
    rw [e, List.getElem?_map, List.getElem?_drop]
    have e2 : b.length - (i + 1) + 0 = b.length - 1 - i := by omega
    rw [e2, List.getElem?_eq_getElem (by omega)]
    rfl
  · rw [if_neg hj]
    unfold torn
    by_cases h1 : j < b.length - (i + 1)
    · rw [List.getElem?_append_left (by simp; omega), List.getElem?_append_left (by simp; omega), List.getElem?_take, List.getElem?_take, if_pos (by omega), if_pos (by omega)]
    · have h2 : b.length - i ≤ j := by omega
      rw [List.getElem?_append_right (by simp; omega), List.getElem?_append_right (by simp; omega)]
      simp only [List.length_take, List.getElem?_map, List.getElem?_drop]
      congr 2
      omega

/-- a file that a crash leaves: its name, which one it was, its block, its row -/
structure Left where
  nm : Name
  id : Nat
  blk : Nat
  row : Value
/-- what is known of those that are made -/
structure Coll (w : World) (D : Dk) (f : Fate) (base : Nat) (T : List Left) : Prop where
  one : ∀ t ∈ T, Box w t.blk T_disk_file #[t.row, .int .i64 ((crashFl ((D.fs[t.id]?).getD ⟨[], 0⟩) f.keep f.tear).length : Nat)] ∧ Own w t.row T_uint8 1 (B8 (crashFl ((D.fs[t.id]?).getD ⟨[], 0⟩) f.keep f.tear)) ∧ base ≤ t.blk ∧ ∀ k, foot t.row k → base ≤ k
  two : T.Pairwise fun t u => t.blk ≠ u.blk ∧ ∀ k, foot t.row k → ¬ foot u.row k
theorem Coll.step {w w' : World} {D : Dk} {f : Fate} {base : Nat} {T : List Left} {S : Nat → Prop} (h : Coll w D f base T) (hs : Step S w w') (hn : ∀ k, S k → tagOf w k ≠ T_disk_file + 1 ∧ tagOf w k ≠ T_uint8 + 1) : Coll w' D f base T := by
  refine ⟨fun t ht => ?_, h.two⟩
  obtain ⟨h1, h2, h3⟩ := h.one t ht
  exact ⟨h1.step hs fun x => (hn _ x).1 (tag_box h1), h2.step hs fun k hk x => (hn _ x).2 (tag_own h2 hk), h3⟩
theorem Coll.none {w w' : World} {D : Dk} {f : Fate} {base : Nat} {T : List Left} (h : Coll w D f base T) (hs : Step None' w w') : Coll w' D f base T := h.step hs fun _ x => x.elim
theorem Coll.perm {w : World} {D : Dk} {f : Fate} {base : Nat} {T T' : List Left} (h : Coll w D f base T) (hp : T.Perm T') : Coll w D f base T' :=
  ⟨fun t ht => h.one t (hp.mem_iff.2 ht), (hp.pairwise_iff (fun {x y} h => ⟨fun e => h.1 e.symm, fun k h1 h2 => h.2 k h2 h1⟩)).1 h.two⟩
theorem clip_int {x : Int} {m : Nat} : (if (m : Int) < (if x < 0 then 0 else x) then (m : Int) else (if x < 0 then 0 else x)) = (clip x m : Nat) := by
  unfold clip
  split <;> split <;> omega

theorem coll_files {w : World} {D : Dk} {f : Fate} {base : Nat} {T : List Left} {l : Dir} (h : Coll w D f base T) (hl : T.map (fun t => (t.nm, t.id)) = l) {S : Nat → Prop} (hS : ∀ k, base ≤ k → k < w.heap.size → S k) :
    FilesIs w S (l.map fun p => (⟨crashFl ((D.fs[p.2]?).getD ⟨[], 0⟩) f.keep f.tear, (crashFl ((D.fs[p.2]?).getD ⟨[], 0⟩) f.keep f.tear).length⟩ : Fl)) (T.map (·.blk)) (T.map (·.row)) := by
  subst hl
  refine ⟨by simp, by simp, ?_, fun i g hg => ?_, fun i j v u hij hv hu => ?_, fun b hb => ?_, fun v hv k hk => ?_⟩
  · rw [List.Nodup, List.pairwise_map]
    exact List.Pairwise.imp (fun h => h.1) h.two
  · simp only [List.map_map, List.getElem?_map] at hg
    obtain ⟨t, ht, rfl⟩ := Option.map_eq_some_iff.1 hg
    obtain ⟨h1, h2, _⟩ := h.one t (List.mem_of_getElem? ht)
    exact ⟨t.blk, t.row, by simp [ht], by simp [ht], h1, h2⟩
  · simp only [List.getElem?_map] at hv hu
    obtain ⟨t, ht, rfl⟩ := Option.map_eq_some_iff.1 hv
    obtain ⟨q, hq, rfl⟩ := Option.map_eq_some_iff.1 hu
    have hp := List.pairwise_iff_getElem.1 h.two
    obtain ⟨a1, a2⟩ := List.getElem?_eq_some_iff.1 ht
    obtain ⟨b1, b2⟩ := List.getElem?_eq_some_iff.1 hq
    rcases Nat.lt_or_gt_of_ne hij with hlt | hlt
    · have := (hp i j a1 b1 hlt).2
      rw [a2, b2] at this
      exact this
    · have := (hp j i b1 a1 hlt).2
      rw [a2, b2] at this
      exact fun k h1 h2 => this k h2 h1
  · obtain ⟨t, ht, rfl⟩ := List.mem_map.1 hb
    obtain ⟨h1, h2, h3, _⟩ := h.one t ht
    exact hS _ h3 h1.lt
  · obtain ⟨t, ht, rfl⟩ := List.mem_map.1 hv
    obtain ⟨h1, h2, h3, h4⟩ := h.one t ht
    exact hS k (h4 k hk) (h2.lt k hk)
theorem mapIdx_ents (T : List Left) : (T.map fun t => (t.nm, Value.pointer (some ⟨t.blk, 0, none⟩))) = dirEnts (T.map (·.blk)) ((T.map fun t => (t.nm, t.id)).mapIdx fun i p => (p.1, i)) := by
  unfold dirEnts
  apply List.ext_getElem?
  intro j
  simp only [List.getElem?_map, List.getElem?_mapIdx]
  cases hj : T[j]? with
  | none => rfl
  | some t =>
    simp only [Option.map_some]
    rw [fptr_some (b := t.blk) (by simp [hj])]

set_option maxHeartbeats 2000000 in
set_option maxRecDepth 4000 in
theorem Crash_ok {w : World} {d : Nat} {D : Dk} {S : Nat → Prop} {f : Fate} {K : Value → World → Prop} (h : DAt w d D S) (hg : glim ≤ w.heap.size)
    (hk : ∀ d' w' S', DAt w' d' (D.crash f) S' → Step None' w w' → (∀ k, S' k → w.heap.size ≤ k) → K (.pointer (some ⟨d', 0, none⟩)) w') :
    Runs Tryz.prog F_disk_Disk_Crash #[.pointer (some ⟨d, 0, none⟩), .agg #[.int .i64 f.keep, .int .i64 f.dirs, .int .i64 f.tear]] w K := by
  have hA := crash_wf h.wf f
  obtain ⟨r, h⟩ := h
  have hSl : ∀ k, S k → k < w.heap.size := fun k hk => (h.lim k hk).2
  have hlogn := h.wf.logn
  have hnle := h.wf.nle
  refine c_disk_Disk_Crash ?_
  unfold H_disk_Disk_Crash
  refine bxA fun w1 f1 s1 z1 => ?_
  (replace h := Go.Proofs.VvS.DIs.step h s1 (fun _ _ x => x))
  refine b_ptr_nil ?_
  refine Cond_f ⟨trivial, ?_⟩
  (with_reducible refine fld0 ?_)
  (with_reducible refine ldB h.box (by (simp only [List.getElem?_toArray, List.getElem?_cons_succ, List.getElem?_cons_zero]; rfl)) ?_)
  (with_reducible refine cf ?_)
  refine Clone_map_ok h.old fun w2 m2 s2 z2 => ?_
  (replace f1 := Vv.Box.step f1 s2 (fun x => x); replace h := Go.Proofs.VvS.DIs.step h s2 (fun _ _ x => x))
  refine ⟨trivial, ?_⟩
  (with_reducible refine fld0 ?_)
  have s3 := drew_step w2
  generalize hw3 : w2.drew = w3 at s3 ⊢
  have z3 : w3.heap.size = w2.heap.size := by rw [← hw3]; rfl
  (replace m2 := Vv.MBox.step m2 s3 (fun x => x); replace f1 := Vv.Box.step f1 s3 (fun x => x); replace h := Go.Proofs.VvS.DIs.step h s3 (fun _ _ x => x))
  (with_reducible refine ldB h.box (by (simp only [List.getElem?_toArray, List.getElem?_cons_succ, List.getElem?_cons_zero]; rfl)) ?_)
  (with_reducible refine fld0 ?_)
  (with_reducible refine ldB f1 (by (simp only [List.getElem?_toArray, List.getElem?_cons_succ, List.getElem?_cons_zero]; rfl)) ?_)
  refine b_max ?_
  refine ⟨trivial, ?_⟩
  (with_reducible refine fld0 ?_)
  (with_reducible refine ldB h.box (by (simp only [List.getElem?_toArray, List.getElem?_cons_succ, List.getElem?_cons_zero]; rfl)) ?_)
  obtain ⟨mlv, hlv⟩ := h.log.own.view
  have hml : mlv = D.log.length := by
    have := hlv.1
    have := h.log.len
    omega
  subst hml
  refine l_view hlv ?_
  refine b_min ?_
  rw [clip_int]
  have hclip := clip_le f.dirs D.log.length
  generalize hn : clip f.dirs D.log.length = n at hclip ⊢
  refine vslice hlv 0 n low0 (highI rfl) (by omega) hclip fun sv hsv hsf => ?_
  refine l_view (hsv _ hlv) ?_
  simp only [Nat.zero_mul, List.drop_zero, Nat.mul_one, Nat.sub_zero] at hsv ⊢
  have s03 : Step None' w w3 := (s1.then_none s2).then_none s3
  have hlm : ¬ S w1.heap.size := fun x => by have := hSl _ x; omega
  have hsvS : ∀ k, foot sv k → S k := fun k hk => h.log.Sl k (hsf k hk)
  -- the log's first operations
  refine ⟨fun i wr => ∃ j : Nat, i = .int .i64 j ∧ j ≤ n ∧ DIs wr d D S r ∧ MBox wr w1.heap.size (dirEnts r.fb ((D.log.take j).foldl chd D.old)) ∧ Step (fun k => k = w1.heap.size) w3 wr ∧ Box wr w.heap.size 45 #[.int .i64 f.keep, .int .i64 f.dirs, .int .i64 f.tear], fun i _ => match i with | .int _ q => n - q.toNat | _ => 0,
    ⟨0, rfl, by omega, h, m2, Step.refl _ _, f1⟩, ?_⟩
  rintro _ w4 ⟨j, rfl, hj, h4, m4, s4, f4⟩
  have hv4 := View.step (hsv _ hlv) s4 fun k hk e => hlm (e ▸ hsvS k hk)
  (with_reducible refine b_lss ?_)
  refine cnd (fun hlt => ?_) (fun hlt => ?_)
  · have hjn : j < n := by omega
    have hjl : j < D.log.length := by omega
    obtain ⟨cv, g1, g2⟩ := h4.log.ch j D.log[j] (List.getElem?_eq_getElem hjl)
    refine vidx hv4 j rfl hjn fun b o c e hu => ?_
    have hcell := hu 0 cv (by simp [List.getElem?_take, hjn, g1])
    refine ld hcell ?_
    refine g2.run m4 fun w5 m5 s5 => ?_
    (with_reducible refine b_add (by (first | (unfold I64; omega) | omega)) ?_)
    refine ⟨⟨j + 1, by simp, by omega, h4.step s5 (fun k hk e => hlm (e ▸ hk)), ?_, stepMany s4 s5, f4.step s5 fun e => m4.ne_box f4 e.symm⟩, by simp only []; omega⟩
    rw [List.take_succ_eq_append_getElem hjl, List.foldl_append]
    exact m5
  · have hjn : j = n := by omega
    subst hjn
    clear hv4 hlv hsv hlt
    have hlOk := h.wf.pre j
    generalize hl : (D.log.take j).foldl chd D.old = l at m4 hlOk
    have z4 := s4.size
    (with_reducible refine cf ?_)
    refine New_ok (by omega) fun d5 w5 S5 hd5 s5 hS5 => ?_
    have m5 := m4.step s5 fun x => x
    have h5 := h4.step s5 fun _ _ x => x
    have f5 := f4.step s5 fun x => x
    obtain ⟨r5, hd5⟩ := hd5
    have hS5l : ∀ k, S5 k → k < w5.heap.size := fun k hk => (hd5.lim k hk).2
    refine mrange m5 fun w6 i6 s6 z6 => ?_
    have h6 := h5.step s6 fun _ _ x => x
    have f6 := f5.step s6 fun x => x
    have hd6 := hd5.step s6 fun _ _ x => x
    have hnbS := hS5l r5.nb hd5.Sn
    have hdS := hS5l d5 hd5.Sd
    have hnb4 := hS5 _ hd5.Sn
    have hd4 := hS5 _ hd5.Sd
    have z5 := s5.size
    have hm1 : w1.heap.size < w4.heap.size := m4.lt
    have b6 := hd6.box
    have n6 : MBox w6 r5.nb [] := hd6.now
    -- one file behind the other
    refine ⟨fun wr => ∃ (T : List Left) (rest : Dir), l.Perm (T.map (fun t => (t.nm, t.id)) ++ rest) ∧ MIter wr w5.heap.size w1.heap.size (dirEnts r.fb l) (dirEnts r.fb rest) ∧ Coll wr D f w6.heap.size T ∧ MBox wr r5.nb (T.map fun t => (t.nm, Value.pointer (some ⟨t.blk, 0, none⟩))) ∧
        Step (fun k => k = w5.heap.size ∨ k = r5.nb) w6 wr,
      fun wr => 100 - mcount wr r5.nb, ⟨[], l, List.Perm.refl _, i6, ⟨by simp, List.Pairwise.nil⟩, n6, Step.refl _ _⟩, ?_⟩
    rintro w7 ⟨T, rest, hp, i7, c7, n7, s7⟩
    have hpl := hp.length_eq
    have hll := hlOk.len
    simp only [List.length_append, List.length_map] at hpl
    have h7 := h6.step s7 (by
      rintro k hk (e | e)
      · have := hSl k hk; omega
      · have := hSl k hk; omega)
    have f7 := f6.step s7 (by
      have := f6.lt
      rintro (e | e) <;> omega)
    have b7 := b6.step s7 (by
      rintro (e | e)
      · have := hdS; omega
      · exact n6.ne_box b6 e.symm)
    have z7 := s7.size
    refine mnext i7 (fun hno => ?_) (fun k v rest' w8 hpr i8 s8 z8 hen => ?_)
    · -- all are made
      have hr0 : rest = [] := by
        cases rest with
        | nil => rfl
        | cons p q => simp [dirEnts] at hno
      subst hr0
      rw [List.append_nil] at hp
      refine ext1_0 ?_
      refine Cond_f ⟨trivial, ?_⟩
      (with_reducible refine fld0 ?_)
      (with_reducible refine ldB b7 (by (simp only [List.getElem?_toArray, List.getElem?_cons_succ, List.getElem?_cons_zero]; rfl)) ?_)
      (with_reducible refine cf ?_)
      refine Clone_map_ok n7 fun w8 m8 s8 z8 => ?_
      have n8 := n7.step s8 fun x => x
      have b8 := b7.step s8 fun x => x
      have c8 := c7.none s8
      refine ⟨trivial, ?_⟩
      (with_reducible refine fld0 ?_)
      refine stB b8 (by simp) rfl fun w9 b9 s9 => ?_
      have td := tag_box b8
      have n9 := n8.step s9 (n8.ne_box b8)
      have m9 := m8.step s9 (m8.ne_box b8)
      have c9 := c8.step s9 (by rintro k rfl; rw [td]; decide)
      have hz9 := s9.size
      obtain ⟨T', hT, hTl⟩ := perm_lift (fun t : Left => (t.nm, t.id)) l T hp.symm
      have hents := mapIdx_ents T'
      rw [hTl] at hents
      have n10 := n9.perm (hT.map _)
      have m10 := m9.perm (hT.map _)
      rw [hents] at n10 m10
      have hdl5 := b9.lt
      have tit : tagOf w6 w5.heap.size = 0 := by
        obtain ⟨es, clk, seen, g1, g2, _⟩ := i6
        unfold tagOf; rw [g2]
      have tnb := tag_map n6
      have td6 := tag_box b6
      have lg9 : LogIs w9 S5 r5.fb newDk.log r5.lv r5.lvs := hd6.log.step (((s7.then_none s8).mono (S' := fun k => (k = w5.heap.size ∨ k = r5.nb) ∨ k = d5) fun i hi => .inl hi).trans s9 fun i hi => .inl (.inr hi)) (by
        rintro k _ ((rfl | rfl) | rfl)
        · rw [tit]; decide
        · rw [tnb]; decide
        · rw [td6]; decide)
      have hn10 := n10.lt
      have hm10 := m10.lt
      refine hk d5 w9 (fun k => w.heap.size ≤ k ∧ k < w9.heap.size) ⟨⟨r5.nb, w7.heap.size, r5.lv, r5.lvs, T'.map (·.blk), T'.map (·.row)⟩, ⟨b9, ?_, ?_, ?_, ⟨lg9.own, lg9.len, fun j c hj => ?_, fun k hk => ?_⟩, ?_, by omega, by simp only []; omega, by simp only []; omega, fun k hk => by omega⟩, hA⟩ ?_ fun k hk => hk.1
      · unfold Dk.crash
        simp only [hn, hl]
        exact n10
      · unfold Dk.crash
        simp only [hn, hl]
        exact m10
      · simp only []; omega
      · simp [Dk.crash] at hj
      · have := hS5 k (lg9.Sl k hk)
        have := lg9.own.lt k hk
        omega
      · unfold Dk.crash
        simp only [hn, hl]
        exact coll_files (c9.perm hT) hTl fun k h1 h2 => by omega
      · refine (((((s03.then_new s4 fun i hi => by omega).then_none s5).then_none s6).then_new s7 fun i hi => by omega).then_none s8).then_new s9 fun i hi => by omega
    · -- one more
      obtain ⟨R, hR, hRl⟩ := perm_lift (fun p : Name × Nat => (p.1, fptr r.fb p.2)) ((k, v) :: rest') rest hpr
      obtain ⟨p, rest2, rfl⟩ : ∃ p q, R = p :: q := by
        cases R with
        | nil => simp at hRl
        | cons p q => exact ⟨p, q, rfl⟩
      simp only [List.map_cons, List.cons.injEq, Prod.mk.injEq] at hRl
      obtain ⟨⟨hk1, hv1⟩, hr2⟩ := hRl
      subst hk1; subst hv1
      have hpm : p ∈ l := by
        rw [hp.mem_iff]
        exact List.mem_append.2 (.inr (hR.mem_iff.2 (by simp)))
      have hp2 := (hlOk.mem p hpm).1
      have hpT : ∀ t ∈ T, t.nm ≠ p.1 := by
        intro t ht e
        have hu := hlOk.ris.uniq
        have hu2 := hu.perm (hp.trans (List.Perm.append_left _ hR))
        unfold Uniq at hu2
        rw [List.map_append, List.nodup_append] at hu2
        refine hu2.2.2 t.nm ?_ p.1 (by simp) e
        exact List.mem_map.2 ⟨(t.nm, t.id), List.mem_map.2 ⟨t, ht, rfl⟩, rfl⟩
      have h8 := h7.step s8 (by rintro k hk rfl; have := hSl _ hk; omega)
      have f8 := f7.step s8 (by have := f6.lt; omega)
      have b8 := b7.step s8 (by omega)
      have n8 := n7.step s8 (by omega)
      have tit : tagOf w7 w5.heap.size = 0 := by
        obtain ⟨es, clk, seen, g1, g2, _⟩ := i7
        unfold tagOf; rw [g2]
      have c8 := c7.step s8 (by rintro k rfl; rw [tit]; decide)
      obtain ⟨c, u, g1, g2, g3, g4⟩ := h8.fil.file p.2 D.fs[p.2] (List.getElem?_eq_getElem hp2)
      have hfs : D.fs[p.2]? = some D.fs[p.2] := List.getElem?_eq_getElem hp2
      have hsy := h.wf.syn _ (List.getElem_mem hp2)
      generalize hF : D.fs[p.2] = F at g3 g4 hfs hsy
      refine ext3_0 ?_
      refine Cond_t ?_
      refine Do_of hen ?_
      (with_reducible refine ext2_0 ?_)
      (with_reducible refine ext2_1 ?_)
      (with_reducible refine fld0 ?_)
      have s9 := drew_step w8
      generalize hw9 : w8.drew = w9 at s9 ⊢
      have z9 : w9.heap.size = w8.heap.size := by rw [← hw9]; rfl
      have h9 := h8.step s9 fun _ _ x => x
      have f9 := f8.step s9 fun x => x
      have b9 := b8.step s9 fun x => x
      have n9 := n8.step s9 fun x => x
      have c9 := c8.none s9
      have i9 := i8.step s9 ⟨fun x => x, fun x => x⟩
      have g3 := g3.step s9 fun x => x
      have g4 := g4.step s9 fun _ _ x => x
      (with_reducible refine ldB f9 (by (simp only [List.getElem?_toArray, List.getElem?_cons_succ, List.getElem?_cons_zero]; rfl)) ?_)
      refine b_max ?_
      rw [fptr_some g1]
      refine ⟨trivial, ?_⟩
      (with_reducible refine fld0 ?_)
      (with_reducible refine ldB g3 (by (simp only [List.getElem?_toArray, List.getElem?_cons_succ, List.getElem?_cons_zero]; rfl)) ?_)
      refine l_view g4.bytes ?_
      refine ⟨trivial, ?_⟩
      (with_reducible refine fld0 ?_)
      (with_reducible refine ldB g3 (by (simp only [List.getElem?_toArray, List.getElem?_cons_succ, List.getElem?_cons_zero]; rfl)) ?_)
      (with_reducible refine b_sub (by (first | (unfold I64; omega) | omega)) ?_)
      refine b_min ?_
      have e1 : ((F.b.length : Int) - (F.syn : Int)) = ((F.b.length - F.syn : Nat) : Int) := by omega
      rw [e1, clip_int]
      have hkp := clip_le f.keep (F.b.length - F.syn)
      generalize hkeep : clip f.keep (F.b.length - F.syn) = kp at hkp ⊢
      refine ⟨trivial, ?_⟩
      (with_reducible refine fld0 ?_)
      have s10 := drew_step w9
      generalize hw10 : w9.drew = w10 at s10 ⊢
      have z10 : w10.heap.size = w9.heap.size := by rw [← hw10]; rfl
      have h10 := h9.step s10 fun _ _ x => x
      have f10 := f9.step s10 fun x => x
      have b10 := b9.step s10 fun x => x
      have n10 := n9.step s10 fun x => x
      have c10 := c9.none s10
      have i10 := i9.step s10 ⟨fun x => x, fun x => x⟩
      have g3 := g3.step s10 fun x => x
      have g4 := g4.step s10 fun _ _ x => x
      (with_reducible refine ldB g3 (by (simp only [List.getElem?_toArray, List.getElem?_cons_succ, List.getElem?_cons_zero]; rfl)) ?_)
      refine ⟨trivial, ?_⟩
      (with_reducible refine fld0 ?_)
      (with_reducible refine ldB g3 (by (simp only [List.getElem?_toArray, List.getElem?_cons_succ, List.getElem?_cons_zero]; rfl)) ?_)
      (with_reducible refine b_add (by (first | (unfold I64; omega) | omega)) ?_)
      refine bslice g4.bytes 0 (F.syn + kp) low0 (highI (by omega)) (by omega) (by omega) fun u2 hu2 _ => ?_
      have hB := hu2 _ g4.bytes
      rw [List.drop_zero] at hB
      have hBl : (F.b.take (F.syn + kp)).length = F.syn + kp := by simp; omega
      (with_reducible refine cf ?_)
      refine Clone_ok hB (by omega) fun nv w11 o11 t11 => ?_
      have h11 := h10.step t11.step fun _ _ x => x
      have f11 := f10.step t11.step fun x => x
      have b11 := b10.step t11.step fun x => x
      have n11 := n10.step t11.step fun x => x
      have c11 := c10.none t11.step
      have i11 := i10.step t11.step ⟨fun x => x, fun x => x⟩
      have z11 := t11.step.size
      have hnew := t11.new
      (with_reducible refine fld0 ?_)
      (with_reducible refine ldB f11 (by (simp only [List.getElem?_toArray, List.getElem?_cons_succ, List.getElem?_cons_zero]; rfl)) ?_)
      refine b_max ?_
      refine b_min ?_
      rw [clip_int]
      have htp := clip_le f.tear kp
      generalize htear : clip f.tear kp = tp at htp ⊢
      generalize hbb : F.b.take (F.syn + kp) = bb at o11 hBl
      -- the last bytes are turned
      refine ⟨fun i wr => ∃ j : Nat, i = .int .i64 j ∧ j ≤ tp ∧ Own wr nv T_uint8 1 (B8 (torn bb j)) ∧ Step (foot nv) w11 wr, fun i _ => match i with | .int _ q => tp - q.toNat | _ => 0, ⟨0, rfl, by omega, by unfold torn; simpa using o11, Step.refl _ _⟩, ?_⟩
      rintro _ w12 ⟨j2, rfl, hj2, o12, s12⟩
      (with_reducible refine b_lss ?_)
      refine cnd (fun hlt2 => ?_) (fun hlt2 => ?_)
      · refine l_view o12.bytes ?_
        rw [torn_len]
        (with_reducible refine b_sub (by (first | (unfold I64; omega) | omega)) ?_)
        (with_reducible refine b_sub (by (first | (unfold I64; omega) | omega)) ?_)
        have hjb : j2 < bb.length := by omega
        have hix : bb.length - 1 - j2 < (torn bb j2).length := by rw [torn_len]; omega
        refine bidx o12.bytes (bb.length - 1 - j2) (by omega) hix fun p1 _ hp1 => ?_
        refine ld hp1 ?_
        have hx8 := ((torn bb j2)[bb.length - 1 - j2]).toNat_lt
        refine b_xor (un8 (by omega)) (un8 (by omega)) ?_
        have ex : (((torn bb j2)[bb.length - 1 - j2].toNat : Int).toNat ^^^ Int.toNat 255) = ((torn bb j2)[bb.length - 1 - j2] ^^^ 255).toNat := by
          rw [Int.toNat_natCast, UInt8.toNat_xor]; rfl
        rw [ex]
        refine o12.set8 (bb.length - 1 - j2) hix (by omega) fun p2 hp2f hset => ?_
        obtain ⟨⟨v0, q1⟩, q2, q3⟩ := hset w12 ((torn bb j2)[bb.length - 1 - j2] ^^^ 255) o12
        refine st q1 q2 rfl ?_
        (with_reducible refine b_add (by (first | (unfold I64; omega) | omega)) ?_)
        refine ⟨⟨j2 + 1, by simp, by omega, ?_, stepMany s12 ((Step.refl (foot nv) w12).setCell (.inl hp2f) _)⟩, by simp only []; omega⟩
        have eg := torn_get hjb
        rw [List.getElem?_eq_getElem hix, List.getElem?_eq_getElem (by omega)] at eg
        have eg := Option.some.inj eg
        rw [← torn_succ hjb, ← eg]
        exact q3
      · have hjt : j2 = tp := by omega
        subst hjt
        have hz12 := s12.size
        have hnlt := o11.lt
        have tn : ∀ k, foot nv k → tagOf w11 k = T_uint8 + 1 := fun k hk => tag_own o11 hk
        have b12 := b11.step s12 (fun hk => by have := tn _ hk; rw [tag_box b11] at this; exact absurd this (by decide))
        have n12 := n11.step s12 (fun hk => by have := tn _ hk; rw [tag_map n11] at this; exact absurd this (by decide))
        have c12 : Coll w12 D f w6.heap.size T := by
          refine ⟨fun t ht => ?_, c11.two⟩
          obtain ⟨a1, a2, a3⟩ := c10.one t ht
          obtain ⟨a4, a5, _⟩ := c11.one t ht
          refine ⟨a4.step s12 fun hk => ?_, a5.step s12 fun k hk1 hk2 => ?_, a3⟩
          · have := a1.lt
            have := hnew _ hk
            omega
          · have := a2.lt k hk1
            have := hnew _ hk2
            omega
        have i12 : MIter w12 w5.heap.size w1.heap.size (dirEnts r.fb l) rest' := by
          have := i10.lt
          refine i11.step s12 ⟨fun hk => ?_, fun hk => ?_⟩
          · have := hnew _ hk; omega
          · have := hnew _ hk; omega
        refine ⟨trivial, ?_⟩
        (with_reducible refine fld0 ?_)
        (with_reducible refine ldB b12 (by (simp only [List.getElem?_toArray, List.getElem?_cons_succ, List.getElem?_cons_zero]; rfl)) ?_)
        refine l_view o12.bytes ?_
        refine bld #[nv, .int .i64 ((torn bb j2).length : Nat)] (by
          obtain ⟨q1, q2, q3, rfl, _⟩ := o12.len
          kernel_rfl) ?_
        refine bxA fun w13 x13 s13 z13 => ?_
        have n13 := n12.step s13 fun x => x
        have i13 := i12.step s13 ⟨fun x => x, fun x => x⟩
        have c13 := c12.none s13
        have o13 := o12.step s13 fun _ _ x => x
        refine mput n13 fun w14 n14 s14 => ?_
        have tnb := tag_map n13
        have hfoot12 : ∀ k, foot nv k → k < w12.heap.size := o12.lt
        have x14 := x13.step s14 (fun e => n13.ne_box x13 e.symm)
        have o14 := o13.step s14 (fun k hk e => by subst e; exact own_not_map o13 n13 hk)
        have c14 := c13.step s14 (by rintro k rfl; rw [tnb]; decide)
        have hil := i13.lt
        have i14 := i13.step s14 ⟨by omega, by omega⟩
        have hcf : crashFl ((D.fs[p.2]?).getD ⟨[], 0⟩) f.keep f.tear = torn bb j2 := by
          unfold crashFl
          rw [hfs]
          simp only [Option.getD_some, hkeep, hbb, htear]
        refine ⟨⟨T ++ [⟨p.1, p.2, w12.heap.size, nv⟩], rest2, ?_, ?_, ⟨fun t ht => ?_, ?_⟩, ?_, ?_⟩, ?_⟩
        · refine hp.trans ?_
          rw [List.map_append, List.append_assoc]
          exact List.Perm.append_left _ hR
        · rw [← hr2] at i14; exact i14
        · rcases List.mem_append.1 ht with ht | ht
          · exact c14.one t ht
          · simp at ht
            subst ht
            simp only [hcf]
            exact ⟨x14, o14, by omega, fun k hk => by have := hnew k hk; omega⟩
        · rw [List.pairwise_append]
          refine ⟨c14.two, List.pairwise_singleton _ _, fun t ht q hq => ?_⟩
          simp at hq
          subst hq
          obtain ⟨a1, a2, a3⟩ := c10.one t ht
          refine ⟨by have := a1.lt; simp only []; omega, fun k hk1 hk2 => ?_⟩
          have := a2.lt k hk1
          have := hnew k hk2
          omega
        · rw [List.map_append]
          refine n14.perm ?_
          have e2 : drop' (T.map fun t => (t.nm, Value.pointer (some ⟨t.blk, 0, none⟩))) p.1 = T.map fun t => (t.nm, Value.pointer (some ⟨t.blk, 0, none⟩)) := by
            refine drop_eq (look_none.2 fun v hv => ?_)
            obtain ⟨t, ht, e⟩ := List.mem_map.1 hv
            exact hpT t ht (congrArg Prod.fst e)
          rw [e2]
          exact (List.perm_append_comm (l₁ := [_])).trans (List.Perm.refl _)
        · have q1 : Step (fun k => k = w5.heap.size ∨ k = r5.nb) w6 w11 := (((s7.trans s8 fun i hi => .inl (.inl hi)).then_none s9).then_none s10).then_none t11.step
          exact ((q1.trans s12 fun i hi => .inr (by have := hnew i hi; omega)).then_none s13).trans s14 fun i hi => .inl (.inr hi)
        · have q1 := n14.count
          have q2 := n7.count
          have e2 : drop' (T.map fun t => (t.nm, Value.pointer (some ⟨t.blk, 0, none⟩))) p.1 = T.map fun t => (t.nm, Value.pointer (some ⟨t.blk, 0, none⟩)) := by
            refine drop_eq (look_none.2 fun v hv => ?_)
            obtain ⟨t, ht, e⟩ := List.mem_map.1 hv
            exact hpT t ht (congrArg Prod.fst e)
          rw [e2] at q1
          simp only [] at q1 q2 ⊢
          rw [q1, q2]
          simp
          omega
end Go.Proofs.VvS
