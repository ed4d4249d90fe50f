/-
  WalNames: every input answers true. Part 5 of its proof: VvHb VvHc.
-/
import Derived.Test.YtolefmkgllngnaaGreatDoorV03

namespace Go.Proofs.VvS
open Go Go.Proofs Vv
set_option maxRecDepth 100000
/-- varve/wal.Name -/
def H_wal_Name (t0 : Value) (K : Value → World → Prop) (w : World) : Prop :=
  CallF Tryz.prog F_strconv_Itoa #[t0] w fun t4 w_1 =>
  Bin Tryz.prog BinOp.add 9 true false (Value.string (ByteArray.mk #[108, 111, 103, 45])) t4 fun t5 =>
  K t5 w_1
def N_wal_Name : Note := (.seq .leaf (.seq .leaf .leaf))
theorem h_wal_Name (t0 : Value) (K : Value → World → Prop) (w : World) : H_wal_Name t0 K w = top Tryz.prog Tryz.f9 N_wal_Name [t0] K w := by kernel_rfl
theorem c_wal_Name {t0 : Value} {K : Value → World → Prop} {w : World} (h : H_wal_Name t0 K w) : Runs Tryz.prog F_wal_Name #[t0] w K := calls_of_top mixed Tryz.func9 (h_wal_Name t0 K w ▸ h)

/-- varve/disk.New -/
def H_disk_New (K : Value → World → Prop) (w : World) : Prop :=
  Do Tryz.prog (Instr.makeMap 73 none) w fun t1 w_1 =>
  Do Tryz.prog (Instr.makeMap 73 none) w_1 fun t2 w_2 =>
  Pu Tryz.prog (Instr.build 76 #[(0, t1), (1, t2), (4, (Value.int IntKind.i64 (-1)))]) fun t3 =>
  Do Tryz.prog (Instr.box 76 t3) w_2 fun t4 w_3 =>
  K t4 w_3
def N_disk_New : Note := (.seq .leaf (.seq .leaf .leaf))
theorem h_disk_New (K : Value → World → Prop) (w : World) : H_disk_New K w = top Tryz.prog Tryz.f11 N_disk_New [] K w := by kernel_rfl
theorem c_disk_New {K : Value → World → Prop} {w : World} (h : H_disk_New K w) : Runs Tryz.prog F_disk_New #[] w K := calls_of_top mixed Tryz.func11 (h_disk_New K w ▸ h)

/-- varve/wal.Open -/
def H_wal_Open (t0 : Value) (t1 : Value) (K : Value → World → Prop) (w : World) : Prop :=
  Bin Tryz.prog BinOp.eql 26 false true t0 (Value.pointer none) fun t24 =>
  Cond t24 (
  K (Value.tuple #[(Value.pointer none), (Value.slice none 0 0), (Value.int IntKind.i64 1)]) w) (
  ∀ J : Value → World → Prop, (∀ (t25 : Value) (w_1 : World), (
  Cond t25 (
  K (Value.tuple #[(Value.pointer none), (Value.slice none 0 0), (Value.int IntKind.i64 2)]) w_1) (
  CallF Tryz.prog F_disk_Disk_Read #[t0, (Value.string (ByteArray.mk #[108, 111, 103, 45]))] w_1 fun t34 w_2 =>
  Pu Tryz.prog (Instr.extract t34 0) fun t35 =>
  Pu Tryz.prog (Instr.extract t34 1) fun t36 =>
  Bin Tryz.prog BinOp.eql 30 false true t36 (Value.int IntKind.i64 24) fun t38 =>
  Cond t38 (
  K (Value.tuple #[(Value.pointer none), (Value.slice none 0 0), t36]) w_2) (
  Bin Tryz.prog BinOp.sub 3 false true t1 (Value.int IntKind.i64 1) fun t42 =>
  Pu Tryz.prog (Instr.build 79 #[(0, t0), (1, t42)]) fun t43 =>
  Pu Tryz.prog (Instr.build 82 #[(0, t43)]) fun t44 =>
  Do Tryz.prog (Instr.box 82 t44) w_2 fun t45 w_3 =>
  CallF Tryz.prog F_wal_segments #[t0] w_3 fun t47 w_4 =>
  BltR Tryz.prog Builtin.len #[83] 3 #[false] #[t47] w_4 fun t49 =>
  ∃ (J_1 : Value → World → Prop) (M : Value → World → Nat), J_1 (Value.int IntKind.i64 0) w_4 ∧ ∀ (t50 : Value) (w_5 : World), J_1 t50 w_5 →
  Bin Tryz.prog BinOp.lss 3 false false t50 t49 fun t51 =>
  Cond t51 (
  Pu Tryz.prog (Instr.indexAt 83 t47 t50) fun t53 =>
  Rd Tryz.prog (Instr.loadAt 3 t53) w_5 fun t54 =>
  ∀ J_2 : Value → World → Prop, (∀ (t71 : Value) (w_6 : World), (
  Cond t71 (
  K (Value.tuple #[(Value.pointer none), (Value.slice none 0 0), (Value.int IntKind.i64 81)]) w_6) (
  Bin Tryz.prog BinOp.add 3 false true t50 (Value.int IntKind.i64 1) fun t72 =>
  J_1 t72 w_6 ∧ M t72 w_6 < M t50 w_5)) → J_2 t71 w_6) →
  Bin Tryz.prog BinOp.gtr 3 false false t54 t1 fun t57 =>
  Gate t57 true (
  Bin Tryz.prog BinOp.eql 3 false true t50 (Value.int IntKind.i64 0) fun t60 =>
  Gate t60 false (
  Bin Tryz.prog BinOp.sub 3 false true t50 (Value.int IntKind.i64 1) fun t64 =>
  Pu Tryz.prog (Instr.indexAt 83 t47 t64) fun t65 =>
  Rd Tryz.prog (Instr.loadAt 3 t65) w_5 fun t66 =>
  Bin Tryz.prog BinOp.sub 3 false true t54 (Value.int IntKind.i64 1) fun t68 =>
  Bin Tryz.prog BinOp.neq 3 false false t66 t68 fun t69 =>
  J_2 t69 w_5) (
  J_2 (Value.bool true) w_5)) (
  J_2 (Value.bool false) w_5)) (
  BltR Tryz.prog Builtin.len #[83] 3 #[false] #[t47] w_5 fun t74 =>
  ∃ (J_3 : Value → Value → Value → World → Prop) (M_1 : Value → Value → Value → World → Nat), J_3 (Value.slice none 0 0) (Value.bool false) (Value.int IntKind.i64 0) w_5 ∧ ∀ (t13 : Value) (t14 : Value) (t75 : Value) (w_7 : World), J_3 t13 t14 t75 w_7 →
  Bin Tryz.prog BinOp.lss 3 false false t75 t74 fun t76 =>
  Cond t76 (
  Pu Tryz.prog (Instr.indexAt 83 t47 t75) fun t77 =>
  Rd Tryz.prog (Instr.loadAt 3 t77) w_7 fun t78 =>
  Bin Tryz.prog BinOp.lss 3 false false t78 t1 fun t81 =>
  Cond t81 (
  Bin Tryz.prog BinOp.add 3 false true t75 (Value.int IntKind.i64 1) fun t120 =>
  J_3 t13 t14 t120 w_7 ∧ M_1 t13 t14 t120 w_7 < M_1 t13 t14 t75 w_7) (
  nilOk t45 ∧
  Pu Tryz.prog (Instr.fieldAt 82 t45 0) fun t85 =>
  Pu Tryz.prog (Instr.fieldAt 79 t85 1) fun t86 =>
  Do Tryz.prog (Instr.storeAt 3 t86 t78) w_7 fun _ w_8 =>
  nilOk t45 ∧
  Pu Tryz.prog (Instr.fieldAt 82 t45 0) fun t91 =>
  CallF Tryz.prog F_wal_tail_name #[t91] w_8 fun t92 w_9 =>
  CallF Tryz.prog F_disk_Disk_Read #[t0, t92] w_9 fun t93 w_10 =>
  Pu Tryz.prog (Instr.extract t93 0) fun t94 =>
  Pu Tryz.prog (Instr.extract t93 1) fun t95 =>
  Bin Tryz.prog BinOp.neq 30 false true t95 (Value.int IntKind.i64 0) fun t97 =>
  Cond t97 (
  K (Value.tuple #[(Value.pointer none), (Value.slice none 0 0), t95]) w_10) (
  nilOk t45 ∧
  Pu Tryz.prog (Instr.fieldAt 82 t45 0) fun t102 =>
  CallF Tryz.prog F_wal_tail_read #[t102, t94, t14] w_10 fun t105 w_11 =>
  Pu Tryz.prog (Instr.extract t105 0) fun t106 =>
  Pu Tryz.prog (Instr.extract t105 1) fun t107 =>
  Pu Tryz.prog (Instr.extract t105 2) fun t108 =>
  Bin Tryz.prog BinOp.neq 30 false true t108 (Value.int IntKind.i64 0) fun t110 =>
  Cond t110 (
  K (Value.tuple #[(Value.pointer none), (Value.slice none 0 0), t108]) w_11) (
  BltD Tryz.prog Builtin.append #[29, 29] 29 #[false, false] #[t13, t106] w_11 fun t114 w_12 =>
  Gate t14 false (
  Bin Tryz.prog BinOp.gtr 3 false true t107 (Value.int IntKind.i64 0) fun t118 =>
  Bin Tryz.prog BinOp.add 3 false true t75 (Value.int IntKind.i64 1) fun t120_1 =>
  J_3 t114 t118 t120_1 w_12 ∧ M_1 t114 t118 t120_1 w_12 < M_1 t13 t14 t75 w_7) (
  Bin Tryz.prog BinOp.add 3 false true t75 (Value.int IntKind.i64 1) fun t120_2 =>
  J_3 t114 (Value.bool true) t120_2 w_12 ∧ M_1 t114 (Value.bool true) t120_2 w_12 < M_1 t13 t14 t75 w_7))))) (
  nilOk t45 ∧
  Pu Tryz.prog (Instr.fieldAt 82 t45 0) fun t123 =>
  CallF Tryz.prog F_wal_tail_begin #[t123] w_7 fun t124 w_13 =>
  Bin Tryz.prog BinOp.neq 30 false true t124 (Value.int IntKind.i64 0) fun t126 =>
  Cond t126 (
  K (Value.tuple #[(Value.pointer none), (Value.slice none 0 0), t124]) w_13) (
  K (Value.tuple #[t45, t13, (Value.int IntKind.i64 0)]) w_13)))))) → J t25 w_1) →
  Bin Tryz.prog BinOp.lss 3 false true t1 (Value.int IntKind.i64 1) fun t27 =>
  Gate t27 false (
  Bin Tryz.prog BinOp.gtr 3 false true t1 (Value.int IntKind.i64 1073741824) fun t30 =>
  J t30 w) (
  J (Value.bool true) w))
def N_wal_Open : Note := (.seq .leaf (.seq (.sub (.seq .leaf (.cond (.seq .leaf .leaf) (.join [25] .leaf (.cond (.seq .leaf .leaf) .leaf))))) (.seq (.seq .leaf (.seq .leaf (.cond (.seq .leaf .leaf) .leaf))) (.seq .leaf (.seq .leaf (.seq (.seq .leaf (.sub (.loop [50] (.seq .leaf (.seq (.cond .leaf .leaf) (.seq (.sub (.seq .leaf (.join [71] .leaf (.cond (.seq .leaf .leaf) .leaf)))) .leaf)))))) (.seq .leaf (.seq .leaf (.seq (.seq .leaf (.sub (.loop [13, 14, 75] (.seq .leaf (.seq (.cond .leaf .leaf) (.seq (.sub (.seq .leaf (.seq (.seq .leaf (.cond .leaf .leaf)) (.seq .leaf (.seq .leaf (.seq (.seq .leaf (.cond (.seq .leaf .leaf) .leaf)) (.seq .leaf (.seq (.seq .leaf (.cond (.seq .leaf .leaf) .leaf)) (.seq .leaf .leaf))))))))) .leaf)))))) (.seq (.seq .leaf (.seq .leaf (.cond (.seq .leaf .leaf) .leaf))) (.seq .leaf .leaf)))))))))))
theorem h_wal_Open (t0 : Value) (t1 : Value) (K : Value → World → Prop) (w : World) : H_wal_Open t0 t1 K w = top Tryz.prog Tryz.f12 N_wal_Open [t0, t1] K w := by kernel_rfl
theorem c_wal_Open {t0 t1 : Value} {K : Value → World → Prop} {w : World} (h : H_wal_Open t0 t1 K w) : Runs Tryz.prog F_wal_Open #[t0, t1] w K := calls_of_top mixed Tryz.func12 (h_wal_Open t0 t1 K w ▸ h)

/-- (*varve/disk.Disk).Names -/
def H_disk_Disk_Names (t0 : Value) (K : Value → World → Prop) (w : World) : Prop :=
  Bin Tryz.prog BinOp.eql 26 false true t0 (Value.pointer none) fun t4 =>
  Cond t4 (
  K (Value.slice none 0 0) w) (
  nilOk t0 ∧
  Pu Tryz.prog (Instr.fieldAt 76 t0 0) fun t7 =>
  Rd Tryz.prog (Instr.loadAt 73 t7) w fun t8 =>
  CallF Tryz.prog F_maps_Keys_disk_directory_string_disk_file #[t8] w fun t9 w_1 =>
  CallF Tryz.prog F_slices_Sorted_string #[t9] w_1 fun t10 w_2 =>
  K t10 w_2)
def N_disk_Disk_Names : Note := (.seq .leaf (.seq (.seq .leaf (.cond (.seq .leaf .leaf) .leaf)) (.seq .leaf .leaf)))
theorem h_disk_Disk_Names (t0 : Value) (K : Value → World → Prop) (w : World) : H_disk_Disk_Names t0 K w = top Tryz.prog Tryz.f16 N_disk_Disk_Names [t0] K w := by kernel_rfl
theorem c_disk_Disk_Names {t0 : Value} {K : Value → World → Prop} {w : World} (h : H_disk_Disk_Names t0 K w) : Runs Tryz.prog F_disk_Disk_Names #[t0] w K := calls_of_top mixed Tryz.func16 (h_disk_Disk_Names t0 K w ▸ h)

/-- (*varve/disk.Disk).Read -/
def H_disk_Disk_Read (t0 : Value) (t1 : Value) (K : Value → World → Prop) (w : World) : Prop :=
  Bin Tryz.prog BinOp.eql 26 false true t0 (Value.pointer none) fun t8 =>
  Cond t8 (
  K (Value.tuple #[(Value.slice none 0 0), (Value.int IntKind.i64 1)]) w) (
  nilOk t0 ∧
  Pu Tryz.prog (Instr.fieldAt 76 t0 5) fun t12 =>
  Rd Tryz.prog (Instr.loadAt 4 t12) w fun t13 =>
  Cond t13 (
  K (Value.tuple #[(Value.slice none 0 0), (Value.int IntKind.i64 24)]) w) (
  CallF Tryz.prog F_disk_IsName #[t1] w fun t16 w_1 =>
  Pu Tryz.prog (Op.unary UnOp.not t16) fun t17 =>
  Cond t17 (
  K (Value.tuple #[(Value.slice none 0 0), (Value.int IntKind.i64 20)]) w_1) (
  nilOk t0 ∧
  Pu Tryz.prog (Instr.fieldAt 76 t0 0) fun t21 =>
  Rd Tryz.prog (Instr.loadAt 73 t21) w_1 fun t22 =>
  Rd Tryz.prog (Instr.lookup 73 t22 t1 false) w_1 fun t24 =>
  Bin Tryz.prog BinOp.eql 93 false true t24 (Value.pointer none) fun t25 =>
  Cond t25 (
  K (Value.tuple #[(Value.slice none 0 0), (Value.int IntKind.i64 21)]) w_1) (
  nilOk t0 ∧
  Pu Tryz.prog (Instr.fieldAt 76 t0 0) fun t28 =>
  Rd Tryz.prog (Instr.loadAt 73 t28) w_1 fun t29 =>
  Rd Tryz.prog (Instr.lookup 73 t29 t1 false) w_1 fun t31 =>
  nilOk t31 ∧
  Pu Tryz.prog (Instr.fieldAt 97 t31 0) fun t33 =>
  Rd Tryz.prog (Instr.loadAt 39 t33) w_1 fun t34 =>
  CallF Tryz.prog F_slices_Clone_byte_byte #[t34] w_1 fun t35 w_2 =>
  K (Value.tuple #[t35, (Value.int IntKind.i64 0)]) w_2))))
def N_disk_Disk_Read : Note := (.seq .leaf (.seq (.sub (.seq .leaf (.cond (.seq .leaf .leaf) (.seq .leaf (.cond (.seq .leaf .leaf) (.seq .leaf (.cond (.seq .leaf .leaf) (.seq .leaf (.cond (.seq .leaf .leaf) .leaf))))))))) (.seq .leaf .leaf)))
theorem h_disk_Disk_Read (t0 : Value) (t1 : Value) (K : Value → World → Prop) (w : World) : H_disk_Disk_Read t0 t1 K w = top Tryz.prog Tryz.f18 N_disk_Disk_Read [t0, t1] K w := by kernel_rfl
theorem c_disk_Disk_Read {t0 t1 : Value} {K : Value → World → Prop} {w : World} (h : H_disk_Disk_Read t0 t1 K w) : Runs Tryz.prog F_disk_Disk_Read #[t0, t1] w K := calls_of_top mixed Tryz.func18 (h_disk_Disk_Read t0 t1 K w ▸ h)

/-- (*varve/disk.Disk).Poke -/
def H_disk_Disk_Poke (t0 : Value) (t1 : Value) (t2 : Value) (t3 : Value) (K : Value → World → Prop) (w : World) : Prop :=
  Bin Tryz.prog BinOp.eql 26 false true t0 (Value.pointer none) fun t11 =>
  Cond t11 (
  K (Value.int IntKind.i64 1) w) (
  CallF Tryz.prog F_disk_IsName #[t1] w fun t14 w_1 =>
  Pu Tryz.prog (Op.unary UnOp.not t14) fun t15 =>
  Cond t15 (
  K (Value.int IntKind.i64 20) w_1) (
  nilOk t0 ∧
  Pu Tryz.prog (Instr.fieldAt 76 t0 0) fun t19 =>
  Rd Tryz.prog (Instr.loadAt 73 t19) w_1 fun t20 =>
  Rd Tryz.prog (Instr.lookup 73 t20 t1 false) w_1 fun t22 =>
  Bin Tryz.prog BinOp.eql 93 false true t22 (Value.pointer none) fun t23 =>
  Cond t23 (
  K (Value.int IntKind.i64 21) w_1) (
  ∀ J : Value → World → Prop, (∀ (t24 : Value) (w_2 : World), (
  Cond t24 (
  K (Value.int IntKind.i64 2) w_2) (
  nilOk t0 ∧
  Pu Tryz.prog (Instr.fieldAt 76 t0 0) fun t43 =>
  Rd Tryz.prog (Instr.loadAt 73 t43) w_2 fun t44 =>
  Rd Tryz.prog (Instr.lookup 73 t44 t1 false) w_2 fun t46 =>
  nilOk t46 ∧
  Pu Tryz.prog (Instr.fieldAt 97 t46 0) fun t48 =>
  Rd Tryz.prog (Instr.loadAt 39 t48) w_2 fun t49 =>
  Pu Tryz.prog (Instr.indexAt 39 t49 t2) fun t52 =>
  Do Tryz.prog (Instr.storeAt 5 t52 t3) w_2 fun _ w_3 =>
  K (Value.int IntKind.i64 0) w_3)) → J t24 w_2) →
  Bin Tryz.prog BinOp.lss 3 false true t2 (Value.int IntKind.i64 0) fun t26 =>
  Gate t26 false (
  nilOk t0 ∧
  Pu Tryz.prog (Instr.fieldAt 76 t0 0) fun t31 =>
  Rd Tryz.prog (Instr.loadAt 73 t31) w_1 fun t32 =>
  Rd Tryz.prog (Instr.lookup 73 t32 t1 false) w_1 fun t34 =>
  nilOk t34 ∧
  Pu Tryz.prog (Instr.fieldAt 97 t34 0) fun t36 =>
  Rd Tryz.prog (Instr.loadAt 39 t36) w_1 fun t37 =>
  BltR Tryz.prog Builtin.len #[39] 3 #[false] #[t37] w_1 fun t38 =>
  Bin Tryz.prog BinOp.geq 3 false false t2 t38 fun t39 =>
  J t39 w_1) (
  J (Value.bool true) w_1))))
def N_disk_Disk_Poke : Note := (.seq .leaf (.seq (.sub (.seq .leaf (.cond (.seq .leaf .leaf) (.seq .leaf (.cond (.seq .leaf .leaf) (.seq .leaf (.cond (.seq .leaf .leaf) (.join [24] .leaf (.cond (.seq .leaf .leaf) .leaf))))))))) (.seq .leaf (.seq .leaf .leaf))))
theorem h_disk_Disk_Poke (t0 : Value) (t1 : Value) (t2 : Value) (t3 : Value) (K : Value → World → Prop) (w : World) : H_disk_Disk_Poke t0 t1 t2 t3 K w = top Tryz.prog Tryz.f19 N_disk_Disk_Poke [t0, t1, t2, t3] K w := by kernel_rfl
theorem c_disk_Disk_Poke {t0 t1 t2 t3 : Value} {K : Value → World → Prop} {w : World} (h : H_disk_Disk_Poke t0 t1 t2 t3 K w) : Runs Tryz.prog F_disk_Disk_Poke #[t0, t1, t2, t3] w K := calls_of_top mixed Tryz.func19 (h_disk_Disk_Poke t0 t1 t2 t3 K w ▸ h)

/-- (*varve/disk.Disk).CutAt -/
def H_disk_Disk_CutAt (t0 : Value) (t1 : Value) (K : Value → World → Prop) (w : World) : Prop :=
  Bin Tryz.prog BinOp.neq 26 false true t0 (Value.pointer none) fun t5 =>
  Cond t5 (
  nilOk t0 ∧
  Pu Tryz.prog (Instr.fieldAt 76 t0 4) fun t10 =>
  Do Tryz.prog (Instr.storeAt 3 t10 t1) w fun _ w_1 =>
  nilOk t0 ∧
  Pu Tryz.prog (Instr.fieldAt 76 t0 5) fun t12 =>
  Do Tryz.prog (Instr.storeAt 4 t12 (Value.bool false)) w_1 fun _ w_2 =>
  K (Value.tuple #[]) w_2) (
  K (Value.tuple #[]) w)
def N_disk_Disk_CutAt : Note := (.seq .leaf (.cond .leaf .leaf))
theorem h_disk_Disk_CutAt (t0 : Value) (t1 : Value) (K : Value → World → Prop) (w : World) : H_disk_Disk_CutAt t0 t1 K w = top Tryz.prog Tryz.f20 N_disk_Disk_CutAt [t0, t1] K w := by kernel_rfl
theorem c_disk_Disk_CutAt {t0 t1 : Value} {K : Value → World → Prop} {w : World} (h : H_disk_Disk_CutAt t0 t1 K w) : Runs Tryz.prog F_disk_Disk_CutAt #[t0, t1] w K := calls_of_top mixed Tryz.func20 (h_disk_Disk_CutAt t0 t1 K w ▸ h)

/-- (*varve/wal.Log).Flushed -/
def H_wal_Log_Flushed (t0 : Value) (K : Value → World → Prop) (w : World) : Prop :=
  Bin Tryz.prog BinOp.eql 28 false true t0 (Value.pointer none) fun t4 =>
  Cond t4 (
  K (Value.int IntKind.i64 0) w) (
  nilOk t0 ∧
  Pu Tryz.prog (Instr.fieldAt 82 t0 5) fun t7 =>
  Rd Tryz.prog (Instr.loadAt 3 t7) w fun t8 =>
  K t8 w)
def N_wal_Log_Flushed : Note := (.seq .leaf (.seq (.seq .leaf (.cond (.seq .leaf .leaf) .leaf)) (.seq .leaf .leaf)))
theorem h_wal_Log_Flushed (t0 : Value) (K : Value → World → Prop) (w : World) : H_wal_Log_Flushed t0 K w = top Tryz.prog Tryz.f21 N_wal_Log_Flushed [t0] K w := by kernel_rfl
theorem c_wal_Log_Flushed {t0 : Value} {K : Value → World → Prop} {w : World} (h : H_wal_Log_Flushed t0 K w) : Runs Tryz.prog F_wal_Log_Flushed #[t0] w K := calls_of_top mixed Tryz.func21 (h_wal_Log_Flushed t0 K w ▸ h)

/-- (*varve/disk.Disk).Crash -/
def H_disk_Disk_Crash (t0 : Value) (t1 : Value) (K : Value → World → Prop) (w : World) : Prop :=
  Do Tryz.prog (Instr.box 45 t1) w fun t3 w_1 =>
  Bin Tryz.prog BinOp.eql 26 false true t0 (Value.pointer none) fun t15 =>
  Cond t15 (
  K (Value.pointer none) w_1) (
  nilOk t0 ∧
  Pu Tryz.prog (Instr.fieldAt 76 t0 1) fun t18 =>
  Rd Tryz.prog (Instr.loadAt 73 t18) w_1 fun t19 =>
  CallF Tryz.prog F_maps_Clone_disk_directory_string_disk_file #[t19] w_1 fun t20 w_2 =>
  nilOk t0 ∧
  Pu Tryz.prog (Instr.fieldAt 76 t0 2) fun t23 =>
  Rd Tryz.prog (Instr.loadAt 74 t23) (World.drew w_2) fun t24 =>
  Pu Tryz.prog (Instr.fieldAt 45 t3 1) fun t25 =>
  Rd Tryz.prog (Instr.loadAt 3 t25) (World.drew w_2) fun t26 =>
  BltP Tryz.prog Builtin.max #[3, 3] 3 #[false, true] #[t26, (Value.int IntKind.i64 0)] fun t27 =>
  nilOk t0 ∧
  Pu Tryz.prog (Instr.fieldAt 76 t0 2) fun t30 =>
  Rd Tryz.prog (Instr.loadAt 74 t30) (World.drew w_2) fun t31 =>
  BltR Tryz.prog Builtin.len #[74] 3 #[false] #[t31] (World.drew w_2) fun t32 =>
  BltP Tryz.prog Builtin.min #[3, 3] 3 #[false, false] #[t27, t32] fun t33 =>
  Pu Tryz.prog (Instr.sliceAt 74 t24 none (some t33) none) fun t34 =>
  BltR Tryz.prog Builtin.len #[74] 3 #[false] #[t34] (World.drew w_2) fun t35 =>
  ∃ (J : Value → World → Prop) (M : Value → World → Nat), J (Value.int IntKind.i64 0) (World.drew w_2) ∧ ∀ (t36 : Value) (w_3 : World), J t36 w_3 →
  Bin Tryz.prog BinOp.lss 3 false false t36 t35 fun t37 =>
  Cond t37 (
  Pu Tryz.prog (Instr.indexAt 74 t34 t36) fun t38 =>
  Rd Tryz.prog (Instr.loadAt 99 t38) w_3 fun t39 =>
  CallV Tryz.prog t39 #[t20] w_3 fun t42 w_4 =>
  Bin Tryz.prog BinOp.add 3 false true t36 (Value.int IntKind.i64 1) fun t43 =>
  J t43 w_4 ∧ M t43 w_4 < M t36 w_3) (
  CallF Tryz.prog F_disk_New #[] w_3 fun t44 w_5 =>
  Do Tryz.prog (Instr.range 73 t20) w_5 fun t46 w_6 =>
  ∃ (J_1 : World → Prop) (M_1 : World → Nat), J_1 w_6 ∧ ∀ (w_7 : World), J_1 w_7 →
  Do Tryz.prog (Instr.next t46 false 0) w_7 fun t47 w_8 =>
  Pu Tryz.prog (Instr.extract t47 0) fun t48 =>
  Cond t48 (
  Do Tryz.prog (Instr.entry t46) w_8 fun t49 w_9 =>
  Pu Tryz.prog (Instr.extract t49 0) fun t50 =>
  Pu Tryz.prog (Instr.extract t49 1) fun t51 =>
  Pu Tryz.prog (Instr.fieldAt 45 t3 0) fun t52 =>
  Rd Tryz.prog (Instr.loadAt 3 t52) (World.drew w_9) fun t53 =>
  BltP Tryz.prog Builtin.max #[3, 3] 3 #[false, true] #[t53, (Value.int IntKind.i64 0)] fun t54 =>
  nilOk t51 ∧
  Pu Tryz.prog (Instr.fieldAt 97 t51 0) fun t57 =>
  Rd Tryz.prog (Instr.loadAt 39 t57) (World.drew w_9) fun t58 =>
  BltR Tryz.prog Builtin.len #[39] 3 #[false] #[t58] (World.drew w_9) fun t59 =>
  nilOk t51 ∧
  Pu Tryz.prog (Instr.fieldAt 97 t51 1) fun t62 =>
  Rd Tryz.prog (Instr.loadAt 3 t62) (World.drew w_9) fun t63 =>
  Bin Tryz.prog BinOp.sub 3 false false t59 t63 fun t64 =>
  BltP Tryz.prog Builtin.min #[3, 3] 3 #[false, false] #[t54, t64] fun t65 =>
  nilOk t51 ∧
  Pu Tryz.prog (Instr.fieldAt 97 t51 0) fun t68 =>
  Rd Tryz.prog (Instr.loadAt 39 t68) (World.drew (World.drew w_9)) fun t69 =>
  nilOk t51 ∧
  Pu Tryz.prog (Instr.fieldAt 97 t51 1) fun t72 =>
  Rd Tryz.prog (Instr.loadAt 3 t72) (World.drew (World.drew w_9)) fun t73 =>
  Bin Tryz.prog BinOp.add 3 false false t73 t65 fun t75 =>
  Pu Tryz.prog (Instr.sliceAt 39 t69 none (some t75) none) fun t76 =>
  CallF Tryz.prog F_slices_Clone_byte_byte #[t76] (World.drew (World.drew w_9)) fun t77 w_10 =>
  Pu Tryz.prog (Instr.fieldAt 45 t3 2) fun t78 =>
  Rd Tryz.prog (Instr.loadAt 3 t78) w_10 fun t79 =>
  BltP Tryz.prog Builtin.max #[3, 3] 3 #[false, true] #[t79, (Value.int IntKind.i64 0)] fun t80 =>
  BltP Tryz.prog Builtin.min #[3, 3] 3 #[false, false] #[t80, t65] fun t82 =>
  ∃ (J_2 : Value → World → Prop) (M_2 : Value → World → Nat), J_2 (Value.int IntKind.i64 0) w_10 ∧ ∀ (t83 : Value) (w_11 : World), J_2 t83 w_11 →
  Bin Tryz.prog BinOp.lss 3 false false t83 t82 fun t84 =>
  Cond t84 (
  BltR Tryz.prog Builtin.len #[39] 3 #[false] #[t77] w_11 fun t88 =>
  Bin Tryz.prog BinOp.sub 3 false true t88 (Value.int IntKind.i64 1) fun t89 =>
  Bin Tryz.prog BinOp.sub 3 false false t89 t83 fun t91 =>
  Pu Tryz.prog (Instr.indexAt 39 t77 t91) fun t92 =>
  Rd Tryz.prog (Instr.loadAt 5 t92) w_11 fun t93 =>
  Bin Tryz.prog BinOp.xor 5 false true t93 (Value.int IntKind.u8 255) fun t94 =>
  Pu Tryz.prog (Instr.indexAt 39 t77 t91) fun t95 =>
  Do Tryz.prog (Instr.storeAt 5 t95 t94) w_11 fun _ w_12 =>
  Bin Tryz.prog BinOp.add 3 false true t83 (Value.int IntKind.i64 1) fun t96 =>
  J_2 t96 w_12 ∧ M_2 t96 w_12 < M_2 t83 w_11) (
  nilOk t44 ∧
  Pu Tryz.prog (Instr.fieldAt 76 t44 0) fun t99 =>
  Rd Tryz.prog (Instr.loadAt 73 t99) w_11 fun t100 =>
  BltR Tryz.prog Builtin.len #[39] 3 #[false] #[t77] w_11 fun t104 =>
  Pu Tryz.prog (Instr.build 97 #[(0, t77), (1, t104)]) fun t105 =>
  Do Tryz.prog (Instr.box 97 t105) w_11 fun t106 w_13 =>
  Do Tryz.prog (Instr.mapUpdate 73 t100 t50 t106) w_13 fun _ w_14 =>
  J_1 w_14 ∧ M_1 w_14 < M_1 w_7)) (
  nilOk t44 ∧
  Pu Tryz.prog (Instr.fieldAt 76 t44 0) fun t110 =>
  Rd Tryz.prog (Instr.loadAt 73 t110) w_8 fun t111 =>
  CallF Tryz.prog F_maps_Clone_disk_directory_string_disk_file #[t111] w_8 fun t112 w_15 =>
  nilOk t44 ∧
  Pu Tryz.prog (Instr.fieldAt 76 t44 1) fun t114 =>
  Do Tryz.prog (Instr.storeAt 73 t114 t112) w_15 fun _ w_16 =>
  K t44 w_16)))
def N_disk_Disk_Crash : Note := (.seq .leaf (.seq (.seq .leaf (.cond (.seq .leaf .leaf) .leaf)) (.seq .leaf (.seq (.seq (.draw [[], [], [], [], [], [], [], [], [], [], [], [], [], [], [], []] [] (.step 0 (.step 1 (.step 2 (.step 3 (.step 4 (.step 5 (.step 6 (.step 7 (.step 8 (.step 9 (.step 10 (.step 11 (.step 12 (.step 13 (.step 14 (.step 15 .nil))))))))))))))))) (.sub (.loop [36] (.seq .leaf (.seq (.cond .leaf .leaf) (.seq (.sub (.seq .leaf .leaf)) .leaf)))))) (.seq .leaf (.seq (.seq .leaf (.sub (.loop [] (.seq .leaf (.seq (.cond .leaf .leaf) (.sub (.seq .leaf (.seq (.draw [[], [], [], [], [], [], [], [], [], [], [], [], [], [], []] [] (.step 0 (.step 1 (.step 2 (.step 3 (.step 4 (.step 5 (.step 6 (.step 7 (.step 8 (.step 9 (.step 10 (.step 11 (.step 12 (.step 13 (.step 14 .nil)))))))))))))))) (.seq (.draw [[], [], [], [], [], [], [], [], [], [], [], [8, 4, 5, 6, 7, 9, 0, 1, 2, 3, 10], []] [] (.step 0 (.step 1 (.step 2 (.step 3 (.step 4 (.step 5 (.step 6 (.step 7 (.step 8 (.step 9 (.step 10 (.step 11 (.step 12 .nil)))))))))))))) (.seq (.seq .leaf (.sub (.loop [83] (.seq .leaf (.seq (.cond .leaf .leaf) (.seq (.sub (.seq .leaf .leaf)) .leaf)))))) .leaf)))))))))) (.seq .leaf (.seq .leaf .leaf))))))))
theorem h_disk_Disk_Crash (t0 : Value) (t1 : Value) (K : Value → World → Prop) (w : World) : H_disk_Disk_Crash t0 t1 K w = top Tryz.prog Tryz.f22 N_disk_Disk_Crash [t0, t1] K w := by kernel_rfl
theorem c_disk_Disk_Crash {t0 t1 : Value} {K : Value → World → Prop} {w : World} (h : H_disk_Disk_Crash t0 t1 K w) : Runs Tryz.prog F_disk_Disk_Crash #[t0, t1] w K := calls_of_top mixed Tryz.func22 (h_disk_Disk_Crash t0 t1 K w ▸ h)

/-- (*varve/disk.Disk).Ops -/
def H_disk_Disk_Ops (t0 : Value) (K : Value → World → Prop) (w : World) : Prop :=
  Bin Tryz.prog BinOp.eql 26 false true t0 (Value.pointer none) fun t4 =>
  Cond t4 (
  K (Value.int IntKind.i64 0) w) (
  nilOk t0 ∧
  Pu Tryz.prog (Instr.fieldAt 76 t0 3) fun t7 =>
  Rd Tryz.prog (Instr.loadAt 3 t7) w fun t8 =>
  K t8 w)
def N_disk_Disk_Ops : Note := (.seq .leaf (.seq (.seq .leaf (.cond (.seq .leaf .leaf) .leaf)) (.seq .leaf .leaf)))
theorem h_disk_Disk_Ops (t0 : Value) (K : Value → World → Prop) (w : World) : H_disk_Disk_Ops t0 K w = top Tryz.prog Tryz.f24 N_disk_Disk_Ops [t0] K w := by kernel_rfl
theorem c_disk_Disk_Ops {t0 : Value} {K : Value → World → Prop} {w : World} (h : H_disk_Disk_Ops t0 K w) : Runs Tryz.prog F_disk_Disk_Ops #[t0] w K := calls_of_top mixed Tryz.func24 (h_disk_Disk_Ops t0 K w ▸ h)

/-- (*varve/wal.Log).Rotate -/
def H_wal_Log_Rotate (t0 : Value) (K : Value → World → Prop) (w : World) : Prop :=
  Bin Tryz.prog BinOp.eql 28 false true t0 (Value.pointer none) fun t5 =>
  Cond t5 (
  K (Value.tuple #[(Value.int IntKind.i64 0), (Value.int IntKind.i64 1)]) w) (
  ∃ (J : World → Prop) (M : World → Nat), J w ∧ ∀ (w_1 : World), J w_1 →
  ∀ J_1 : Value → World → Prop, (∀ (t17 : Value) (w_2 : World), (
  Cond t17 (
  CallF Tryz.prog F_wal_Log_next #[t0] w_2 fun t19 w_3 =>
  J w_3 ∧ M w_3 < M w_1) (
  ∀ J_2 : World → Prop, (∀ (w_4 : World), (
  nilOk t0 ∧
  Pu Tryz.prog (Instr.fieldAt 82 t0 6) fun t34 =>
  Rd Tryz.prog (Instr.loadAt 30 t34) w_4 fun t35 =>
  Bin Tryz.prog BinOp.neq 30 false true t35 (Value.int IntKind.i64 0) fun t36 =>
  Cond t36 (
  nilOk t0 ∧
  Pu Tryz.prog (Instr.fieldAt 82 t0 6) fun t39 =>
  Rd Tryz.prog (Instr.loadAt 30 t39) (World.drew w_4) fun t40 =>
  K (Value.tuple #[(Value.int IntKind.i64 0), t40]) (World.drew w_4)) (
  nilOk t0 ∧
  Pu Tryz.prog (Instr.fieldAt 82 t0 0) fun t43 =>
  Pu Tryz.prog (Instr.fieldAt 79 t43 1) fun t44 =>
  Rd Tryz.prog (Instr.loadAt 3 t44) w_4 fun t45 =>
  K (Value.tuple #[t45, (Value.int IntKind.i64 0)]) w_4)) → J_2 w_4) →
  nilOk t0 ∧
  Pu Tryz.prog (Instr.fieldAt 82 t0 6) fun t22 =>
  Rd Tryz.prog (Instr.loadAt 30 t22) w_2 fun t23 =>
  Bin Tryz.prog BinOp.eql 30 false true t23 (Value.int IntKind.i64 0) fun t24 =>
  Cond t24 (
  nilOk t0 ∧
  Pu Tryz.prog (Instr.fieldAt 82 t0 0) fun t28 =>
  CallF Tryz.prog F_wal_tail_begin #[t28] w_2 fun t29 w_5 =>
  nilOk t0 ∧
  Pu Tryz.prog (Instr.fieldAt 82 t0 6) fun t31 =>
  Do Tryz.prog (Instr.storeAt 30 t31 t29) w_5 fun _ w_6 =>
  J_2 w_6) (
  J_2 w_2))) → J_1 t17 w_2) →
  nilOk t0 ∧
  Pu Tryz.prog (Instr.fieldAt 82 t0 6) fun t8 =>
  Rd Tryz.prog (Instr.loadAt 30 t8) w_1 fun t9 =>
  Bin Tryz.prog BinOp.eql 30 false true t9 (Value.int IntKind.i64 0) fun t10 =>
  Gate t10 true (
  nilOk t0 ∧
  Pu Tryz.prog (Instr.fieldAt 82 t0 3) fun t14 =>
  Rd Tryz.prog (Instr.loadAt 3 t14) w_1 fun t15 =>
  Bin Tryz.prog BinOp.gtr 3 false true t15 (Value.int IntKind.i64 0) fun t16 =>
  J_1 t16 w_1) (
  J_1 (Value.bool false) w_1))
def N_wal_Log_Rotate : Note := (.seq .leaf (.seq (.seq .leaf (.cond (.seq .leaf .leaf) .leaf)) (.seq (.sub (.loop [] (.seq (.join [17] .leaf (.cond .leaf .leaf)) (.sub .leaf)))) (.join [] (.seq .leaf (.cond .leaf .leaf)) (.seq (.seq .leaf (.cond (.seq (.draw [[], [], [], [], [], []] [] (.step 0 (.step 1 (.step 2 (.step 3 (.step 4 (.step 5 .nil))))))) .leaf) .leaf)) (.seq .leaf .leaf))))))
theorem h_wal_Log_Rotate (t0 : Value) (K : Value → World → Prop) (w : World) : H_wal_Log_Rotate t0 K w = top Tryz.prog Tryz.f25 N_wal_Log_Rotate [t0] K w := by kernel_rfl
theorem c_wal_Log_Rotate {t0 : Value} {K : Value → World → Prop} {w : World} (h : H_wal_Log_Rotate t0 K w) : Runs Tryz.prog F_wal_Log_Rotate #[t0] w K := calls_of_top mixed Tryz.func25 (h_wal_Log_Rotate t0 K w ▸ h)

/-- (*varve/wal.Log).Drop -/
def H_wal_Log_Drop (t0 : Value) (t1 : Value) (K : Value → World → Prop) (w : World) : Prop :=
  Bin Tryz.prog BinOp.eql 28 false true t0 (Value.pointer none) fun t9 =>
  Cond t9 (
  K (Value.tuple #[(Value.bool false), (Value.int IntKind.i64 1)]) w) (
  nilOk t0 ∧
  Pu Tryz.prog (Instr.fieldAt 82 t0 6) fun t13 =>
  Rd Tryz.prog (Instr.loadAt 30 t13) w fun t14 =>
  Bin Tryz.prog BinOp.neq 30 false true t14 (Value.int IntKind.i64 0) fun t15 =>
  Cond t15 (
  nilOk t0 ∧
  Pu Tryz.prog (Instr.fieldAt 82 t0 6) fun t18 =>
  Rd Tryz.prog (Instr.loadAt 30 t18) (World.drew w) fun t19 =>
  K (Value.tuple #[(Value.bool false), t19]) (World.drew w)) (
  ∀ J : Value → World → Prop, (∀ (t20 : Value) (w_1 : World), (
  Cond t20 (
  K (Value.tuple #[(Value.bool false), (Value.int IntKind.i64 2)]) w_1) (
  ∀ J_1 : World → Prop, (∀ (w_2 : World), (
  nilOk t0 ∧
  Pu Tryz.prog (Instr.fieldAt 82 t0 6) fun t53 =>
  Rd Tryz.prog (Instr.loadAt 30 t53) (World.drew w_2) fun t54 =>
  Bin Tryz.prog BinOp.eql 30 false true t54 (Value.int IntKind.i64 0) fun t55 =>
  Gate t55 true (
  nilOk t0 ∧
  Pu Tryz.prog (Instr.fieldAt 82 t0 6) fun t65 =>
  Rd Tryz.prog (Instr.loadAt 30 t65) (World.drew w_2) fun t66 =>
  CallF Tryz.prog F_wal_Log_below #[t0, t1] (World.drew w_2) fun t59 w_3 =>
  ((Instr.loadAt 30 t65)).run Tryz.prog w_3 = .ok t66 w_3 ∧
  BltR Tryz.prog Builtin.len #[83] 3 #[false] #[t59] w_3 fun t60 =>
  Bin Tryz.prog BinOp.eql 3 false true t60 (Value.int IntKind.i64 0) fun t61 =>
  K (Value.tuple #[t61, t66]) w_3) (
  nilOk t0 ∧
  Pu Tryz.prog (Instr.fieldAt 82 t0 6) fun t65_1 =>
  Rd Tryz.prog (Instr.loadAt 30 t65_1) (World.drew w_2) fun t66_1 =>
  ((Instr.loadAt 30 t65_1)).run Tryz.prog (World.drew w_2) = .ok t66_1 (World.drew w_2) ∧
  K (Value.tuple #[(Value.bool false), t66_1]) (World.drew w_2))) → J_1 w_2) →
  CallF Tryz.prog F_wal_Log_below #[t0, t1] w_1 fun t34 w_4 =>
  BltR Tryz.prog Builtin.len #[83] 3 #[false] #[t34] w_4 fun t36 =>
  Bin Tryz.prog BinOp.gtr 3 false true t36 (Value.int IntKind.i64 0) fun t37 =>
  Cond t37 (
  nilOk t0 ∧
  Pu Tryz.prog (Instr.fieldAt 82 t0 0) fun t41 =>
  Pu Tryz.prog (Instr.fieldAt 79 t41 0) fun t42 =>
  Rd Tryz.prog (Instr.loadAt 26 t42) (World.drew w_4) fun t43 =>
  Pu Tryz.prog (Instr.indexAt 83 t34 (Value.int IntKind.i64 0)) fun t45 =>
  Rd Tryz.prog (Instr.loadAt 3 t45) (World.drew w_4) fun t46 =>
  CallF Tryz.prog F_wal_Name #[t46] (World.drew w_4) fun t47 w_5 =>
  ((Instr.loadAt 26 t42)).run Tryz.prog w_5 = .ok t43 w_5 ∧
  CallF Tryz.prog F_disk_Disk_Delete #[t43, t47] w_5 fun t48 w_6 =>
  nilOk t0 ∧
  Pu Tryz.prog (Instr.fieldAt 82 t0 6) fun t50 =>
  Do Tryz.prog (Instr.storeAt 30 t50 t48) w_6 fun _ w_7 =>
  J_1 w_7) (
  J_1 w_4))) → J t20 w_1) →
  Bin Tryz.prog BinOp.lss 3 false true t1 (Value.int IntKind.i64 1) fun t22 =>
  Gate t22 false (
  nilOk t0 ∧
  Pu Tryz.prog (Instr.fieldAt 82 t0 0) fun t27 =>
  Pu Tryz.prog (Instr.fieldAt 79 t27 1) fun t28 =>
  Rd Tryz.prog (Instr.loadAt 3 t28) w fun t29 =>
  Bin Tryz.prog BinOp.gtr 3 false false t1 t29 fun t30 =>
  J t30 w) (
  J (Value.bool true) w)))
def N_wal_Log_Drop : Note := (.seq .leaf (.seq (.sub (.seq .leaf (.cond (.seq .leaf .leaf) (.seq .leaf (.cond (.seq (.draw [[], [], [], [], [], []] [] (.step 0 (.step 1 (.step 2 (.step 3 (.step 4 (.step 5 .nil))))))) .leaf) (.join [20] .leaf (.cond (.seq .leaf .leaf) .leaf))))))) (.join [] (.seq .leaf (.seq .leaf (.cond (.draw [[], [], [], [], [], [], [], [], [], [6, 7, 8], [6, 7, 8, 9, 1, 2, 3, 4, 5], [], [], [10, 9, 8, 7, 6, 5, 4, 3, 2, 1, 0, 11, 12]] [] (.step 0 (.step 1 (.step 2 (.step 3 (.step 4 (.step 5 (.step 6 (.step 7 (.step 8 (.step 9 (.step 10 (.step 11 (.step 12 (.step 13 .nil))))))))))))))) .leaf))) (.seq (.draw [[], [], [], [], [], [], [], [], [7, 0, 1, 2, 3, 4, 5, 6], [], [], [], [], [], [], [], [], []] [] (.step 0 (.step 1 (.step 2 (.step 3 (.step 4 (.step 5 (.step 6 (.step 7 (.step 12 (.step 13 (.step 14 (.step 15 (.step 8 (.step 9 (.step 10 (.step 11 (.step 16 (.step 17 .nil))))))))))))))))))) .leaf))))
theorem h_wal_Log_Drop (t0 : Value) (t1 : Value) (K : Value → World → Prop) (w : World) : H_wal_Log_Drop t0 t1 K w = top Tryz.prog Tryz.f26 N_wal_Log_Drop [t0, t1] K w := by kernel_rfl
theorem c_wal_Log_Drop {t0 t1 : Value} {K : Value → World → Prop} {w : World} (h : H_wal_Log_Drop t0 t1 K w) : Runs Tryz.prog F_wal_Log_Drop #[t0, t1] w K := calls_of_top mixed Tryz.func26 (h_wal_Log_Drop t0 t1 K w ▸ h)

/-- (*varve/disk.Disk).SyncDir -/
def H_disk_Disk_SyncDir (t0 : Value) (K : Value → World → Prop) (w : World) : Prop :=
  CallF Tryz.prog F_disk_Disk_refused #[t0, (Value.bool false), (Value.slice none 0 0)] w fun t5 w_1 =>
  Bin Tryz.prog BinOp.eql 30 false true t5 (Value.int IntKind.i64 0) fun t7 =>
  Cond t7 (
  nilOk t0 ∧
  Pu Tryz.prog (Instr.fieldAt 76 t0 0) fun t12 =>
  Rd Tryz.prog (Instr.loadAt 73 t12) w_1 fun t13 =>
  CallF Tryz.prog F_maps_Clone_disk_directory_string_disk_file #[t13] w_1 fun t14 w_2 =>
  nilOk t0 ∧
  Pu Tryz.prog (Instr.fieldAt 76 t0 1) fun t16 =>
  Do Tryz.prog (Instr.storeAt 73 t16 t14) w_2 fun _ w_3 =>
  nilOk t0 ∧
  Pu Tryz.prog (Instr.fieldAt 76 t0 2) fun t18 =>
  Do Tryz.prog (Instr.storeAt 74 t18 (Value.slice none 0 0)) w_3 fun _ w_4 =>
  nilOk t0 ∧
  Pu Tryz.prog (Instr.fieldAt 76 t0 3) fun t21 =>
  Rd Tryz.prog (Instr.loadAt 3 t21) w_4 fun t22 =>
  Bin Tryz.prog BinOp.add 3 false true t22 (Value.int IntKind.i64 1) fun t23 =>
  nilOk t0 ∧
  Pu Tryz.prog (Instr.fieldAt 76 t0 3) fun t25 =>
  Do Tryz.prog (Instr.storeAt 3 t25 t23) w_4 fun _ w_5 =>
  K t5 w_5) (
  K t5 w_1)
def N_disk_Disk_SyncDir : Note := (.seq .leaf (.seq .leaf (.seq (.seq .leaf (.cond (.seq .leaf .leaf) .leaf)) (.seq .leaf .leaf))))
theorem h_disk_Disk_SyncDir (t0 : Value) (K : Value → World → Prop) (w : World) : H_disk_Disk_SyncDir t0 K w = top Tryz.prog Tryz.f27 N_disk_Disk_SyncDir [t0] K w := by kernel_rfl
theorem c_disk_Disk_SyncDir {t0 : Value} {K : Value → World → Prop} {w : World} (h : H_disk_Disk_SyncDir t0 K w) : Runs Tryz.prog F_disk_Disk_SyncDir #[t0] w K := calls_of_top mixed Tryz.func27 (h_disk_Disk_SyncDir t0 K w ▸ h)

/-- (*varve/wal.Log).Put -/
def H_wal_Log_Put (t0 : Value) (t1 : Value) (K : Value → World → Prop) (w : World) : Prop :=
  Do Tryz.prog (Instr.box 65 t1) w fun t3 w_1 =>
  Bin Tryz.prog BinOp.eql 28 false true t0 (Value.pointer none) fun t10 =>
  Cond t10 (
  K (Value.tuple #[(Value.int IntKind.i64 0), (Value.int IntKind.i64 1)]) w_1) (
  nilOk t0 ∧
  Pu Tryz.prog (Instr.fieldAt 82 t0 6) fun t14 =>
  Rd Tryz.prog (Instr.loadAt 30 t14) w_1 fun t15 =>
  Bin Tryz.prog BinOp.neq 30 false true t15 (Value.int IntKind.i64 0) fun t16 =>
  Cond t16 (
  nilOk t0 ∧
  Pu Tryz.prog (Instr.fieldAt 82 t0 6) fun t19 =>
  Rd Tryz.prog (Instr.loadAt 30 t19) (World.drew w_1) fun t20 =>
  K (Value.tuple #[(Value.int IntKind.i64 0), t20]) (World.drew w_1)) (
  Rd Tryz.prog (Instr.loadAt 65 t3) w_1 fun t22 =>
  CallF Tryz.prog F_record_PutCommit #[t22] w_1 fun t23 w_2 =>
  Pu Tryz.prog (Instr.extract t23 0) fun t24 =>
  Pu Tryz.prog (Instr.extract t23 1) fun t25 =>
  Bin Tryz.prog BinOp.neq 30 false true t25 (Value.int IntKind.i64 0) fun t27 =>
  Cond t27 (
  K (Value.tuple #[(Value.int IntKind.i64 0), (Value.int IntKind.i64 80)]) w_2) (
  nilOk t0 ∧
  Pu Tryz.prog (Instr.fieldAt 82 t0 1) fun t31 =>
  Rd Tryz.prog (Instr.loadAt 80 t31) w_2 fun t32 =>
  Do Tryz.prog (Instr.buildSlice 80 1 #[(0, t24)]) w_2 fun t34 w_3 =>
  BltD Tryz.prog Builtin.append #[80, 80] 80 #[false, false] #[t32, t34] w_3 fun t35 w_4 =>
  nilOk t0 ∧
  Pu Tryz.prog (Instr.fieldAt 82 t0 1) fun t37 =>
  Do Tryz.prog (Instr.storeAt 80 t37 t35) w_4 fun _ w_5 =>
  nilOk t0 ∧
  Pu Tryz.prog (Instr.fieldAt 82 t0 4) fun t40 =>
  Rd Tryz.prog (Instr.loadAt 3 t40) w_5 fun t41 =>
  Bin Tryz.prog BinOp.add 3 false true t41 (Value.int IntKind.i64 1) fun t42 =>
  nilOk t0 ∧
  Pu Tryz.prog (Instr.fieldAt 82 t0 4) fun t44 =>
  Do Tryz.prog (Instr.storeAt 3 t44 t42) w_5 fun _ w_6 =>
  nilOk t0 ∧
  Pu Tryz.prog (Instr.fieldAt 82 t0 4) fun t47 =>
  Rd Tryz.prog (Instr.loadAt 3 t47) w_6 fun t48 =>
  K (Value.tuple #[t48, (Value.int IntKind.i64 0)]) w_6)))
def N_wal_Log_Put : Note := (.seq .leaf (.seq (.sub (.seq .leaf (.cond (.seq .leaf .leaf) (.seq .leaf (.cond (.seq (.draw [[], [], [], [], [], []] [] (.step 0 (.step 1 (.step 2 (.step 3 (.step 4 (.step 5 .nil))))))) .leaf) .leaf))))) (.seq .leaf (.seq (.seq .leaf (.cond (.seq .leaf .leaf) .leaf)) (.seq .leaf (.seq .leaf (.seq .leaf .leaf)))))))
theorem h_wal_Log_Put (t0 : Value) (t1 : Value) (K : Value → World → Prop) (w : World) : H_wal_Log_Put t0 t1 K w = top Tryz.prog Tryz.f33 N_wal_Log_Put [t0, t1] K w := by kernel_rfl
theorem c_wal_Log_Put {t0 t1 : Value} {K : Value → World → Prop} {w : World} (h : H_wal_Log_Put t0 t1 K w) : Runs Tryz.prog F_wal_Log_Put #[t0, t1] w K := calls_of_top mixed Tryz.func33 (h_wal_Log_Put t0 t1 K w ▸ h)

/-- (*varve/wal.Log).Flush -/
def H_wal_Log_Flush (t0 : Value) (K : Value → World → Prop) (w : World) : Prop :=
  Bin Tryz.prog BinOp.eql 28 false true t0 (Value.pointer none) fun t6 =>
  Cond t6 (
  K (Value.tuple #[(Value.bool false), (Value.int IntKind.i64 1)]) w) (
  nilOk t0 ∧
  Pu Tryz.prog (Instr.fieldAt 82 t0 6) fun t10 =>
  Rd Tryz.prog (Instr.loadAt 30 t10) w fun t11 =>
  Bin Tryz.prog BinOp.neq 30 false true t11 (Value.int IntKind.i64 0) fun t12 =>
  Cond t12 (
  nilOk t0 ∧
  Pu Tryz.prog (Instr.fieldAt 82 t0 6) fun t15 =>
  Rd Tryz.prog (Instr.loadAt 30 t15) (World.drew w) fun t16 =>
  K (Value.tuple #[(Value.bool false), t16]) (World.drew w)) (
  CallF Tryz.prog F_wal_Log_next #[t0] w fun t18 w_1 =>
  nilOk t0 ∧
  Pu Tryz.prog (Instr.fieldAt 82 t0 6) fun t21 =>
  Rd Tryz.prog (Instr.loadAt 30 t21) (World.drew w_1) fun t22 =>
  Bin Tryz.prog BinOp.eql 30 false true t22 (Value.int IntKind.i64 0) fun t23 =>
  Gate t23 true (
  nilOk t0 ∧
  Pu Tryz.prog (Instr.fieldAt 82 t0 3) fun t27 =>
  Rd Tryz.prog (Instr.loadAt 3 t27) (World.drew w_1) fun t28 =>
  Bin Tryz.prog BinOp.eql 3 false true t28 (Value.int IntKind.i64 0) fun t29 =>
  Gate t29 true (
  nilOk t0 ∧
  Pu Tryz.prog (Instr.fieldAt 82 t0 1) fun t34 =>
  Rd Tryz.prog (Instr.loadAt 80 t34) (World.drew w_1) fun t35 =>
  BltR Tryz.prog Builtin.len #[80] 3 #[false] #[t35] (World.drew w_1) fun t36 =>
  Bin Tryz.prog BinOp.eql 3 false true t36 (Value.int IntKind.i64 0) fun t37 =>
  nilOk t0 ∧
  Pu Tryz.prog (Instr.fieldAt 82 t0 6) fun t41 =>
  Rd Tryz.prog (Instr.loadAt 30 t41) (World.drew w_1) fun t42 =>
  K (Value.tuple #[t37, t42]) (World.drew w_1)) (
  nilOk t0 ∧
  Pu Tryz.prog (Instr.fieldAt 82 t0 6) fun t41_1 =>
  Rd Tryz.prog (Instr.loadAt 30 t41_1) (World.drew w_1) fun t42_1 =>
  K (Value.tuple #[(Value.bool false), t42_1]) (World.drew w_1))) (
  nilOk t0 ∧
  Pu Tryz.prog (Instr.fieldAt 82 t0 6) fun t41_2 =>
  Rd Tryz.prog (Instr.loadAt 30 t41_2) (World.drew w_1) fun t42_2 =>
  K (Value.tuple #[(Value.bool false), t42_2]) (World.drew w_1))))
def N_wal_Log_Flush : Note := (.seq .leaf (.seq (.sub (.seq .leaf (.cond (.seq .leaf .leaf) (.seq .leaf (.cond (.seq (.draw [[], [], [], [], [], []] [] (.step 0 (.step 1 (.step 2 (.step 3 (.step 4 (.step 5 .nil))))))) .leaf) .leaf))))) (.seq .leaf (.seq (.draw [[], [], [], [], [], [], [], [], [], [], [], [], [], [], [], [], [], [], [], [], [], [], [], [], [], []] [] (.step 0 (.step 1 (.step 2 (.step 3 (.step 4 (.step 5 (.step 6 (.step 7 (.step 8 (.step 9 (.step 10 (.step 11 (.step 12 (.step 13 (.step 14 (.step 15 (.step 16 (.step 17 (.step 18 (.step 19 (.step 20 (.step 21 (.step 22 (.step 23 (.step 24 (.step 25 .nil))))))))))))))))))))))))))) .leaf))))
theorem h_wal_Log_Flush (t0 : Value) (K : Value → World → Prop) (w : World) : H_wal_Log_Flush t0 K w = top Tryz.prog Tryz.f35 N_wal_Log_Flush [t0] K w := by kernel_rfl
theorem c_wal_Log_Flush {t0 : Value} {K : Value → World → Prop} {w : World} (h : H_wal_Log_Flush t0 K w) : Runs Tryz.prog F_wal_Log_Flush #[t0] w K := calls_of_top mixed Tryz.func35 (h_wal_Log_Flush t0 K w ▸ h)

/-- varve/wal.segments -/
def H_wal_segments (t0 : Value) (K : Value → World → Prop) (w : World) : Prop :=
  CallF Tryz.prog F_disk_Disk_Names #[t0] w fun t8 w_1 =>
  BltR Tryz.prog Builtin.len #[36] 3 #[false] #[t8] w_1 fun t9 =>
  ∃ (J : Value → Value → World → Prop) (M : Value → Value → World → Nat), J (Value.slice none 0 0) (Value.int IntKind.i64 0) w_1 ∧ ∀ (t3 : Value) (t10 : Value) (w_2 : World), J t3 t10 w_2 →
  Bin Tryz.prog BinOp.lss 3 false false t10 t9 fun t11 =>
  Cond t11 (
  Pu Tryz.prog (Instr.indexAt 36 t8 t10) fun t12 =>
  Rd Tryz.prog (Instr.loadAt 9 t12) w_2 fun t13 =>
  CallF Tryz.prog F_wal_number #[t13] w_2 fun t15 w_3 =>
  Bin Tryz.prog BinOp.gtr 3 false true t15 (Value.int IntKind.i64 0) fun t17 =>
  Cond t17 (
  Do Tryz.prog (Instr.buildSlice 83 1 #[(0, t15)]) w_3 fun t20 w_4 =>
  BltD Tryz.prog Builtin.append #[83, 83] 83 #[false, false] #[t3, t20] w_4 fun t21 w_5 =>
  Bin Tryz.prog BinOp.add 3 false true t10 (Value.int IntKind.i64 1) fun t22 =>
  J t21 t22 w_5 ∧ M t21 t22 w_5 < M t3 t10 w_2) (
  Bin Tryz.prog BinOp.add 3 false true t10 (Value.int IntKind.i64 1) fun t22_1 =>
  J t3 t22_1 w_3 ∧ M t3 t22_1 w_3 < M t3 t10 w_2)) (
  CallF Tryz.prog F_slices_Sort_int_int #[t3] w_2 fun t24 w_6 =>
  K t3 w_6)
def N_wal_segments : Note := (.seq .leaf (.seq .leaf (.seq (.seq .leaf (.sub (.loop [3, 10] (.seq .leaf (.seq (.cond .leaf .leaf) (.seq (.sub (.seq .leaf (.seq .leaf (.seq .leaf (.cond .leaf .leaf))))) .leaf)))))) (.seq .leaf (.seq .leaf .leaf)))))
theorem h_wal_segments (t0 : Value) (K : Value → World → Prop) (w : World) : H_wal_segments t0 K w = top Tryz.prog Tryz.f38 N_wal_segments [t0] K w := by kernel_rfl
theorem c_wal_segments {t0 : Value} {K : Value → World → Prop} {w : World} (h : H_wal_segments t0 K w) : Runs Tryz.prog F_wal_segments #[t0] w K := calls_of_top mixed Tryz.func38 (h_wal_segments t0 K w ▸ h)

/-- (*varve/wal.tail).name -/
def H_wal_tail_name (t0 : Value) (K : Value → World → Prop) (w : World) : Prop :=
  nilOk t0 ∧
  Pu Tryz.prog (Instr.fieldAt 79 t0 1) fun t5 =>
  Rd Tryz.prog (Instr.loadAt 3 t5) w fun t6 =>
  CallF Tryz.prog F_wal_Name #[t6] w fun t7 w_1 =>
  K t7 w_1
def N_wal_tail_name : Note := (.seq .leaf (.seq .leaf .leaf))
theorem h_wal_tail_name (t0 : Value) (K : Value → World → Prop) (w : World) : H_wal_tail_name t0 K w = top Tryz.prog Tryz.f39 N_wal_tail_name [t0] K w := by kernel_rfl
theorem c_wal_tail_name {t0 : Value} {K : Value → World → Prop} {w : World} (h : H_wal_tail_name t0 K w) : Runs Tryz.prog F_wal_tail_name #[t0] w K := calls_of_top mixed Tryz.func39 (h_wal_tail_name t0 K w ▸ h)

/-- (*varve/wal.tail).read -/
def H_wal_tail_read (t0 : Value) (t1 : Value) (t2 : Value) (K : Value → World → Prop) (w : World) : Prop :=
  CallF Tryz.prog F_frame_Take #[t1, (Value.int IntKind.i64 0)] w fun t24 w_1 =>
  Pu Tryz.prog (Instr.extract t24 0) fun t25 =>
  Pu Tryz.prog (Instr.extract t24 1) fun t26 =>
  Pu Tryz.prog (Instr.extract t24 2) fun t27 =>
  Pu Tryz.prog (Instr.extract t24 3) fun t28 =>
  ∀ J : Value → World → Prop, (∀ (t40 : Value) (w_2 : World), (
  Cond t40 (
  K (Value.tuple #[(Value.slice none 0 0), (Value.int IntKind.i64 0), (Value.int IntKind.i64 81)]) w_2) (
  ∀ J_1 : World → Prop, (∀ (w_3 : World), (
  nilOk t0 ∧
  Pu Tryz.prog (Instr.fieldAt 79 t0 2) fun t50 =>
  Rd Tryz.prog (Instr.loadAt 77 t50) w_3 fun t51 =>
  CallF Tryz.prog F_frame_All #[t1, t51] w_3 fun t52 w_4 =>
  Pu Tryz.prog (Instr.extract t52 0) fun t53 =>
  Pu Tryz.prog (Instr.extract t52 1) fun t54 =>
  Pu Tryz.prog (Instr.extract t52 2) fun t55 =>
  Bin Tryz.prog BinOp.neq 30 false true t55 (Value.int IntKind.i64 0) fun t57 =>
  Cond t57 (
  K (Value.tuple #[(Value.slice none 0 0), (Value.int IntKind.i64 0), (Value.int IntKind.i64 81)]) w_4) (
  BltR Tryz.prog Builtin.len #[80] 3 #[false] #[t53] w_4 fun t59 =>
  ∃ (J_2 : Value → Value → World → Prop) (M : Value → Value → World → Nat), J_2 (Value.slice none 0 0) (Value.int IntKind.i64 0) w_4 ∧ ∀ (t16 : Value) (t60 : Value) (w_5 : World), J_2 t16 t60 w_5 →
  Bin Tryz.prog BinOp.lss 3 false false t60 t59 fun t61 =>
  Cond t61 (
  Pu Tryz.prog (Instr.indexAt 80 t53 t60) fun t63 =>
  Rd Tryz.prog (Instr.loadAt 39 t63) w_5 fun t64 =>
  ∀ J_3 : Value → World → Prop, (∀ (t65 : Value) (w_6 : World), (
  Cond t65 (
  K (Value.tuple #[(Value.slice none 0 0), (Value.int IntKind.i64 0), (Value.int IntKind.i64 81)]) w_6) (
  ∀ J_4 : Value → World → Prop, (∀ (t79 : Value) (w_7 : World), (
  Cond t79 (
  Bin Tryz.prog BinOp.add 3 false true t60 (Value.int IntKind.i64 1) fun t99 =>
  J_2 t16 t99 w_7 ∧ M t16 t99 w_7 < M t16 t60 w_5) (
  CallF Tryz.prog F_record_Commit #[t64] w_7 fun t89 w_8 =>
  Pu Tryz.prog (Instr.extract t89 0) fun t90 =>
  Pu Tryz.prog (Instr.extract t89 1) fun t91 =>
  Pu Tryz.prog (Instr.extract t89 2) fun t92 =>
  Do Tryz.prog (Instr.alloc 65 true (Value.tuple #[])) w_8 fun t19 w_9 =>
  Do Tryz.prog (Instr.storeAt 65 t19 t90) w_9 fun _ w_10 =>
  Bin Tryz.prog BinOp.neq 30 false true t92 (Value.int IntKind.i64 0) fun t94 =>
  Cond t94 (
  K (Value.tuple #[(Value.slice none 0 0), (Value.int IntKind.i64 0), (Value.int IntKind.i64 81)]) w_10) (
  Rd Tryz.prog (Instr.loadAt 65 t19) w_10 fun t96 =>
  Do Tryz.prog (Instr.buildSlice 29 1 #[(0, t96)]) w_10 fun t97 w_11 =>
  BltD Tryz.prog Builtin.append #[29, 29] 29 #[false, false] #[t16, t97] w_11 fun t98 w_12 =>
  Bin Tryz.prog BinOp.add 3 false true t60 (Value.int IntKind.i64 1) fun t99_1 =>
  J_2 t98 t99_1 w_12 ∧ M t98 t99_1 w_12 < M t16 t60 w_5))) → J_4 t79 w_7) →
  Bin Tryz.prog BinOp.eql 3 false true t60 (Value.int IntKind.i64 0) fun t81 =>
  Gate t81 false (
  BltR Tryz.prog Builtin.len #[39] 3 #[false] #[t64] w_6 fun t84 =>
  Bin Tryz.prog BinOp.eql 3 false true t84 (Value.int IntKind.i64 0) fun t85 =>
  J_4 t85 w_6) (
  J_4 (Value.bool true) w_6))) → J_3 t65 w_6) →
  Bin Tryz.prog BinOp.eql 3 false true t60 (Value.int IntKind.i64 0) fun t67 =>
  Gate t67 true (
  Rd Tryz.prog (convert 39 9 t64) (World.drew w_5) fun t70 =>
  nilOk t0 ∧
  Pu Tryz.prog (Instr.fieldAt 79 t0 1) fun t73 =>
  Rd Tryz.prog (Instr.loadAt 3 t73) (World.drew w_5) fun t74 =>
  CallF Tryz.prog F_wal_first #[t74] (World.drew w_5) fun t75 w_13 =>
  ((convert 39 9 t64)).run Tryz.prog w_13 = .ok t70 w_13 ∧
  Rd Tryz.prog (convert 39 9 t75) w_13 fun t76 =>
  Bin Tryz.prog BinOp.neq 9 false false t70 t76 fun t77 =>
  J_3 t77 w_13) (
  J_3 (Value.bool false) (World.drew w_5))) (
  nilOk t0 ∧
  Pu Tryz.prog (Instr.fieldAt 79 t0 2) fun t102 =>
  Rd Tryz.prog (Instr.loadAt 77 t102) w_5 fun t103 =>
  BltR Tryz.prog Builtin.len #[80] 3 #[false] #[t53] w_5 fun t105 =>
  Do Tryz.prog (convert 3 77 t105) w_5 fun t106 w_14 =>
  Bin Tryz.prog BinOp.add 77 false false t103 t106 fun t107 =>
  nilOk t0 ∧
  Pu Tryz.prog (Instr.fieldAt 79 t0 2) fun t109 =>
  Do Tryz.prog (Instr.storeAt 77 t109 t107) w_14 fun _ w_15 =>
  BltR Tryz.prog Builtin.len #[80] 3 #[false] #[t53] w_15 fun t112 =>
  K (Value.tuple #[t16, t112, (Value.int IntKind.i64 0)]) w_15))) → J_1 w_3) →
  Cond t28 (
  nilOk t0 ∧
  Pu Tryz.prog (Instr.fieldAt 79 t0 2) fun t45 =>
  Do Tryz.prog (Instr.storeAt 77 t45 t25) w_2 fun _ w_16 =>
  J_1 w_16) (
  J_1 w_2))) → J t40 w_2) →
  Gate t28 true (
  Gate t2 true (
  nilOk t0 ∧
  Pu Tryz.prog (Instr.fieldAt 79 t0 2) fun t37 =>
  Rd Tryz.prog (Instr.loadAt 77 t37) w_1 fun t38 =>
  Bin Tryz.prog BinOp.neq 77 false false t25 t38 fun t39 =>
  J t39 w_1) (
  J (Value.bool false) w_1)) (
  J (Value.bool false) w_1)
def N_wal_tail_read : Note := (.seq .leaf (.seq .leaf (.seq (.join [40] .leaf (.cond (.seq .leaf .leaf) .leaf)) (.join [] (.seq .leaf (.cond .leaf .leaf)) (.seq .leaf (.seq (.seq .leaf (.cond (.seq .leaf .leaf) .leaf)) (.seq .leaf (.seq (.seq .leaf (.sub (.loop [16, 60] (.seq .leaf (.seq (.cond .leaf .leaf) (.seq (.sub (.seq .leaf (.seq (.sub (.join [65] (.draw [[], [], [], [], [], [], [], [], [], [0, 1, 2, 5, 6, 7, 8], [], [], [], []] [4, 10] (.step 0 (.step 1 (.step 2 (.step 3 (.step 4 (.step 5 (.step 6 (.step 7 (.step 8 (.step 9 (.step 10 (.step 11 (.step 12 (.step 13 .nil))))))))))))))) (.cond (.seq .leaf .leaf) (.join [79] .leaf (.cond .leaf .leaf))))) (.seq .leaf (.seq (.seq .leaf (.cond (.seq .leaf .leaf) .leaf)) .leaf))))) .leaf)))))) (.seq .leaf (.seq .leaf .leaf))))))))))
theorem h_wal_tail_read (t0 : Value) (t1 : Value) (t2 : Value) (K : Value → World → Prop) (w : World) : H_wal_tail_read t0 t1 t2 K w = top Tryz.prog Tryz.f40 N_wal_tail_read [t0, t1, t2] K w := by kernel_rfl
theorem c_wal_tail_read {t0 t1 t2 : Value} {K : Value → World → Prop} {w : World} (h : H_wal_tail_read t0 t1 t2 K w) : Runs Tryz.prog F_wal_tail_read #[t0, t1, t2] w K := calls_of_top mixed Tryz.func40 (h_wal_tail_read t0 t1 t2 K w ▸ h)

/-- (*varve/wal.tail).begin -/
def H_wal_tail_begin (t0 : Value) (K : Value → World → Prop) (w : World) : Prop :=
  Do Tryz.prog (Instr.box 119 t0) w fun t1 w_1 =>
  Rd Tryz.prog (Instr.loadAt 119 t1) w_1 fun t6 =>
  nilOk t6 ∧
  Pu Tryz.prog (Instr.fieldAt 79 t6 1) fun t8 =>
  Rd Tryz.prog (Instr.loadAt 3 t8) w_1 fun t9 =>
  Bin Tryz.prog BinOp.add 3 false true t9 (Value.int IntKind.i64 1) fun t10 =>
  nilOk t6 ∧
  Pu Tryz.prog (Instr.fieldAt 79 t6 1) fun t12 =>
  Do Tryz.prog (Instr.storeAt 3 t12 t10) w_1 fun _ w_2 =>
  Rd Tryz.prog (Instr.loadAt 119 t1) (World.drew w_2) fun t14 =>
  Rd Tryz.prog (Instr.loadAt 119 t1) (World.drew w_2) fun t16 =>
  nilOk t16 ∧
  Pu Tryz.prog (Instr.fieldAt 79 t16 0) fun t18 =>
  Rd Tryz.prog (Instr.loadAt 26 t18) (World.drew w_2) fun t19 =>
  Do Tryz.prog (Instr.buildSlice 128 3 #[(0, (Value.func (Fn.func F_wal_tail_begin_1) #[] #[t1])), (1, (Value.func (Fn.func F_wal_tail_sync) #[t14] #[])), (2, (Value.func (Fn.func F_disk_Disk_SyncDir) #[t19] #[]))]) (World.drew w_2) fun t21 w_3 =>
  BltR Tryz.prog Builtin.len #[128] 3 #[false] #[t21] w_3 fun t22 =>
  ∃ (J : Value → World → Prop) (M : Value → World → Nat), J (Value.int IntKind.i64 0) w_3 ∧ ∀ (t23 : Value) (w_4 : World), J t23 w_4 →
  Bin Tryz.prog BinOp.lss 3 false false t23 t22 fun t24 =>
  Cond t24 (
  Pu Tryz.prog (Instr.indexAt 128 t21 t23) fun t25 =>
  Rd Tryz.prog (Instr.loadAt 54 t25) w_4 fun t26 =>
  CallV Tryz.prog t26 #[] w_4 fun t28 w_5 =>
  Bin Tryz.prog BinOp.neq 30 false true t28 (Value.int IntKind.i64 0) fun t30 =>
  Cond t30 (
  K t28 w_5) (
  Bin Tryz.prog BinOp.add 3 false true t23 (Value.int IntKind.i64 1) fun t32 =>
  J t32 w_5 ∧ M t32 w_5 < M t23 w_4)) (
  K (Value.int IntKind.i64 0) w_4)
def N_wal_tail_begin : Note := (.seq .leaf (.seq .leaf (.seq (.seq (.draw [[], [], [], [], [], [], [], [], [3, 4, 5, 6, 7, 1, 2, 0], [], []] [] (.step 0 (.step 1 (.step 2 (.step 3 (.step 4 (.step 5 (.step 6 (.step 7 (.step 10 (.step 8 (.step 9 .nil)))))))))))) (.sub (.loop [23] (.seq .leaf (.seq (.cond .leaf .leaf) (.seq (.sub (.seq .leaf (.seq .leaf (.seq .leaf (.cond (.seq .leaf .leaf) .leaf))))) .leaf)))))) (.seq .leaf .leaf))))
theorem h_wal_tail_begin (t0 : Value) (K : Value → World → Prop) (w : World) : H_wal_tail_begin t0 K w = top Tryz.prog Tryz.f41 N_wal_tail_begin [t0] K w := by kernel_rfl
theorem c_wal_tail_begin {t0 : Value} {K : Value → World → Prop} {w : World} (h : H_wal_tail_begin t0 K w) : Runs Tryz.prog F_wal_tail_begin #[t0] w K := calls_of_top mixed Tryz.func41 (h_wal_tail_begin t0 K w ▸ h)

/-- maps.Keys[varve/disk.directory,string,*varve/disk.file] -/
def H_maps_Keys_disk_directory_string_disk_file (t0 : Value) (K : Value → World → Prop) (w : World) : Prop :=
  Do Tryz.prog (Instr.box 73 t0) w fun t1 w_1 =>
  K (Value.func (Fn.func F_maps_Keys_disk_directory_string_disk_file_1) #[] #[t1]) w_1
def N_maps_Keys_disk_directory_string_disk_file : Note := (.seq .leaf (.seq .leaf .leaf))
theorem h_maps_Keys_disk_directory_string_disk_file (t0 : Value) (K : Value → World → Prop) (w : World) : H_maps_Keys_disk_directory_string_disk_file t0 K w = top Tryz.prog Tryz.f44 N_maps_Keys_disk_directory_string_disk_file [t0] K w := by kernel_rfl
theorem c_maps_Keys_disk_directory_string_disk_file {t0 : Value} {K : Value → World → Prop} {w : World} (h : H_maps_Keys_disk_directory_string_disk_file t0 K w) : Runs Tryz.prog F_maps_Keys_disk_directory_string_disk_file #[t0] w K := calls_of_top mixed Tryz.func44 (h_maps_Keys_disk_directory_string_disk_file t0 K w ▸ h)

/-- varve/disk.IsName -/
def H_disk_IsName (t0 : Value) (K : Value → World → Prop) (w : World) : Prop :=
  Bin Tryz.prog BinOp.neq 9 false true t0 (Value.string (ByteArray.mk #[])) fun t5 =>
  Gate t5 true (
  BltR Tryz.prog Builtin.len #[9] 3 #[false] #[t0] w fun t8 =>
  Bin Tryz.prog BinOp.leq 3 false true t8 (Value.int IntKind.i64 16) fun t9 =>
  Gate t9 true (
  CallF Tryz.prog F_strings_ContainsFunc #[t0, (Value.func (Fn.func F_disk_IsName_1) #[] #[])] w fun t14 w_1 =>
  Pu Tryz.prog (Op.unary UnOp.not t14) fun t15 =>
  K t15 w_1) (
  K (Value.bool false) w)) (
  K (Value.bool false) w)
def N_disk_IsName : Note := (.seq .leaf (.seq .leaf (.seq .leaf .leaf)))
theorem h_disk_IsName (t0 : Value) (K : Value → World → Prop) (w : World) : H_disk_IsName t0 K w = top Tryz.prog Tryz.f45 N_disk_IsName [t0] K w := by kernel_rfl
theorem c_disk_IsName {t0 : Value} {K : Value → World → Prop} {w : World} (h : H_disk_IsName t0 K w) : Runs Tryz.prog F_disk_IsName #[t0] w K := calls_of_top mixed Tryz.func45 (h_disk_IsName t0 K w ▸ h)

/-- maps.Clone[varve/disk.directory,string,*varve/disk.file] -/
def H_maps_Clone_disk_directory_string_disk_file (t0 : Value) (K : Value → World → Prop) (w : World) : Prop :=
  Bin Tryz.prog BinOp.eql 73 false true t0 (Value.map none) fun t4 =>
  Cond t4 (
  K (Value.map none) w) (
  Pu Tryz.prog (Instr.makeInterface 73 t0) fun t6 =>
  CallF Tryz.prog F_maps_clone #[t6] w fun t7 w_1 =>
  Rd Tryz.prog (Instr.typeAssert t7 20 73 false) w_1 fun t8 =>
  K t8 w_1)
def N_maps_Clone_disk_directory_string_disk_file : Note := (.seq .leaf (.seq (.seq .leaf (.cond (.seq .leaf .leaf) .leaf)) (.seq .leaf .leaf)))
theorem h_maps_Clone_disk_directory_string_disk_file (t0 : Value) (K : Value → World → Prop) (w : World) : H_maps_Clone_disk_directory_string_disk_file t0 K w = top Tryz.prog Tryz.f47 N_maps_Clone_disk_directory_string_disk_file [t0] K w := by kernel_rfl
theorem c_maps_Clone_disk_directory_string_disk_file {t0 : Value} {K : Value → World → Prop} {w : World} (h : H_maps_Clone_disk_directory_string_disk_file t0 K w) : Runs Tryz.prog F_maps_Clone_disk_directory_string_disk_file #[t0] w K := calls_of_top mixed Tryz.func47 (h_maps_Clone_disk_directory_string_disk_file t0 K w ▸ h)

/-- (*varve/wal.Log).next -/
def H_wal_Log_next (t0 : Value) (K : Value → World → Prop) (w : World) : Prop :=
  ∀ J : World → Prop, (∀ (w_1 : World), (
  nilOk t0 ∧
  Pu Tryz.prog (Instr.fieldAt 82 t0 3) fun t55 =>
  Rd Tryz.prog (Instr.loadAt 3 t55) w_1 fun t56 =>
  Bin Tryz.prog BinOp.add 3 false true t56 (Value.int IntKind.i64 1) fun t57 =>
  Bin Tryz.prog BinOp.rem 3 false true t57 (Value.int IntKind.i64 4) fun t58 =>
  nilOk t0 ∧
  Pu Tryz.prog (Instr.fieldAt 82 t0 3) fun t60 =>
  Do Tryz.prog (Instr.storeAt 3 t60 t58) w_1 fun _ w_2 =>
  ∀ J_1 : Value → World → Prop, (∀ (t72 : Value) (w_3 : World), (
  Cond t72 (
  nilOk t0 ∧
  Pu Tryz.prog (Instr.fieldAt 82 t0 5) fun t75 =>
  Rd Tryz.prog (Instr.loadAt 3 t75) (World.drew w_3) fun t76 =>
  nilOk t0 ∧
  Pu Tryz.prog (Instr.fieldAt 82 t0 2) fun t79 =>
  Rd Tryz.prog (Instr.loadAt 3 t79) (World.drew w_3) fun t80 =>
  Bin Tryz.prog BinOp.add 3 false false t76 t80 fun t81 =>
  nilOk t0 ∧
  Pu Tryz.prog (Instr.fieldAt 82 t0 5) fun t83 =>
  Do Tryz.prog (Instr.storeAt 3 t83 t81) (World.drew w_3) fun _ w_4 =>
  K (Value.tuple #[]) w_4) (
  K (Value.tuple #[]) w_3)) → J_1 t72 w_3) →
  nilOk t0 ∧
  Pu Tryz.prog (Instr.fieldAt 82 t0 3) fun t63 =>
  Rd Tryz.prog (Instr.loadAt 3 t63) w_2 fun t64 =>
  Bin Tryz.prog BinOp.eql 3 false true t64 (Value.int IntKind.i64 0) fun t65 =>
  Gate t65 true (
  nilOk t0 ∧
  Pu Tryz.prog (Instr.fieldAt 82 t0 6) fun t69 =>
  Rd Tryz.prog (Instr.loadAt 30 t69) w_2 fun t70 =>
  Bin Tryz.prog BinOp.eql 30 false true t70 (Value.int IntKind.i64 0) fun t71 =>
  J_1 t71 w_2) (
  J_1 (Value.bool false) w_2)) → J w_1) →
  nilOk t0 ∧
  Pu Tryz.prog (Instr.fieldAt 82 t0 3) fun t5 =>
  Rd Tryz.prog (Instr.loadAt 3 t5) w fun t6 =>
  Bin Tryz.prog BinOp.eql 3 false true t6 (Value.int IntKind.i64 0) fun t15 =>
  Cond t15 (
  nilOk t0 ∧
  Pu Tryz.prog (Instr.fieldAt 82 t0 1) fun t18 =>
  Rd Tryz.prog (Instr.loadAt 80 t18) w fun t19 =>
  BltR Tryz.prog Builtin.len #[80] 3 #[false] #[t19] w fun t20 =>
  Bin Tryz.prog BinOp.eql 3 false true t20 (Value.int IntKind.i64 0) fun t21 =>
  Cond t21 (
  K (Value.tuple #[]) w) (
  nilOk t0 ∧
  Pu Tryz.prog (Instr.fieldAt 82 t0 1) fun t24 =>
  Rd Tryz.prog (Instr.loadAt 80 t24) w fun t25 =>
  BltR Tryz.prog Builtin.len #[80] 3 #[false] #[t25] w fun t29 =>
  nilOk t0 ∧
  Pu Tryz.prog (Instr.fieldAt 82 t0 2) fun t31 =>
  Do Tryz.prog (Instr.storeAt 3 t31 t29) w fun _ w_5 =>
  nilOk t0 ∧
  Pu Tryz.prog (Instr.fieldAt 82 t0 1) fun t33 =>
  Do Tryz.prog (Instr.storeAt 80 t33 (Value.slice none 0 0)) w_5 fun _ w_6 =>
  nilOk t0 ∧
  Pu Tryz.prog (Instr.fieldAt 82 t0 0) fun t37 =>
  CallF Tryz.prog F_wal_tail_lay #[t37, t25] w_6 fun t39 w_7 =>
  nilOk t0 ∧
  Pu Tryz.prog (Instr.fieldAt 82 t0 6) fun t41 =>
  Do Tryz.prog (Instr.storeAt 30 t41 t39) w_7 fun _ w_8 =>
  J w_8)) (
  Bin Tryz.prog BinOp.eql 3 false true t6 (Value.int IntKind.i64 2) fun t43 =>
  Cond t43 (
  nilOk t0 ∧
  Pu Tryz.prog (Instr.fieldAt 82 t0 0) fun t47 =>
  Do Tryz.prog (Instr.buildSlice 80 1 #[(0, (Value.slice none 0 0))]) w fun t48 w_9 =>
  CallF Tryz.prog F_wal_tail_lay #[t47, t48] w_9 fun t49 w_10 =>
  nilOk t0 ∧
  Pu Tryz.prog (Instr.fieldAt 82 t0 6) fun t51 =>
  Do Tryz.prog (Instr.storeAt 30 t51 t49) w_10 fun _ w_11 =>
  J w_11) (
  nilOk t0 ∧
  Pu Tryz.prog (Instr.fieldAt 82 t0 0) fun t10 =>
  CallF Tryz.prog F_wal_tail_sync #[t10] w fun t11 w_12 =>
  nilOk t0 ∧
  Pu Tryz.prog (Instr.fieldAt 82 t0 6) fun t13 =>
  Do Tryz.prog (Instr.storeAt 30 t13 t11) w_12 fun _ w_13 =>
  J w_13))
def N_wal_Log_next : Note := (.join [] (.seq .leaf (.sub (.seq .leaf (.cond (.seq (.seq .leaf (.cond .leaf .leaf)) (.seq .leaf (.seq .leaf .leaf))) (.seq .leaf (.cond .leaf .leaf)))))) (.seq .leaf (.join [72] .leaf (.cond (.draw [[], [], [], [], [], [], [], [], [], [], [], [8, 7, 6, 5, 4, 3, 2, 1, 0, 9, 10]] [] (.step 0 (.step 1 (.step 2 (.step 3 (.step 4 (.step 5 (.step 6 (.step 7 (.step 8 (.step 9 (.step 10 (.step 11 .nil))))))))))))) .leaf))))
theorem h_wal_Log_next (t0 : Value) (K : Value → World → Prop) (w : World) : H_wal_Log_next t0 K w = top Tryz.prog Tryz.f48 N_wal_Log_next [t0] K w := by kernel_rfl
theorem c_wal_Log_next {t0 : Value} {K : Value → World → Prop} {w : World} (h : H_wal_Log_next t0 K w) : Runs Tryz.prog F_wal_Log_next #[t0] w K := calls_of_top mixed Tryz.func48 (h_wal_Log_next t0 K w ▸ h)

/-- (*varve/wal.Log).below -/
def H_wal_Log_below (t0 : Value) (t1 : Value) (K : Value → World → Prop) (w : World) : Prop :=
  Do Tryz.prog (Instr.box 3 t1) w fun t3 w_1 =>
  nilOk t0 ∧
  Pu Tryz.prog (Instr.fieldAt 82 t0 0) fun t7 =>
  Pu Tryz.prog (Instr.fieldAt 79 t7 0) fun t8 =>
  Rd Tryz.prog (Instr.loadAt 26 t8) w_1 fun t9 =>
  CallF Tryz.prog F_wal_segments #[t9] w_1 fun t10 w_2 =>
  CallF Tryz.prog F_slices_DeleteFunc_int_int #[t10, (Value.func (Fn.func F_wal_Log_below_1) #[] #[t3])] w_2 fun t12 w_3 =>
  K t12 w_3
def N_wal_Log_below : Note := (.seq .leaf (.seq .leaf .leaf))
theorem h_wal_Log_below (t0 : Value) (t1 : Value) (K : Value → World → Prop) (w : World) : H_wal_Log_below t0 t1 K w = top Tryz.prog Tryz.f49 N_wal_Log_below [t0, t1] K w := by kernel_rfl
theorem c_wal_Log_below {t0 t1 : Value} {K : Value → World → Prop} {w : World} (h : H_wal_Log_below t0 t1 K w) : Runs Tryz.prog F_wal_Log_below #[t0, t1] w K := calls_of_top mixed Tryz.func49 (h_wal_Log_below t0 t1 K w ▸ h)

/-- (*varve/disk.Disk).Delete -/
def H_disk_Disk_Delete (t0 : Value) (t1 : Value) (K : Value → World → Prop) (w : World) : Prop :=
  Do Tryz.prog (Instr.box 9 t1) w fun t3 w_1 =>
  Rd Tryz.prog (Instr.loadAt 9 t3) w_1 fun t7 =>
  Do Tryz.prog (Instr.buildSlice 36 1 #[(0, t7)]) w_1 fun t8 w_2 =>
  CallF Tryz.prog F_disk_Disk_refused #[t0, (Value.bool true), t8] w_2 fun t9 w_3 =>
  Bin Tryz.prog BinOp.eql 30 false true t9 (Value.int IntKind.i64 0) fun t11 =>
  Cond t11 (
  CallF Tryz.prog F_disk_Disk_change #[t0, (Value.func (Fn.func F_disk_Disk_Delete_1) #[] #[t3])] w_3 fun t14 w_4 =>
  nilOk t0 ∧
  Pu Tryz.prog (Instr.fieldAt 76 t0 3) fun t17 =>
  Rd Tryz.prog (Instr.loadAt 3 t17) w_4 fun t18 =>
  Bin Tryz.prog BinOp.add 3 false true t18 (Value.int IntKind.i64 1) fun t19 =>
  nilOk t0 ∧
  Pu Tryz.prog (Instr.fieldAt 76 t0 3) fun t21 =>
  Do Tryz.prog (Instr.storeAt 3 t21 t19) w_4 fun _ w_5 =>
  K t9 w_5) (
  K t9 w_3)
def N_disk_Disk_Delete : Note := (.seq .leaf (.seq .leaf (.seq (.seq .leaf (.cond (.seq .leaf .leaf) .leaf)) (.seq .leaf .leaf))))
theorem h_disk_Disk_Delete (t0 : Value) (t1 : Value) (K : Value → World → Prop) (w : World) : H_disk_Disk_Delete t0 t1 K w = top Tryz.prog Tryz.f50 N_disk_Disk_Delete [t0, t1] K w := by kernel_rfl
theorem c_disk_Disk_Delete {t0 t1 : Value} {K : Value → World → Prop} {w : World} (h : H_disk_Disk_Delete t0 t1 K w) : Runs Tryz.prog F_disk_Disk_Delete #[t0, t1] w K := calls_of_top mixed Tryz.func50 (h_disk_Disk_Delete t0 t1 K w ▸ h)

/-- (*varve/disk.Disk).refused -/
def H_disk_Disk_refused (t0 : Value) (t1 : Value) (t2 : Value) (K : Value → World → Prop) (w : World) : Prop :=
  Bin Tryz.prog BinOp.eql 26 false true t0 (Value.pointer none) fun t10 =>
  Cond t10 (
  K (Value.int IntKind.i64 1) w) (
  ∀ J : World → Prop, (∀ (w_1 : World), (
  nilOk t0 ∧
  Pu Tryz.prog (Instr.fieldAt 76 t0 5) fun t38 =>
  Rd Tryz.prog (Instr.loadAt 4 t38) w_1 fun t39 =>
  Cond t39 (
  K (Value.int IntKind.i64 24) w_1) (
  BltR Tryz.prog Builtin.len #[36] 3 #[false] #[t2] w_1 fun t41 =>
  ∃ (J_1 : Value → World → Prop) (M : Value → World → Nat), J_1 (Value.int IntKind.i64 0) w_1 ∧ ∀ (t42 : Value) (w_2 : World), J_1 t42 w_2 →
  Bin Tryz.prog BinOp.lss 3 false false t42 t41 fun t43 =>
  Cond t43 (
  Pu Tryz.prog (Instr.indexAt 36 t2 t42) fun t44 =>
  Rd Tryz.prog (Instr.loadAt 9 t44) w_2 fun t45 =>
  CallF Tryz.prog F_disk_IsName #[t45] w_2 fun t47 w_3 =>
  Pu Tryz.prog (Op.unary UnOp.not t47) fun t48 =>
  Cond t48 (
  K (Value.int IntKind.i64 20) w_3) (
  Bin Tryz.prog BinOp.add 3 false true t42 (Value.int IntKind.i64 1) fun t49 =>
  J_1 t49 w_3 ∧ M t49 w_3 < M t42 w_2)) (
  ∀ J_2 : Value → World → Prop, (∀ (t61 : Value) (w_4 : World), (
  Cond t61 (
  K (Value.int IntKind.i64 21) w_4) (
  nilOk t0 ∧
  Pu Tryz.prog (Instr.fieldAt 76 t0 3) fun t64 =>
  Rd Tryz.prog (Instr.loadAt 3 t64) w_4 fun t65 =>
  Bin Tryz.prog BinOp.geq 3 false true t65 (Value.int IntKind.i64 65536) fun t66 =>
  Cond t66 (
  K (Value.int IntKind.i64 23) w_4) (
  K (Value.int IntKind.i64 0) w_4))) → J_2 t61 w_4) →
  Gate t1 true (
  nilOk t0 ∧
  Pu Tryz.prog (Instr.fieldAt 76 t0 0) fun t54 =>
  Rd Tryz.prog (Instr.loadAt 73 t54) (World.drew w_2) fun t55 =>
  Pu Tryz.prog (Instr.indexAt 36 t2 (Value.int IntKind.i64 0)) fun t57 =>
  Rd Tryz.prog (Instr.loadAt 9 t57) (World.drew w_2) fun t58 =>
  Rd Tryz.prog (Instr.lookup 73 t55 t58 false) (World.drew w_2) fun t59 =>
  Bin Tryz.prog BinOp.eql 93 false true t59 (Value.pointer none) fun t60 =>
  J_2 t60 (World.drew w_2)) (
  J_2 (Value.bool false) (World.drew w_2))))) → J w_1) →
  nilOk t0 ∧
  Pu Tryz.prog (Instr.fieldAt 76 t0 5) fun t14 =>
  Rd Tryz.prog (Instr.loadAt 4 t14) (World.drew w) fun t15 =>
  Gate t15 false (
  nilOk t0 ∧
  Pu Tryz.prog (Instr.fieldAt 76 t0 4) fun t19 =>
  Rd Tryz.prog (Instr.loadAt 3 t19) (World.drew w) fun t20 =>
  Bin Tryz.prog BinOp.geq 3 false true t20 (Value.int IntKind.i64 0) fun t21 =>
  Gate t21 true (
  nilOk t0 ∧
  Pu Tryz.prog (Instr.fieldAt 76 t0 3) fun t25 =>
  Rd Tryz.prog (Instr.loadAt 3 t25) (World.drew w) fun t26 =>
  nilOk t0 ∧
  Pu Tryz.prog (Instr.fieldAt 76 t0 4) fun t29 =>
  Rd Tryz.prog (Instr.loadAt 3 t29) (World.drew w) fun t30 =>
  Bin Tryz.prog BinOp.geq 3 false false t26 t30 fun t31 =>
  nilOk t0 ∧
  Pu Tryz.prog (Instr.fieldAt 76 t0 5) fun t35 =>
  Do Tryz.prog (Instr.storeAt 4 t35 t31) (World.drew w) fun _ w_5 =>
  J w_5) (
  nilOk t0 ∧
  Pu Tryz.prog (Instr.fieldAt 76 t0 5) fun t35_1 =>
  Do Tryz.prog (Instr.storeAt 4 t35_1 (Value.bool false)) (World.drew w) fun _ w_6 =>
  J w_6)) (
  nilOk t0 ∧
  Pu Tryz.prog (Instr.fieldAt 76 t0 5) fun t35_2 =>
  Do Tryz.prog (Instr.storeAt 4 t35_2 (Value.bool true)) (World.drew w) fun _ w_7 =>
  J w_7))
def N_disk_Disk_refused : Note := (.seq .leaf (.seq (.seq .leaf (.cond (.seq .leaf .leaf) .leaf)) (.join [] (.draw [[], [], [], [], [], [], [], [], [], [], [], [], [], [], [], [], [], [], [], [], [], [], [], [], [], [22, 21, 20, 19, 18, 17, 16, 15, 14, 13, 12, 11, 10, 9, 8, 7, 6, 5, 4, 3, 2, 1, 0, 23, 24]] [] (.step 0 (.step 1 (.step 2 (.step 3 (.step 4 (.step 5 (.step 6 (.step 7 (.step 8 (.step 9 (.step 10 (.step 11 (.step 12 (.step 13 (.step 14 (.step 15 (.step 16 (.step 17 (.step 18 (.step 19 (.step 20 (.step 21 (.step 22 (.step 23 (.step 24 (.step 25 .nil))))))))))))))))))))))))))) (.seq (.seq .leaf (.cond (.seq .leaf .leaf) .leaf)) (.seq (.seq .leaf (.sub (.loop [42] (.seq .leaf (.seq (.cond .leaf .leaf) (.seq (.sub (.seq .leaf (.seq .leaf (.cond (.seq .leaf .leaf) .leaf)))) .leaf)))))) (.seq (.join [61] (.draw [[], [], [], [], [], [], [], [], [], [], [], []] [] (.step 0 (.step 1 (.step 2 (.step 3 (.step 4 (.step 5 (.step 6 (.step 7 (.step 8 (.step 9 (.step 10 (.step 11 .nil))))))))))))) (.cond (.seq .leaf .leaf) .leaf)) (.seq (.seq .leaf (.cond (.seq .leaf .leaf) .leaf)) (.seq .leaf .leaf))))))))
theorem h_disk_Disk_refused (t0 : Value) (t1 : Value) (t2 : Value) (K : Value → World → Prop) (w : World) : H_disk_Disk_refused t0 t1 t2 K w = top Tryz.prog Tryz.f51 N_disk_Disk_refused [t0, t1, t2] K w := by kernel_rfl
theorem c_disk_Disk_refused {t0 t1 t2 : Value} {K : Value → World → Prop} {w : World} (h : H_disk_Disk_refused t0 t1 t2 K w) : Runs Tryz.prog F_disk_Disk_refused #[t0, t1, t2] w K := calls_of_top mixed Tryz.func51 (h_disk_Disk_refused t0 t1 t2 K w ▸ h)

/-- (*varve/disk.Disk).Append -/
def H_disk_Disk_Append (t0 : Value) (t1 : Value) (t2 : Value) (K : Value → World → Prop) (w : World) : Prop :=
  Do Tryz.prog (Instr.box 9 t1) w fun t4 w_1 =>
  Rd Tryz.prog (Instr.loadAt 9 t4) w_1 fun t10 =>
  Do Tryz.prog (Instr.buildSlice 36 1 #[(0, t10)]) w_1 fun t11 w_2 =>
  CallF Tryz.prog F_disk_Disk_refused #[t0, (Value.bool false), t11] w_2 fun t12 w_3 =>
  Bin Tryz.prog BinOp.neq 30 false true t12 (Value.int IntKind.i64 0) fun t14 =>
  Cond t14 (
  K t12 w_3) (
  nilOk t0 ∧
  Pu Tryz.prog (Instr.fieldAt 76 t0 0) fun t18 =>
  Rd Tryz.prog (Instr.loadAt 73 t18) (World.drew w_3) fun t19 =>
  Rd Tryz.prog (Instr.loadAt 9 t4) (World.drew w_3) fun t20 =>
  Rd Tryz.prog (Instr.lookup 73 t19 t20 false) (World.drew w_3) fun t21 =>
  Do Tryz.prog (Instr.alloc 93 true (Value.tuple #[])) (World.drew w_3) fun t8 w_4 =>
  ((Instr.lookup 73 t19 t20 false)).run Tryz.prog w_4 = .ok t21 w_4 ∧
  ((Instr.loadAt 9 t4)).run Tryz.prog w_4 = .ok t20 w_4 ∧
  ((Instr.loadAt 73 t18)).run Tryz.prog w_4 = .ok t19 w_4 ∧
  Do Tryz.prog (Instr.storeAt 93 t8 t21) w_4 fun _ w_5 =>
  ∀ J : World → Prop, (∀ (w_6 : World), (
  Rd Tryz.prog (Instr.loadAt 93 t8) (World.drew w_6) fun t61 =>
  Rd Tryz.prog (Instr.loadAt 93 t8) (World.drew w_6) fun t62 =>
  nilOk t62 ∧
  Pu Tryz.prog (Instr.fieldAt 97 t62 0) fun t64 =>
  Rd Tryz.prog (Instr.loadAt 39 t64) (World.drew w_6) fun t65 =>
  BltD Tryz.prog Builtin.append #[39, 39] 39 #[false, false] #[t65, t2] (World.drew w_6) fun t67 w_7 =>
  ((Instr.loadAt 93 t8)).run Tryz.prog w_7 = .ok t61 w_7 ∧
  nilOk t61 ∧
  Pu Tryz.prog (Instr.fieldAt 97 t61 0) fun t69 =>
  Do Tryz.prog (Instr.storeAt 39 t69 t67) w_7 fun _ w_8 =>
  nilOk t0 ∧
  Pu Tryz.prog (Instr.fieldAt 76 t0 3) fun t72 =>
  Rd Tryz.prog (Instr.loadAt 3 t72) w_8 fun t73 =>
  Bin Tryz.prog BinOp.add 3 false true t73 (Value.int IntKind.i64 1) fun t74 =>
  nilOk t0 ∧
  Pu Tryz.prog (Instr.fieldAt 76 t0 3) fun t76 =>
  Do Tryz.prog (Instr.storeAt 3 t76 t74) w_8 fun _ w_9 =>
  K (Value.int IntKind.i64 0) w_9) → J w_6) →
  ∀ J_1 : Value → World → Prop, (∀ (t22 : Value) (w_10 : World), (
  Cond t22 (
  K (Value.int IntKind.i64 23) w_10) (
  Rd Tryz.prog (Instr.loadAt 93 t8) w_10 fun t54 =>
  Bin Tryz.prog BinOp.eql 93 false true t54 (Value.pointer none) fun t55 =>
  Cond t55 (
  Pu Tryz.prog (Instr.build 97 #[]) fun t56 =>
  Do Tryz.prog (Instr.box 97 t56) w_10 fun t57 w_11 =>
  Do Tryz.prog (Instr.storeAt 93 t8 t57) w_11 fun _ w_12 =>
  CallF Tryz.prog F_disk_Disk_change #[t0, (Value.func (Fn.func F_disk_Disk_Append_1) #[] #[t8, t4])] w_12 fun t60 w_13 =>
  J w_13) (
  J w_10))) → J_1 t22 w_10) →
  ∀ J_2 : Value → World → Prop, (∀ (t22_1 : Value) (w_14 : World), (
  Cond t22_1 (
  J_1 t22_1 w_14) (
  ∀ J_3 : Value → World → Prop, (∀ (t22_2 : Value) (w_15 : World), (
  Cond t22_2 (
  J_1 t22_2 w_15) (
  Rd Tryz.prog (Instr.loadAt 93 t8) w_15 fun t40 =>
  Bin Tryz.prog BinOp.neq 93 false true t40 (Value.pointer none) fun t41 =>
  Gate t41 true (
  BltR Tryz.prog Builtin.len #[39] 3 #[false] #[t2] w_15 fun t44 =>
  Rd Tryz.prog (Instr.loadAt 93 t8) w_15 fun t45 =>
  nilOk t45 ∧
  Pu Tryz.prog (Instr.fieldAt 97 t45 0) fun t47 =>
  Rd Tryz.prog (Instr.loadAt 39 t47) w_15 fun t48 =>
  BltR Tryz.prog Builtin.len #[39] 3 #[false] #[t48] w_15 fun t49 =>
  Bin Tryz.prog BinOp.sub 3 true false (Value.int IntKind.i64 262144) t49 fun t50 =>
  Bin Tryz.prog BinOp.gtr 3 false false t44 t50 fun t51 =>
  J_1 t51 w_15) (
  J_1 (Value.bool false) w_15))) → J_3 t22_2 w_15) →
  Rd Tryz.prog (Instr.loadAt 93 t8) w_14 fun t33 =>
  Bin Tryz.prog BinOp.eql 93 false true t33 (Value.pointer none) fun t34 =>
  Gate t34 true (
  BltR Tryz.prog Builtin.len #[39] 3 #[false] #[t2] w_14 fun t37 =>
  Bin Tryz.prog BinOp.gtr 3 false true t37 (Value.int IntKind.i64 262144) fun t38 =>
  J_3 t38 w_14) (
  J_3 (Value.bool false) w_14))) → J_2 t22_1 w_14) →
  Rd Tryz.prog (Instr.loadAt 93 t8) w_5 fun t23 =>
  Bin Tryz.prog BinOp.eql 93 false true t23 (Value.pointer none) fun t24 =>
  Gate t24 true (
  nilOk t0 ∧
  Pu Tryz.prog (Instr.fieldAt 76 t0 0) fun t28 =>
  Rd Tryz.prog (Instr.loadAt 73 t28) w_5 fun t29 =>
  BltR Tryz.prog Builtin.len #[73] 3 #[false] #[t29] w_5 fun t30 =>
  Bin Tryz.prog BinOp.geq 3 false true t30 (Value.int IntKind.i64 64) fun t31 =>
  J_2 t31 w_5) (
  J_2 (Value.bool false) w_5))
def N_disk_Disk_Append : Note := (.seq .leaf (.seq (.seq .leaf (.seq .leaf (.cond (.seq .leaf .leaf) .leaf))) (.seq (.draw [[], [], [], [], [], [], [], [4, 0, 1, 2, 3, 5, 6]] [] (.step 0 (.step 1 (.step 2 (.step 3 (.step 4 (.step 5 (.step 6 (.step 7 .nil))))))))) (.join [] (.sub (.join [22] (.join [22] .leaf (.cond .leaf (.join [22] .leaf (.cond .leaf .leaf)))) (.cond (.seq .leaf .leaf) (.seq .leaf (.cond (.seq .leaf .leaf) .leaf))))) (.seq (.draw [[], [], [], [], [], [], [5, 1, 2, 3, 4], [], [], [6, 5, 4, 3, 2, 1, 0, 7, 8]] [] (.step 0 (.step 1 (.step 2 (.step 3 (.step 4 (.step 5 (.step 6 (.step 7 (.step 8 (.step 9 .nil))))))))))) (.seq .leaf (.seq .leaf .leaf)))))))
theorem h_disk_Disk_Append (t0 : Value) (t1 : Value) (t2 : Value) (K : Value → World → Prop) (w : World) : H_disk_Disk_Append t0 t1 t2 K w = top Tryz.prog Tryz.f59 N_disk_Disk_Append [t0, t1, t2] K w := by kernel_rfl
theorem c_disk_Disk_Append {t0 t1 t2 : Value} {K : Value → World → Prop} {w : World} (h : H_disk_Disk_Append t0 t1 t2 K w) : Runs Tryz.prog F_disk_Disk_Append #[t0, t1, t2] w K := calls_of_top mixed Tryz.func59 (h_disk_Disk_Append t0 t1 t2 K w ▸ h)

/-- (*varve/disk.Disk).Sync -/
def H_disk_Disk_Sync (t0 : Value) (t1 : Value) (K : Value → World → Prop) (w : World) : Prop :=
  Do Tryz.prog (Instr.buildSlice 36 1 #[(0, t1)]) w fun t9 w_1 =>
  CallF Tryz.prog F_disk_Disk_refused #[t0, (Value.bool true), t9] w_1 fun t10 w_2 =>
  Bin Tryz.prog BinOp.eql 30 false true t10 (Value.int IntKind.i64 0) fun t12 =>
  Cond t12 (
  nilOk t0 ∧
  Pu Tryz.prog (Instr.fieldAt 76 t0 0) fun t15 =>
  Rd Tryz.prog (Instr.loadAt 73 t15) w_2 fun t16 =>
  Rd Tryz.prog (Instr.lookup 73 t16 t1 false) w_2 fun t18 =>
  nilOk t18 ∧
  Pu Tryz.prog (Instr.fieldAt 97 t18 0) fun t22 =>
  Rd Tryz.prog (Instr.loadAt 39 t22) w_2 fun t23 =>
  BltR Tryz.prog Builtin.len #[39] 3 #[false] #[t23] w_2 fun t24 =>
  nilOk t18 ∧
  Pu Tryz.prog (Instr.fieldAt 97 t18 1) fun t26 =>
  Do Tryz.prog (Instr.storeAt 3 t26 t24) w_2 fun _ w_3 =>
  nilOk t0 ∧
  Pu Tryz.prog (Instr.fieldAt 76 t0 3) fun t29 =>
  Rd Tryz.prog (Instr.loadAt 3 t29) w_3 fun t30 =>
  Bin Tryz.prog BinOp.add 3 false true t30 (Value.int IntKind.i64 1) fun t31 =>
  nilOk t0 ∧
  Pu Tryz.prog (Instr.fieldAt 76 t0 3) fun t33 =>
  Do Tryz.prog (Instr.storeAt 3 t33 t31) w_3 fun _ w_4 =>
  K t10 w_4) (
  K t10 w_2)
def N_disk_Disk_Sync : Note := (.seq .leaf (.seq .leaf (.seq (.seq .leaf (.cond (.seq .leaf (.seq .leaf .leaf)) .leaf)) (.seq .leaf .leaf))))
theorem h_disk_Disk_Sync (t0 : Value) (t1 : Value) (K : Value → World → Prop) (w : World) : H_disk_Disk_Sync t0 t1 K w = top Tryz.prog Tryz.f61 N_disk_Disk_Sync [t0, t1] K w := by kernel_rfl
theorem c_disk_Disk_Sync {t0 t1 : Value} {K : Value → World → Prop} {w : World} (h : H_disk_Disk_Sync t0 t1 K w) : Runs Tryz.prog F_disk_Disk_Sync #[t0, t1] w K := calls_of_top mixed Tryz.func61 (h_disk_Disk_Sync t0 t1 K w ▸ h)

/-- varve/wal.number -/
def H_wal_number (t0 : Value) (K : Value → World → Prop) (w : World) : Prop :=
  CallF Tryz.prog F_strings_CutPrefix #[t0, (Value.string (ByteArray.mk #[108, 111, 103, 45]))] w fun t9 w_1 =>
  Pu Tryz.prog (Instr.extract t9 0) fun t10 =>
  Pu Tryz.prog (Instr.extract t9 1) fun t11 =>
  CallF Tryz.prog F_strconv_Atoi #[t10] w_1 fun t14 w_2 =>
  Pu Tryz.prog (Instr.extract t14 0) fun t15 =>
  Pu Tryz.prog (Instr.extract t14 1) fun t16 =>
  ∀ J : Value → World → Prop, (∀ (t36 : Value) (w_3 : World), (
  Cond t36 (
  K (Value.int IntKind.i64 0) w_3) (
  K t15 w_3)) → J t36 w_3) →
  Pu Tryz.prog (Op.unary UnOp.not t11) fun t18 =>
  Gate t18 false (
  Bin Tryz.prog BinOp.neq 162 false true t16 Value.nilIface fun t21 =>
  Gate t21 false (
  Bin Tryz.prog BinOp.lss 3 false true t15 (Value.int IntKind.i64 1) fun t25 =>
  Gate t25 false (
  Bin Tryz.prog BinOp.gtr 3 false true t15 (Value.int IntKind.i64 1073807360) fun t29 =>
  Gate t29 false (
  CallF Tryz.prog F_strconv_Itoa #[t15] w_2 fun t33 w_4 =>
  Bin Tryz.prog BinOp.neq 9 false false t33 t10 fun t35 =>
  J t35 w_4) (
  J (Value.bool true) w_2)) (
  J (Value.bool true) w_2)) (
  J (Value.bool true) w_2)) (
  J (Value.bool true) w_2)
def N_wal_number : Note := (.seq .leaf (.seq .leaf (.seq .leaf (.seq (.join [36] .leaf (.cond (.seq .leaf .leaf) .leaf)) (.seq .leaf .leaf)))))
theorem h_wal_number (t0 : Value) (K : Value → World → Prop) (w : World) : H_wal_number t0 K w = top Tryz.prog Tryz.f68 N_wal_number [t0] K w := by kernel_rfl
theorem c_wal_number {t0 : Value} {K : Value → World → Prop} {w : World} (h : H_wal_number t0 K w) : Runs Tryz.prog F_wal_number #[t0] w K := calls_of_top mixed Tryz.func68 (h_wal_number t0 K w ▸ h)

/-- varve/wal.first -/
def H_wal_first (t0 : Value) (K : Value → World → Prop) (w : World) : Prop :=
  Do Tryz.prog (Instr.buildSlice 39 1 #[(0, (Value.int IntKind.u8 76))]) w fun t3 w_1 =>
  Do Tryz.prog (convert 3 77 t0) w_1 fun t5 w_2 =>
  CallF Tryz.prog F_num_Put #[t3, t5] w_2 fun t6 w_3 =>
  K t6 w_3
def N_wal_first : Note := (.seq .leaf (.seq .leaf .leaf))
theorem h_wal_first (t0 : Value) (K : Value → World → Prop) (w : World) : H_wal_first t0 K w = top Tryz.prog Tryz.f72 N_wal_first [t0] K w := by kernel_rfl
theorem c_wal_first {t0 : Value} {K : Value → World → Prop} {w : World} (h : H_wal_first t0 K w) : Runs Tryz.prog F_wal_first #[t0] w K := calls_of_top mixed Tryz.func72 (h_wal_first t0 K w ▸ h)

/-- (*varve/wal.tail).begin$1 -/
def H_wal_tail_begin_1 (t0 : Value) (K : Value → World → Prop) (w : World) : Prop :=
  Rd Tryz.prog (Instr.loadAt 119 t0) (World.drew w) fun t2 =>
  Rd Tryz.prog (Instr.loadAt 119 t0) (World.drew w) fun t3 =>
  nilOk t3 ∧
  Pu Tryz.prog (Instr.fieldAt 79 t3 1) fun t5 =>
  Rd Tryz.prog (Instr.loadAt 3 t5) (World.drew w) fun t6 =>
  CallF Tryz.prog F_wal_first #[t6] (World.drew w) fun t7 w_1 =>
  ((Instr.loadAt 119 t0)).run Tryz.prog w_1 = .ok t2 w_1 ∧
  Do Tryz.prog (Instr.buildSlice 80 1 #[(0, t7)]) w_1 fun t8 w_2 =>
  ((Instr.loadAt 119 t0)).run Tryz.prog w_2 = .ok t2 w_2 ∧
  CallF Tryz.prog F_wal_tail_lay #[t2, t8] w_2 fun t9 w_3 =>
  K t9 w_3
def N_wal_tail_begin_1 : Note := (.seq .leaf (.seq (.draw [[], [], [], [], [], [1, 2, 3, 4], [1, 2, 3, 4, 5], [1, 2, 3, 4, 5, 6, 0], []] [] (.step 0 (.step 1 (.step 2 (.step 3 (.step 4 (.step 5 (.step 6 (.step 7 (.step 8 .nil)))))))))) .leaf))
theorem h_wal_tail_begin_1 (t0 : Value) (K : Value → World → Prop) (w : World) : H_wal_tail_begin_1 t0 K w = top Tryz.prog Tryz.f74 N_wal_tail_begin_1 [t0] K w := by kernel_rfl
theorem c_wal_tail_begin_1 {t0 : Value} {K : Value → World → Prop} {w : World} (h : H_wal_tail_begin_1 t0 K w) : Runs Tryz.prog F_wal_tail_begin_1 #[t0] w K := calls_of_top mixed Tryz.func74 (h_wal_tail_begin_1 t0 K w ▸ h)

/-- (*varve/wal.tail).lay -/
def H_wal_tail_lay (t0 : Value) (t1 : Value) (K : Value → World → Prop) (w : World) : Prop :=
  BltR Tryz.prog Builtin.len #[80] 3 #[false] #[t1] w fun t9 =>
  ∃ (J : Value → Value → World → Prop) (M : Value → Value → World → Nat), J (Value.slice none 0 0) (Value.int IntKind.i64 0) w ∧ ∀ (t5 : Value) (t10 : Value) (w_1 : World), J t5 t10 w_1 →
  Bin Tryz.prog BinOp.lss 3 false false t10 t9 fun t11 =>
  Cond t11 (
  Pu Tryz.prog (Instr.indexAt 80 t1 t10) fun t12 =>
  Rd Tryz.prog (Instr.loadAt 39 t12) w_1 fun t13 =>
  nilOk t0 ∧
  Pu Tryz.prog (Instr.fieldAt 79 t0 2) fun t18 =>
  Rd Tryz.prog (Instr.loadAt 77 t18) w_1 fun t19 =>
  CallF Tryz.prog F_frame_Put #[t5, t19, t13] w_1 fun t21 w_2 =>
  Pu Tryz.prog (Instr.extract t21 0) fun t22 =>
  Pu Tryz.prog (Instr.extract t21 1) fun t23 =>
  nilOk t0 ∧
  Pu Tryz.prog (Instr.fieldAt 79 t0 2) fun t26 =>
  Rd Tryz.prog (Instr.loadAt 77 t26) w_2 fun t27 =>
  Bin Tryz.prog BinOp.add 77 false true t27 (Value.int IntKind.u64 1) fun t28 =>
  nilOk t0 ∧
  Pu Tryz.prog (Instr.fieldAt 79 t0 2) fun t30 =>
  Do Tryz.prog (Instr.storeAt 77 t30 t28) w_2 fun _ w_3 =>
  Bin Tryz.prog BinOp.add 3 false true t10 (Value.int IntKind.i64 1) fun t31 =>
  J t22 t31 w_3 ∧ M t22 t31 w_3 < M t5 t10 w_1) (
  nilOk t0 ∧
  Pu Tryz.prog (Instr.fieldAt 79 t0 0) fun t34 =>
  Rd Tryz.prog (Instr.loadAt 26 t34) (World.drew w_1) fun t35 =>
  CallF Tryz.prog F_wal_tail_name #[t0] (World.drew w_1) fun t37 w_4 =>
  ((Instr.loadAt 26 t34)).run Tryz.prog w_4 = .ok t35 w_4 ∧
  CallF Tryz.prog F_disk_Disk_Append #[t35, t37, t5] w_4 fun t39 w_5 =>
  K t39 w_5)
def N_wal_tail_lay : Note := (.seq .leaf (.seq .leaf (.seq (.seq .leaf (.sub (.loop [5, 10] (.seq .leaf (.seq (.cond .leaf .leaf) (.seq (.sub (.seq .leaf (.seq .leaf .leaf))) .leaf)))))) (.seq (.draw [[], [], [], [], [], [4], [], [6, 4, 5, 0, 1, 2, 3], []] [] (.step 0 (.step 1 (.step 2 (.step 3 (.step 4 (.step 6 (.step 5 (.step 7 (.step 8 .nil)))))))))) .leaf))))
theorem h_wal_tail_lay (t0 : Value) (t1 : Value) (K : Value → World → Prop) (w : World) : H_wal_tail_lay t0 t1 K w = top Tryz.prog Tryz.f75 N_wal_tail_lay [t0, t1] K w := by kernel_rfl
theorem c_wal_tail_lay {t0 t1 : Value} {K : Value → World → Prop} {w : World} (h : H_wal_tail_lay t0 t1 K w) : Runs Tryz.prog F_wal_tail_lay #[t0, t1] w K := calls_of_top mixed Tryz.func75 (h_wal_tail_lay t0 t1 K w ▸ h)

/-- (*varve/wal.tail).sync -/
def H_wal_tail_sync (t0 : Value) (K : Value → World → Prop) (w : World) : Prop :=
  nilOk t0 ∧
  Pu Tryz.prog (Instr.fieldAt 79 t0 0) fun t5 =>
  Rd Tryz.prog (Instr.loadAt 26 t5) (World.drew w) fun t6 =>
  CallF Tryz.prog F_wal_tail_name #[t0] (World.drew w) fun t8 w_1 =>
  ((Instr.loadAt 26 t5)).run Tryz.prog w_1 = .ok t6 w_1 ∧
  CallF Tryz.prog F_disk_Disk_Sync #[t6, t8] w_1 fun t9 w_2 =>
  K t9 w_2
def N_wal_tail_sync : Note := (.seq .leaf (.seq (.draw [[], [], [], [], [], [4], [4, 5, 0, 1, 2, 3], []] [] (.step 0 (.step 1 (.step 2 (.step 3 (.step 4 (.step 5 (.step 6 (.step 7 .nil))))))))) .leaf))
theorem h_wal_tail_sync (t0 : Value) (K : Value → World → Prop) (w : World) : H_wal_tail_sync t0 K w = top Tryz.prog Tryz.f76 N_wal_tail_sync [t0] K w := by kernel_rfl
theorem c_wal_tail_sync {t0 : Value} {K : Value → World → Prop} {w : World} (h : H_wal_tail_sync t0 K w) : Runs Tryz.prog F_wal_tail_sync #[t0] w K := calls_of_top mixed Tryz.func76 (h_wal_tail_sync t0 K w ▸ h)

/-- varve/disk.IsName$1 -/
def H_disk_IsName_1 (t0 : Value) (K : Value → World → Prop) (w : World) : Prop :=
  Bin Tryz.prog BinOp.lss 21 false true t0 (Value.int IntKind.i32 97) fun t4 =>
  Gate t4 false (
  Bin Tryz.prog BinOp.gtr 21 false true t0 (Value.int IntKind.i32 122) fun t7 =>
  Gate t7 true (
  Bin Tryz.prog BinOp.lss 21 false true t0 (Value.int IntKind.i32 65) fun t11 =>
  Gate t11 false (
  Bin Tryz.prog BinOp.gtr 21 false true t0 (Value.int IntKind.i32 90) fun t14 =>
  Gate t14 true (
  Bin Tryz.prog BinOp.lss 21 false true t0 (Value.int IntKind.i32 48) fun t19 =>
  Gate t19 false (
  Bin Tryz.prog BinOp.gtr 21 false true t0 (Value.int IntKind.i32 57) fun t22 =>
  Gate t22 true (
  Bin Tryz.prog BinOp.neq 21 false true t0 (Value.int IntKind.i32 45) fun t27 =>
  Gate t27 true (
  Bin Tryz.prog BinOp.neq 21 false true t0 (Value.int IntKind.i32 46) fun t31 =>
  K t31 w) (
  K (Value.bool false) w)) (
  K (Value.bool false) w)) (
  Bin Tryz.prog BinOp.neq 21 false true t0 (Value.int IntKind.i32 45) fun t27_1 =>
  Gate t27_1 true (
  Bin Tryz.prog BinOp.neq 21 false true t0 (Value.int IntKind.i32 46) fun t31_1 =>
  K t31_1 w) (
  K (Value.bool false) w))) (
  K (Value.bool false) w)) (
  Bin Tryz.prog BinOp.lss 21 false true t0 (Value.int IntKind.i32 48) fun t19_1 =>
  Gate t19_1 false (
  Bin Tryz.prog BinOp.gtr 21 false true t0 (Value.int IntKind.i32 57) fun t22_1 =>
  Gate t22_1 true (
  Bin Tryz.prog BinOp.neq 21 false true t0 (Value.int IntKind.i32 45) fun t27_2 =>
  Gate t27_2 true (
  Bin Tryz.prog BinOp.neq 21 false true t0 (Value.int IntKind.i32 46) fun t31_2 =>
  K t31_2 w) (
  K (Value.bool false) w)) (
  K (Value.bool false) w)) (
  Bin Tryz.prog BinOp.neq 21 false true t0 (Value.int IntKind.i32 45) fun t27_3 =>
  Gate t27_3 true (
  Bin Tryz.prog BinOp.neq 21 false true t0 (Value.int IntKind.i32 46) fun t31_3 =>
  K t31_3 w) (
  K (Value.bool false) w)))) (
  K (Value.bool false) w)) (
  Bin Tryz.prog BinOp.lss 21 false true t0 (Value.int IntKind.i32 65) fun t11_1 =>
  Gate t11_1 false (
  Bin Tryz.prog BinOp.gtr 21 false true t0 (Value.int IntKind.i32 90) fun t14_1 =>
  Gate t14_1 true (
  Bin Tryz.prog BinOp.lss 21 false true t0 (Value.int IntKind.i32 48) fun t19_2 =>
  Gate t19_2 false (
  Bin Tryz.prog BinOp.gtr 21 false true t0 (Value.int IntKind.i32 57) fun t22_2 =>
  Gate t22_2 true (
  Bin Tryz.prog BinOp.neq 21 false true t0 (Value.int IntKind.i32 45) fun t27_4 =>
  Gate t27_4 true (
  Bin Tryz.prog BinOp.neq 21 false true t0 (Value.int IntKind.i32 46) fun t31_4 =>
  K t31_4 w) (
  K (Value.bool false) w)) (
  K (Value.bool false) w)) (
  Bin Tryz.prog BinOp.neq 21 false true t0 (Value.int IntKind.i32 45) fun t27_5 =>
  Gate t27_5 true (
  Bin Tryz.prog BinOp.neq 21 false true t0 (Value.int IntKind.i32 46) fun t31_5 =>
  K t31_5 w) (
  K (Value.bool false) w))) (
  K (Value.bool false) w)) (
  Bin Tryz.prog BinOp.lss 21 false true t0 (Value.int IntKind.i32 48) fun t19_3 =>
  Gate t19_3 false (
  Bin Tryz.prog BinOp.gtr 21 false true t0 (Value.int IntKind.i32 57) fun t22_3 =>
  Gate t22_3 true (
  Bin Tryz.prog BinOp.neq 21 false true t0 (Value.int IntKind.i32 45) fun t27_6 =>
  Gate t27_6 true (
  Bin Tryz.prog BinOp.neq 21 false true t0 (Value.int IntKind.i32 46) fun t31_6 =>
  K t31_6 w) (
  K (Value.bool false) w)) (
  K (Value.bool false) w)) (
  Bin Tryz.prog BinOp.neq 21 false true t0 (Value.int IntKind.i32 45) fun t27_7 =>
  Gate t27_7 true (
  Bin Tryz.prog BinOp.neq 21 false true t0 (Value.int IntKind.i32 46) fun t31_7 =>
  K t31_7 w) (
  K (Value.bool false) w))))
def N_disk_IsName_1 : Note := (.seq .leaf (.seq .leaf .leaf))
theorem h_disk_IsName_1 (t0 : Value) (K : Value → World → Prop) (w : World) : H_disk_IsName_1 t0 K w = top Tryz.prog Tryz.f80 N_disk_IsName_1 [t0] K w := by kernel_rfl
theorem c_disk_IsName_1 {t0 : Value} {K : Value → World → Prop} {w : World} (h : H_disk_IsName_1 t0 K w) : Runs Tryz.prog F_disk_IsName_1 #[t0] w K := calls_of_top mixed Tryz.func80 (h_disk_IsName_1 t0 K w ▸ h)

/-- (*varve/wal.Log).below$1 -/
def H_wal_Log_below_1 (t0 : Value) (t1 : Value) (K : Value → World → Prop) (w : World) : Prop :=
  Rd Tryz.prog (Instr.loadAt 3 t1) w fun t5 =>
  Bin Tryz.prog BinOp.geq 3 false false t0 t5 fun t6 =>
  K t6 w
def N_wal_Log_below_1 : Note := (.seq .leaf (.seq .leaf .leaf))
theorem h_wal_Log_below_1 (t0 : Value) (t1 : Value) (K : Value → World → Prop) (w : World) : H_wal_Log_below_1 t0 t1 K w = top Tryz.prog Tryz.f84 N_wal_Log_below_1 [t0, t1] K w := by kernel_rfl
theorem c_wal_Log_below_1 {t0 t1 : Value} {K : Value → World → Prop} {w : World} (h : H_wal_Log_below_1 t0 t1 K w) : Runs Tryz.prog F_wal_Log_below_1 #[t0, t1] w K := calls_of_top mixed Tryz.func84 (h_wal_Log_below_1 t0 t1 K w ▸ h)

/-- (*varve/disk.Disk).change -/
def H_disk_Disk_change (t0 : Value) (t1 : Value) (K : Value → World → Prop) (w : World) : Prop :=
  nilOk t0 ∧
  Pu Tryz.prog (Instr.fieldAt 76 t0 0) fun t7 =>
  Rd Tryz.prog (Instr.loadAt 73 t7) w fun t8 =>
  CallV Tryz.prog t1 #[t8] w fun t9 w_1 =>
  nilOk t0 ∧
  Pu Tryz.prog (Instr.fieldAt 76 t0 2) fun t13 =>
  Rd Tryz.prog (Instr.loadAt 74 t13) w_1 fun t14 =>
  Do Tryz.prog (Instr.buildSlice 74 1 #[(0, t1)]) w_1 fun t16 w_2 =>
  BltD Tryz.prog Builtin.append #[74, 74] 74 #[false, false] #[t14, t16] w_2 fun t17 w_3 =>
  nilOk t0 ∧
  Pu Tryz.prog (Instr.fieldAt 76 t0 2) fun t19 =>
  Do Tryz.prog (Instr.storeAt 74 t19 t17) w_3 fun _ w_4 =>
  K (Value.tuple #[]) w_4
def N_disk_Disk_change : Note := (.seq .leaf .leaf)
theorem h_disk_Disk_change (t0 : Value) (t1 : Value) (K : Value → World → Prop) (w : World) : H_disk_Disk_change t0 t1 K w = top Tryz.prog Tryz.f85 N_disk_Disk_change [t0, t1] K w := by kernel_rfl
theorem c_disk_Disk_change {t0 t1 : Value} {K : Value → World → Prop} {w : World} (h : H_disk_Disk_change t0 t1 K w) : Runs Tryz.prog F_disk_Disk_change #[t0, t1] w K := calls_of_top mixed Tryz.func85 (h_disk_Disk_change t0 t1 K w ▸ h)

/-- (*varve/disk.Disk).Delete$1 -/
def H_disk_Disk_Delete_1 (t0 : Value) (t1 : Value) (K : Value → World → Prop) (w : World) : Prop :=
  Rd Tryz.prog (Instr.loadAt 9 t1) w fun t4 =>
  BltD Tryz.prog Builtin.delete #[73, 9] 0 #[false, false] #[t0, t4] w fun _ w_1 =>
  K (Value.tuple #[]) w_1
def N_disk_Disk_Delete_1 : Note := .leaf
theorem h_disk_Disk_Delete_1 (t0 : Value) (t1 : Value) (K : Value → World → Prop) (w : World) : H_disk_Disk_Delete_1 t0 t1 K w = top Tryz.prog Tryz.f86 N_disk_Disk_Delete_1 [t0, t1] K w := by kernel_rfl
theorem c_disk_Disk_Delete_1 {t0 t1 : Value} {K : Value → World → Prop} {w : World} (h : H_disk_Disk_Delete_1 t0 t1 K w) : Runs Tryz.prog F_disk_Disk_Delete_1 #[t0, t1] w K := calls_of_top mixed Tryz.func86 (h_disk_Disk_Delete_1 t0 t1 K w ▸ h)

/-- (*varve/disk.Disk).Append$1 -/
def H_disk_Disk_Append_1 (t0 : Value) (t1 : Value) (t2 : Value) (K : Value → World → Prop) (w : World) : Prop :=
  Rd Tryz.prog (Instr.loadAt 9 t2) w fun t5 =>
  Rd Tryz.prog (Instr.loadAt 93 t1) w fun t6 =>
  Do Tryz.prog (Instr.mapUpdate 73 t0 t5 t6) w fun _ w_1 =>
  K (Value.tuple #[]) w_1
def N_disk_Disk_Append_1 : Note := .leaf
theorem h_disk_Disk_Append_1 (t0 : Value) (t1 : Value) (t2 : Value) (K : Value → World → Prop) (w : World) : H_disk_Disk_Append_1 t0 t1 t2 K w = top Tryz.prog Tryz.f96 N_disk_Disk_Append_1 [t0, t1, t2] K w := by kernel_rfl
theorem c_disk_Disk_Append_1 {t0 t1 t2 : Value} {K : Value → World → Prop} {w : World} (h : H_disk_Disk_Append_1 t0 t1 t2 K w) : Runs Tryz.prog F_disk_Disk_Append_1 #[t0, t1, t2] w K := calls_of_top mixed Tryz.func96 (h_disk_Disk_Append_1 t0 t1 t2 K w ▸ h)
end Go.Proofs.VvS

namespace Go.Proofs.VvS
open Go Go.Proofs Vv
set_option maxRecDepth 100000
/-- varve/varvelaw08.WalNames -/
def H_varvelaw08_WalNames (t0 : Value) (K : Value → World → Prop) (w : World) : Prop :=
  CallF Tryz.prog F_varvelaw08_shown #[] w fun t3 w_1 =>
  Gate t3 true (
  CallF Tryz.prog F_wal_Name #[t0] w_1 fun t6 w_2 =>
  CallF Tryz.prog F_varveref08_Name #[t0] w_2 fun t8 w_3 =>
  Bin Tryz.prog BinOp.eql 9 false false t6 t8 fun t9 =>
  K t9 w_3) (
  K (Value.bool false) w_1)
def N_varvelaw08_WalNames : Note := (.seq .leaf (.seq .leaf .leaf))
theorem h_varvelaw08_WalNames (t0 : Value) (K : Value → World → Prop) (w : World) : H_varvelaw08_WalNames t0 K w = top Tryz.prog Tryz.f3 N_varvelaw08_WalNames [t0] K w := by kernel_rfl
theorem c_varvelaw08_WalNames {t0 : Value} {K : Value → World → Prop} {w : World} (h : H_varvelaw08_WalNames t0 K w) : Runs Tryz.prog F_varvelaw08_WalNames #[t0] w K := calls_of_top mixed Tryz.func3 (h_varvelaw08_WalNames t0 K w ▸ h)

/-- varve/varvelaw08.shown -/
def H_varvelaw08_shown (K : Value → World → Prop) (w : World) : Prop :=
  CallF Tryz.prog F_disk_New #[] w fun t23 w_1 =>
  CallF Tryz.prog F_wal_Open #[t23, (Value.int IntKind.i64 1)] w_1 fun t26 w_2 =>
  Pu Tryz.prog (Instr.extract t26 0) fun t27 =>
  Pu Tryz.prog (Instr.extract t26 1) fun t28 =>
  Pu Tryz.prog (Instr.extract t26 2) fun t29 =>
  ∀ J : Value → World → Prop, (∀ (t49 : Value) (w_3 : World), (
  Cond t49 (
  K (Value.bool false) w_3) (
  CallF Tryz.prog F_varvelaw08_one #[(Value.int IntKind.i64 1)] w_3 fun t52 w_4 =>
  CallF Tryz.prog F_wal_Log_Put #[t27, t52] w_4 fun t53 w_5 =>
  Pu Tryz.prog (Instr.extract t53 0) fun t54 =>
  Pu Tryz.prog (Instr.extract t53 1) fun t55 =>
  CallF Tryz.prog F_varvelaw08_one #[(Value.int IntKind.i64 2)] w_5 fun t58 w_6 =>
  CallF Tryz.prog F_wal_Log_Put #[t27, t58] w_6 fun t59 w_7 =>
  Pu Tryz.prog (Instr.extract t59 0) fun t60 =>
  Pu Tryz.prog (Instr.extract t59 1) fun t61 =>
  ∃ (J_1 : Value → World → Prop) (M : Value → World → Nat), J_1 (Value.int IntKind.i64 0) w_7 ∧ ∀ (t9 : Value) (w_8 : World), J_1 t9 w_8 →
  Bin Tryz.prog BinOp.lss 3 false true t9 (Value.int IntKind.i64 3) fun t63 =>
  Cond t63 (
  CallF Tryz.prog F_wal_Log_Flush #[t27] w_8 fun t68 w_9 =>
  Pu Tryz.prog (Instr.extract t68 0) fun t69 =>
  Pu Tryz.prog (Instr.extract t68 1) fun t70 =>
  ∀ J_2 : Value → World → Prop, (∀ (t75 : Value) (w_10 : World), (
  Cond t75 (
  K (Value.bool false) w_10) (
  Bin Tryz.prog BinOp.add 3 false true t9 (Value.int IntKind.i64 1) fun t65 =>
  J_1 t65 w_10 ∧ M t65 w_10 < M t9 w_8)) → J_2 t75 w_10) →
  Gate t69 false (
  Bin Tryz.prog BinOp.neq 30 false true t70 (Value.int IntKind.i64 0) fun t74 =>
  J_2 t74 w_9) (
  J_2 (Value.bool true) w_9)) (
  CallF Tryz.prog F_wal_Log_Flushed #[t27] w_8 fun t77 w_11 =>
  CallF Tryz.prog F_wal_Log_Flush #[t27] w_11 fun t80 w_12 =>
  Pu Tryz.prog (Instr.extract t80 0) fun t81 =>
  Pu Tryz.prog (Instr.extract t80 1) fun t82 =>
  CallF Tryz.prog F_wal_Log_Rotate #[t27] w_12 fun t85 w_13 =>
  Pu Tryz.prog (Instr.extract t85 0) fun t86 =>
  Pu Tryz.prog (Instr.extract t85 1) fun t87 =>
  CallF Tryz.prog F_wal_Open #[t23, (Value.int IntKind.i64 1)] w_13 fun t90 w_14 =>
  Pu Tryz.prog (Instr.extract t90 0) fun t91 =>
  Pu Tryz.prog (Instr.extract t90 1) fun t92 =>
  Pu Tryz.prog (Instr.extract t90 2) fun t93 =>
  CallF Tryz.prog F_wal_Open #[t23, (Value.int IntKind.i64 0)] w_14 fun t96 w_15 =>
  Pu Tryz.prog (Instr.extract t96 0) fun t97 =>
  Pu Tryz.prog (Instr.extract t96 1) fun t98 =>
  Pu Tryz.prog (Instr.extract t96 2) fun t99 =>
  Bin Tryz.prog BinOp.eql 3 false true t54 (Value.int IntKind.i64 1) fun t101 =>
  Gate t101 true (
  Bin Tryz.prog BinOp.eql 30 false true t55 (Value.int IntKind.i64 0) fun t104 =>
  Gate t104 true (
  Bin Tryz.prog BinOp.eql 3 false true t60 (Value.int IntKind.i64 2) fun t108 =>
  Gate t108 true (
  Bin Tryz.prog BinOp.eql 30 false true t61 (Value.int IntKind.i64 0) fun t112 =>
  Gate t112 true (
  Bin Tryz.prog BinOp.eql 3 false true t77 (Value.int IntKind.i64 0) fun t116 =>
  Gate t116 true (
  Gate t81 true (
  Bin Tryz.prog BinOp.eql 30 false true t82 (Value.int IntKind.i64 0) fun t123 =>
  Gate t123 true (
  CallF Tryz.prog F_wal_Log_Flushed #[t27] w_15 fun t127 w_16 =>
  Bin Tryz.prog BinOp.eql 3 false true t127 (Value.int IntKind.i64 2) fun t128 =>
  Gate t128 true (
  Bin Tryz.prog BinOp.eql 3 false true t86 (Value.int IntKind.i64 2) fun t132 =>
  Gate t132 true (
  Bin Tryz.prog BinOp.eql 30 false true t87 (Value.int IntKind.i64 0) fun t136 =>
  Gate t136 true (
  BltR Tryz.prog Builtin.len #[29] 3 #[false] #[t92] w_16 fun t140 =>
  Bin Tryz.prog BinOp.eql 3 false true t140 (Value.int IntKind.i64 2) fun t141 =>
  Gate t141 true (
  Bin Tryz.prog BinOp.eql 30 false true t93 (Value.int IntKind.i64 0) fun t145 =>
  Gate t145 true (
  Bin Tryz.prog BinOp.eql 30 false true t99 (Value.int IntKind.i64 2) fun t149 =>
  Gate t149 true (
  CallF Tryz.prog F_wal_Name #[(Value.int IntKind.i64 3)] w_16 fun t152 w_17 =>
  Bin Tryz.prog BinOp.eql 9 false true t152 (Value.string (ByteArray.mk #[108, 111, 103, 45, 51])) fun t153 =>
  K t153 w_17) (
  K (Value.bool false) w_16)) (
  K (Value.bool false) w_16)) (
  K (Value.bool false) w_16)) (
  K (Value.bool false) w_16)) (
  K (Value.bool false) w_16)) (
  K (Value.bool false) w_16)) (
  K (Value.bool false) w_15)) (
  K (Value.bool false) w_15)) (
  K (Value.bool false) w_15)) (
  K (Value.bool false) w_15)) (
  K (Value.bool false) w_15)) (
  K (Value.bool false) w_15)) (
  K (Value.bool false) w_15)))) → J t49 w_3) →
  Bin Tryz.prog BinOp.eql 26 false true t23 (Value.pointer none) fun t31 =>
  Gate t31 false (
  Bin Tryz.prog BinOp.eql 28 false true t27 (Value.pointer none) fun t34 =>
  Gate t34 false (
  BltR Tryz.prog Builtin.len #[29] 3 #[false] #[t28] w_2 fun t38 =>
  Bin Tryz.prog BinOp.neq 3 false true t38 (Value.int IntKind.i64 0) fun t39 =>
  Gate t39 false (
  Bin Tryz.prog BinOp.neq 30 false true t29 (Value.int IntKind.i64 0) fun t43 =>
  Gate t43 false (
  CallF Tryz.prog F_disk_Disk_Ops #[t23] w_2 fun t47 w_18 =>
  Bin Tryz.prog BinOp.neq 3 false true t47 (Value.int IntKind.i64 3) fun t48 =>
  J t48 w_18) (
  J (Value.bool true) w_2)) (
  J (Value.bool true) w_2)) (
  J (Value.bool true) w_2)) (
  J (Value.bool true) w_2)
def N_varvelaw08_shown : Note := (.seq .leaf (.seq .leaf (.seq .leaf (.seq (.join [49] .leaf (.cond (.seq .leaf .leaf) .leaf)) (.seq .leaf (.seq .leaf (.seq (.seq .leaf (.sub (.loop [9] (.seq (.seq .leaf (.cond .leaf .leaf)) (.seq (.sub (.seq .leaf (.join [75] .leaf (.cond (.seq .leaf .leaf) .leaf)))) .leaf))))) (.seq .leaf (.seq .leaf (.seq .leaf (.seq .leaf (.seq .leaf (.seq .leaf .leaf)))))))))))))
theorem h_varvelaw08_shown (K : Value → World → Prop) (w : World) : H_varvelaw08_shown K w = top Tryz.prog Tryz.f8 N_varvelaw08_shown [] K w := by kernel_rfl
theorem c_varvelaw08_shown {K : Value → World → Prop} {w : World} (h : H_varvelaw08_shown K w) : Runs Tryz.prog F_varvelaw08_shown #[] w K := calls_of_top mixed Tryz.func8 (h_varvelaw08_shown K w ▸ h)

/-- varve/varveref08.Name -/
def H_varveref08_Name (t0 : Value) (K : Value → World → Prop) (w : World) : Prop :=
  CallF Tryz.prog F_varveref08_digits #[t0] w fun t4 w_1 =>
  Bin Tryz.prog BinOp.add 9 true false (Value.string (ByteArray.mk #[108, 111, 103, 45])) t4 fun t5 =>
  K t5 w_1
def N_varveref08_Name : Note := (.seq .leaf (.seq .leaf .leaf))
theorem h_varveref08_Name (t0 : Value) (K : Value → World → Prop) (w : World) : H_varveref08_Name t0 K w = top Tryz.prog Tryz.f10 N_varveref08_Name [t0] K w := by kernel_rfl
theorem c_varveref08_Name {t0 : Value} {K : Value → World → Prop} {w : World} (h : H_varveref08_Name t0 K w) : Runs Tryz.prog F_varveref08_Name #[t0] w K := calls_of_top mixed Tryz.func10 (h_varveref08_Name t0 K w ▸ h)

/-- varve/varvelaw08.one -/
def H_varvelaw08_one (t0 : Value) (K : Value → World → Prop) (w : World) : Prop :=
  Do Tryz.prog (Instr.alloc 65 true (Value.tuple #[])) w fun t2 w_1 =>
  Pu Tryz.prog (Instr.build 111 #[(0, (Value.string (ByteArray.mk #[97]))), (1, (Value.string (ByteArray.mk #[120])))]) fun t4 =>
  Do Tryz.prog (Instr.buildSlice 63 1 #[(0, t4)]) w_1 fun t5 w_2 =>
  Pu Tryz.prog (Instr.build 65 #[(0, t0), (1, t5)]) fun t6 =>
  Do Tryz.prog (Instr.storeAt 65 t2 t6) w_2 fun _ w_3 =>
  Rd Tryz.prog (do loadVar 65 (← asAddr t2)) w_3 fun r2 =>
  K r2 w_3
def N_varvelaw08_one : Note := (.seq .leaf (.seq .leaf .leaf))
theorem h_varvelaw08_one (t0 : Value) (K : Value → World → Prop) (w : World) : H_varvelaw08_one t0 K w = top Tryz.prog Tryz.f34 N_varvelaw08_one [t0] K w := by kernel_rfl
theorem c_varvelaw08_one {t0 : Value} {K : Value → World → Prop} {w : World} (h : H_varvelaw08_one t0 K w) : Runs Tryz.prog F_varvelaw08_one #[t0] w K := calls_of_top mixed Tryz.func34 (h_varvelaw08_one t0 K w ▸ h)

/-- varve/varveref08.digits -/
def H_varveref08_digits (t0 : Value) (K : Value → World → Prop) (w : World) : Prop :=
  ∃ (J : Value → Value → World → Prop) (M : Value → Value → World → Nat), J (Value.string (ByteArray.mk #[])) t0 w ∧ ∀ (t3 : Value) (t4 : Value) (w_1 : World), J t3 t4 w_1 →
  ∀ J_1 : Value → World → Prop, (∀ (t12 : Value) (w_2 : World), (
  Cond t12 (
  Bin Tryz.prog BinOp.rem 3 false true t4 (Value.int IntKind.i64 10) fun t16 =>
  ∀ J_2 : Value → World → Prop, (∀ (t5 : Value) (w_3 : World), (
  Bin Tryz.prog BinOp.add 3 false true t5 (Value.int IntKind.i64 1) fun t23 =>
  Pu Tryz.prog (Instr.sliceAt 9 (Value.string (ByteArray.mk #[48, 49, 50, 51, 52, 53, 54, 55, 56, 57])) (some t5) (some t23) none) fun t24 =>
  Bin Tryz.prog BinOp.add 9 false false t24 t3 fun t26 =>
  Bin Tryz.prog BinOp.quo 3 false true t4 (Value.int IntKind.i64 10) fun t14 =>
  J t26 t14 w_3 ∧ M t26 t14 w_3 < M t3 t4 w_1) → J_2 t5 w_3) →
  Bin Tryz.prog BinOp.lss 3 false true t16 (Value.int IntKind.i64 0) fun t18 =>
  Cond t18 (
  Pu Tryz.prog (Op.unary UnOp.neg t16) fun t20 =>
  J_2 t20 w_2) (
  J_2 t16 w_2)) (
  Bin Tryz.prog BinOp.lss 3 false true t0 (Value.int IntKind.i64 0) fun t28 =>
  Cond t28 (
  Bin Tryz.prog BinOp.add 9 true false (Value.string (ByteArray.mk #[45])) t3 fun t30 =>
  K t30 w_2) (
  K t3 w_2))) → J_1 t12 w_2) →
  Bin Tryz.prog BinOp.neq 3 false true t4 (Value.int IntKind.i64 0) fun t8 =>
  Gate t8 false (
  Bin Tryz.prog BinOp.eql 9 false true t3 (Value.string (ByteArray.mk #[])) fun t11 =>
  J_1 t11 w_1) (
  J_1 (Value.bool true) w_1)
def N_varveref08_digits : Note := (.seq .leaf (.seq .leaf (.seq (.seq .leaf (.sub (.loop [3, 4] (.seq (.join [12] .leaf (.cond .leaf .leaf)) (.seq (.sub (.seq .leaf (.join [5] (.seq .leaf (.cond .leaf .leaf)) .leaf))) .leaf))))) (.seq (.seq .leaf (.cond (.seq .leaf .leaf) .leaf)) (.seq .leaf .leaf)))))
theorem h_varveref08_digits (t0 : Value) (K : Value → World → Prop) (w : World) : H_varveref08_digits t0 K w = top Tryz.prog Tryz.f37 N_varveref08_digits [t0] K w := by kernel_rfl
theorem c_varveref08_digits {t0 : Value} {K : Value → World → Prop} {w : World} (h : H_varveref08_digits t0 K w) : Runs Tryz.prog F_varveref08_digits #[t0] w K := calls_of_top mixed Tryz.func37 (h_varveref08_digits t0 K w ▸ h)

end Go.Proofs.VvS
