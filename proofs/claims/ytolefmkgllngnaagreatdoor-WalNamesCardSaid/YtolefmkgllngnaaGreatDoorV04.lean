/-
  WalNames: every input answers true. Part 4 of its proof: VvHa.
-/
import Derived.Test.YtolefmkgllngnaaGreatDoorV03

namespace Go.Proofs.VvS
open Go Go.Proofs Vv
set_option maxRecDepth 100000
/-- slices.Clone[[]byte,byte] -/
def H_slices_Clone_byte_byte (t0 : Value) (K : Value → World → Prop) (w : World) : Prop :=
  Bin Tryz.prog BinOp.eql 39 false true t0 (Value.slice none 0 0) fun t4 =>
  Cond t4 (
  K (Value.slice none 0 0) w) (
  Do Tryz.prog (Instr.buildSlice 39 0 #[]) w fun t5 w_1 =>
  BltD Tryz.prog Builtin.append #[39, 39] 39 #[false, false] #[t5, t0] w_1 fun t7 w_2 =>
  K t7 w_2)
def N_slices_Clone_byte_byte : Note := (.seq .leaf (.seq (.seq .leaf (.cond (.seq .leaf .leaf) .leaf)) (.seq .leaf .leaf)))
theorem h_slices_Clone_byte_byte (t0 : Value) (K : Value → World → Prop) (w : World) : H_slices_Clone_byte_byte t0 K w = top Tryz.prog Tryz.f46 N_slices_Clone_byte_byte [t0] K w := by kernel_rfl
theorem c_slices_Clone_byte_byte {t0 : Value} {K : Value → World → Prop} {w : World} (h : H_slices_Clone_byte_byte t0 K w) : Runs Tryz.prog F_slices_Clone_byte_byte #[t0] w K := calls_of_top mixed Tryz.func46 (h_slices_Clone_byte_byte t0 K w ▸ h)

/-- varve/record.PutCommit -/
def H_record_PutCommit (t0 : Value) (K : Value → World → Prop) (w : World) : Prop :=
  Do Tryz.prog (Instr.box 65 t0) w fun t1 w_1 =>
  Rd Tryz.prog (Instr.loadAt 65 t1) w_1 fun t5 =>
  CallF Tryz.prog F_record_rightCommit #[t5] w_1 fun t6 w_2 =>
  Pu Tryz.prog (Op.unary UnOp.not t6) fun t7 =>
  Cond t7 (
  K (Value.tuple #[(Value.slice none 0 0), (Value.int IntKind.i64 60)]) w_2) (
  Do Tryz.prog (Instr.buildSlice 39 1 #[(0, (Value.int IntKind.u8 67))]) w_2 fun t8 w_3 =>
  Pu Tryz.prog (Instr.build 153 #[(0, t8)]) fun t9 =>
  Do Tryz.prog (Instr.box 153 t9) w_3 fun t10 w_4 =>
  Do Tryz.prog (Instr.alloc 151 true (Value.tuple #[])) w_4 fun t4 w_5 =>
  Do Tryz.prog (Instr.storeAt 151 t4 t10) w_5 fun _ w_6 =>
  Rd Tryz.prog (Instr.loadAt 151 t4) w_6 fun t11 =>
  Pu Tryz.prog (Instr.fieldAt 65 t1 0) fun t12 =>
  Rd Tryz.prog (Instr.loadAt 2 t12) w_6 fun t13 =>
  CallF Tryz.prog F_record_writer_number #[t11, t13] w_6 fun t14 w_7 =>
  Rd Tryz.prog (Instr.loadAt 151 t4) w_7 fun t15 =>
  Pu Tryz.prog (Instr.fieldAt 65 t1 1) fun t16 =>
  Rd Tryz.prog (Instr.loadAt 63 t16) w_7 fun t17 =>
  CallF Tryz.prog F_record_put_api_Write #[t15, t17, (Value.func (Fn.func F_record_PutCommit_1) #[] #[t4])] w_7 fun t19 w_8 =>
  Rd Tryz.prog (Instr.loadAt 151 t4) w_8 fun t20 =>
  nilOk t20 ∧
  Pu Tryz.prog (Instr.fieldAt 153 t20 0) fun t22 =>
  Rd Tryz.prog (Instr.loadAt 39 t22) w_8 fun t23 =>
  K (Value.tuple #[t23, (Value.int IntKind.i64 0)]) w_8)
def N_record_PutCommit : Note := (.seq .leaf (.seq (.seq .leaf (.cond (.seq .leaf .leaf) .leaf)) (.seq .leaf (.seq .leaf (.seq .leaf (.seq .leaf .leaf))))))
theorem h_record_PutCommit (t0 : Value) (K : Value → World → Prop) (w : World) : H_record_PutCommit t0 K w = top Tryz.prog Tryz.f66 N_record_PutCommit [t0] K w := by kernel_rfl
theorem c_record_PutCommit {t0 : Value} {K : Value → World → Prop} {w : World} (h : H_record_PutCommit t0 K w) : Runs Tryz.prog F_record_PutCommit #[t0] w K := calls_of_top mixed Tryz.func66 (h_record_PutCommit t0 K w ▸ h)

/-- varve/frame.Take -/
def H_frame_Take (t0 : Value) (t1 : Value) (K : Value → World → Prop) (w : World) : Prop :=
  ∀ J : Value → World → Prop, (∀ (t28 : Value) (w_1 : World), (
  Cond t28 (
  K (Value.tuple #[(Value.int IntKind.u64 0), (Value.slice none 0 0), (Value.int IntKind.i64 0), (Value.bool false)]) w_1) (
  Bin Tryz.prog BinOp.add 3 false true t1 (Value.int IntKind.i64 1) fun t31 =>
  Bin Tryz.prog BinOp.add 3 false true t1 (Value.int IntKind.i64 1) fun t33 =>
  Bin Tryz.prog BinOp.add 3 false true t33 (Value.int IntKind.i64 16) fun t34 =>
  Pu Tryz.prog (Instr.sliceAt 39 t0 (some t31) (some t34) none) fun t35 =>
  Pu Tryz.prog (Instr.sliceAt 39 t35 (some (Value.int IntKind.i64 8)) (some (Value.int IntKind.i64 12)) none) fun t37 =>
  CallF Tryz.prog F_frame_told #[t37] w_1 fun t38 w_2 =>
  Do Tryz.prog (convert 77 3 t38) w_2 fun t39 w_3 =>
  ∀ J_1 : Value → World → Prop, (∀ (t69 : Value) (w_4 : World), (
  Cond t69 (
  K (Value.tuple #[(Value.int IntKind.u64 0), (Value.slice none 0 0), (Value.int IntKind.i64 0), (Value.bool false)]) w_4) (
  CallF Tryz.prog F_frame_blocks #[t39] w_4 fun t72 w_5 =>
  Bin Tryz.prog BinOp.mul 3 false true t72 (Value.int IntKind.i64 32) fun t73 =>
  Bin Tryz.prog BinOp.add 3 false false t1 t73 fun t74 =>
  ∃ (J_2 : Value → Value → World → Prop) (M : Value → Value → World → Nat), J_2 (Value.slice none 0 0) t1 w_5 ∧ ∀ (t10 : Value) (t12 : Value) (w_6 : World), J_2 t10 t12 w_6 →
  Bin Tryz.prog BinOp.lss 3 false false t12 t74 fun t78 =>
  Cond t78 (
  ∀ J_3 : Value → World → Prop, (∀ (t90 : Value) (w_7 : World), (
  Cond t90 (
  K (Value.tuple #[(Value.int IntKind.u64 0), (Value.slice none 0 0), (Value.int IntKind.i64 0), (Value.bool false)]) w_7) (
  Bin Tryz.prog BinOp.add 3 false true t12 (Value.int IntKind.i64 1) fun t94 =>
  Bin Tryz.prog BinOp.add 3 false true t12 (Value.int IntKind.i64 32) fun t96 =>
  Pu Tryz.prog (Instr.sliceAt 39 t0 (some t94) (some t96) none) fun t97 =>
  BltD Tryz.prog Builtin.append #[39, 39] 39 #[false, false] #[t10, t97] w_7 fun t98 w_8 =>
  Bin Tryz.prog BinOp.add 3 false true t12 (Value.int IntKind.i64 32) fun t80 =>
  J_2 t98 t80 w_8 ∧ M t98 t80 w_8 < M t10 t12 w_6)) → J_3 t90 w_7) →
  Bin Tryz.prog BinOp.gtr 3 false false t12 t1 fun t83 =>
  Gate t83 true (
  Pu Tryz.prog (Instr.indexAt 39 t0 t12) fun t87 =>
  Rd Tryz.prog (Instr.loadAt 5 t87) w_6 fun t88 =>
  Bin Tryz.prog BinOp.neq 5 false true t88 (Value.int IntKind.u8 178) fun t89 =>
  J_3 t89 w_6) (
  J_3 (Value.bool false) w_6)) (
  Bin Tryz.prog BinOp.add 3 true false (Value.int IntKind.i64 16) t39 fun t101 =>
  Bin Tryz.prog BinOp.add 3 true false (Value.int IntKind.i64 16) t39 fun t103 =>
  Bin Tryz.prog BinOp.add 3 false true t103 (Value.int IntKind.i64 4) fun t104 =>
  Pu Tryz.prog (Instr.sliceAt 39 t10 (some t101) (some t104) none) fun t105 =>
  Bin Tryz.prog BinOp.add 3 true false (Value.int IntKind.i64 16) t39 fun t108 =>
  Bin Tryz.prog BinOp.add 3 false true t108 (Value.int IntKind.i64 4) fun t109 =>
  Pu Tryz.prog (Instr.sliceAt 39 t10 (some t109) none none) fun t110 =>
  ∀ J_4 : Value → World → Prop, (∀ (t125 : Value) (w_9 : World), (
  Cond t125 (
  K (Value.tuple #[(Value.int IntKind.u64 0), (Value.slice none 0 0), (Value.int IntKind.i64 0), (Value.bool false)]) w_9) (
  Pu Tryz.prog (Instr.sliceAt 39 t35 none (some (Value.int IntKind.i64 8)) none) fun t127 =>
  Bin Tryz.prog BinOp.add 3 true false (Value.int IntKind.i64 16) t39 fun t131 =>
  Pu Tryz.prog (Instr.sliceAt 39 t10 (some (Value.int IntKind.i64 16)) (some t131) none) fun t132 =>
  CallF Tryz.prog F_frame_told #[t127] (World.drew w_9) fun t128 w_10 =>
  CallF Tryz.prog F_slices_Clone_byte_byte #[t132] w_10 fun t133 w_11 =>
  K (Value.tuple #[t128, t133, t74, (Value.bool true)]) w_11)) → J_4 t125 w_9) →
  Pu Tryz.prog (Instr.sliceAt 39 t105 none (some (Value.int IntKind.i64 4)) none) fun t112 =>
  Bin Tryz.prog BinOp.add 3 true false (Value.int IntKind.i64 16) t39 fun t116 =>
  Pu Tryz.prog (Instr.sliceAt 39 t10 none (some t116) none) fun t117 =>
  (CallF Tryz.prog F_frame_told #[t112] (World.drew (World.drew w_6)) fun t113 w_12 =>
  Do Tryz.prog (Instr.buildSlice 80 1 #[(0, t117)]) w_12 fun t118 w_13 =>
  CallF Tryz.prog F_num_Crc #[t118] w_13 fun t119 w_14 =>
  Rd Tryz.prog (convert 169 77 t119) w_14 fun t120 =>
  Bin Tryz.prog BinOp.neq 77 false false t113 t120 fun t121 =>
  Gate t121 false (
  CallF Tryz.prog F_slices_ContainsFunc_byte_byte #[t110, (Value.func (Fn.func F_frame_Take_1) #[] #[])] w_14 fun t124 w_15 =>
  J_4 t124 w_15) (
  J_4 (Value.bool true) w_14)) ∧
  (Do Tryz.prog (Instr.buildSlice 80 1 #[(0, t117)]) (World.drew (World.drew w_6)) fun t118_1 w_16 =>
  CallF Tryz.prog F_frame_told #[t112] w_16 fun t113_1 w_17 =>
  CallF Tryz.prog F_num_Crc #[t118_1] w_17 fun t119_1 w_18 =>
  Rd Tryz.prog (convert 169 77 t119_1) w_18 fun t120_1 =>
  Bin Tryz.prog BinOp.neq 77 false false t113_1 t120_1 fun t121_1 =>
  Gate t121_1 false (
  CallF Tryz.prog F_slices_ContainsFunc_byte_byte #[t110, (Value.func (Fn.func F_frame_Take_1) #[] #[])] w_18 fun t124_1 w_19 =>
  J_4 t124_1 w_19) (
  J_4 (Value.bool true) w_18))))) → J_1 t69 w_4) →
  Pu Tryz.prog (Instr.indexAt 39 t0 t1) fun t42 =>
  Rd Tryz.prog (Instr.loadAt 5 t42) (World.drew w_3) fun t43 =>
  Bin Tryz.prog BinOp.neq 5 false true t43 (Value.int IntKind.u8 161) fun t44 =>
  Gate t44 false (
  Pu Tryz.prog (Instr.sliceAt 39 t35 (some (Value.int IntKind.i64 12)) (some (Value.int IntKind.i64 16)) none) fun t47 =>
  Pu Tryz.prog (Instr.sliceAt 39 t35 none (some (Value.int IntKind.i64 12)) none) fun t50 =>
  (CallF Tryz.prog F_frame_told #[t47] (World.drew w_3) fun t48 w_20 =>
  Do Tryz.prog (Instr.buildSlice 80 1 #[(0, t50)]) w_20 fun t51 w_21 =>
  CallF Tryz.prog F_num_Crc #[t51] w_21 fun t52 w_22 =>
  Rd Tryz.prog (convert 169 77 t52) w_22 fun t53 =>
  Bin Tryz.prog BinOp.neq 77 false false t48 t53 fun t54 =>
  Gate t54 false (
  Bin Tryz.prog BinOp.gtr 3 false true t39 (Value.int IntKind.i64 65536) fun t58 =>
  Gate t58 false (
  BltR Tryz.prog Builtin.len #[39] 3 #[false] #[t0] w_22 fun t65 =>
  Bin Tryz.prog BinOp.sub 3 false false t65 t1 fun t67 =>
  CallF Tryz.prog F_frame_blocks #[t39] w_22 fun t62 w_23 =>
  ((builtin Builtin.len #[39] 3 #[false] #[t0])).run Tryz.prog w_23 = .ok (.value t65) w_23 ∧
  Bin Tryz.prog BinOp.mul 3 false true t62 (Value.int IntKind.i64 32) fun t63 =>
  Bin Tryz.prog BinOp.gtr 3 false false t63 t67 fun t68 =>
  J_1 t68 w_23) (
  J_1 (Value.bool true) w_22)) (
  J_1 (Value.bool true) w_22)) ∧
  (Do Tryz.prog (Instr.buildSlice 80 1 #[(0, t50)]) (World.drew w_3) fun t51_1 w_24 =>
  CallF Tryz.prog F_frame_told #[t47] w_24 fun t48_1 w_25 =>
  CallF Tryz.prog F_num_Crc #[t51_1] w_25 fun t52_1 w_26 =>
  Rd Tryz.prog (convert 169 77 t52_1) w_26 fun t53_1 =>
  Bin Tryz.prog BinOp.neq 77 false false t48_1 t53_1 fun t54_1 =>
  Gate t54_1 false (
  Bin Tryz.prog BinOp.gtr 3 false true t39 (Value.int IntKind.i64 65536) fun t58_1 =>
  Gate t58_1 false (
  BltR Tryz.prog Builtin.len #[39] 3 #[false] #[t0] w_26 fun t65_1 =>
  Bin Tryz.prog BinOp.sub 3 false false t65_1 t1 fun t67_1 =>
  CallF Tryz.prog F_frame_blocks #[t39] w_26 fun t62_1 w_27 =>
  ((builtin Builtin.len #[39] 3 #[false] #[t0])).run Tryz.prog w_27 = .ok (.value t65_1) w_27 ∧
  Bin Tryz.prog BinOp.mul 3 false true t62_1 (Value.int IntKind.i64 32) fun t63_1 =>
  Bin Tryz.prog BinOp.gtr 3 false false t63_1 t67_1 fun t68_1 =>
  J_1 t68_1 w_27) (
  J_1 (Value.bool true) w_26)) (
  J_1 (Value.bool true) w_26))) (
  (J_1 (Value.bool true) (World.drew w_3)) ∧
  (J_1 (Value.bool true) (World.drew w_3))))) → J t28 w_1) →
  Bin Tryz.prog BinOp.lss 3 false true t1 (Value.int IntKind.i64 0) fun t16 =>
  Gate t16 false (
  Bin Tryz.prog BinOp.rem 3 false true t1 (Value.int IntKind.i64 32) fun t19 =>
  Bin Tryz.prog BinOp.neq 3 false true t19 (Value.int IntKind.i64 0) fun t20 =>
  Gate t20 false (
  BltR Tryz.prog Builtin.len #[39] 3 #[false] #[t0] w fun t25 =>
  Bin Tryz.prog BinOp.sub 3 false true t25 (Value.int IntKind.i64 32) fun t26 =>
  Bin Tryz.prog BinOp.gtr 3 false false t1 t26 fun t27 =>
  J t27 w) (
  J (Value.bool true) w)) (
  J (Value.bool true) w)
def N_frame_Take : Note := (.seq .leaf (.seq (.join [28] .leaf (.cond (.seq .leaf .leaf) .leaf)) (.seq .leaf (.seq .leaf (.seq (.join [69] (.draw [[], [], [], [], [], [], [], [], [1, 0, 2, 3, 4, 5, 6, 7], [], [], [1, 0, 2, 3, 4, 5, 9, 10], [6, 7, 8, 1, 0, 2, 3, 4, 5, 9, 10, 11], [], [], [], [], [], [], [], [], [], [17, 18, 9, 10, 11, 12, 13, 6, 7, 8, 14, 1, 0, 2, 3, 4, 5, 15, 16, 19, 20, 21], [], [], [], [], [], [], []] [13] (.step 0 (.step 1 (.step 2 (.step 3 (.step 4 (.step 5 (.step 6 (.step 7 (.step 9 (.step 10 (.fork 8 (.step 11 (.step 12 (.step 13 (.step 14 (.step 15 (.step 16 (.step 17 (.step 18 (.step 19 (.step 20 (.step 21 (.step 24 (.step 25 (.step 26 (.step 27 (.step 22 (.step 23 (.step 28 (.step 29 .nil))))))))))))))))))) 11 (.step 8 (.step 12 (.step 13 (.step 14 (.step 15 (.step 16 (.step 17 (.step 18 (.step 19 (.step 20 (.step 21 (.step 24 (.step 25 (.step 26 (.step 27 (.step 22 (.step 23 (.step 28 (.step 29 .nil))))))))))))))))))))))))))))))) (.cond (.seq .leaf .leaf) .leaf)) (.seq .leaf (.seq .leaf (.seq (.seq .leaf (.sub (.loop [10, 12] (.seq (.seq .leaf (.cond .leaf .leaf)) (.seq (.sub (.seq (.join [90] .leaf (.cond (.seq .leaf .leaf) .leaf)) .leaf)) .leaf))))) (.seq (.draw [[], [], [], [], [], [], [], [], [], [], [], [], [], []] [] (.step 0 (.step 1 (.step 2 (.step 3 (.step 4 (.step 5 (.step 6 (.step 7 (.step 8 (.step 9 (.step 10 (.step 11 (.step 12 (.step 13 .nil))))))))))))))) (.seq (.join [125] (.draw [[], [], [0, 1], [], [], [], [], [4, 5, 3, 6], [0, 1, 2, 4, 5, 3, 6, 7], [], [], [], [], [4, 5, 3, 6, 7, 8, 9, 0, 1, 2, 10, 11, 12], []] [9] (.step 0 (.step 1 (.step 3 (.step 4 (.step 5 (.step 6 (.fork 2 (.step 7 (.step 8 (.step 9 (.step 10 (.step 11 (.step 12 (.step 13 (.step 14 .nil)))))))) 7 (.step 2 (.step 8 (.step 9 (.step 10 (.step 11 (.step 12 (.step 13 (.step 14 .nil)))))))))))))))) (.cond (.seq .leaf .leaf) .leaf)) (.seq (.draw [[], [], [0, 1], [], [], [], [], [0, 1, 2, 4, 5, 3, 6], [], [], [], [], []] [] (.step 0 (.step 1 (.step 3 (.step 4 (.step 5 (.step 6 (.step 8 (.step 2 (.step 7 (.step 9 (.step 10 (.step 11 (.step 12 .nil)))))))))))))) .leaf)))))))))))
theorem h_frame_Take (t0 : Value) (t1 : Value) (K : Value → World → Prop) (w : World) : H_frame_Take t0 t1 K w = top Tryz.prog Tryz.f70 N_frame_Take [t0, t1] K w := by kernel_rfl
theorem c_frame_Take {t0 t1 : Value} {K : Value → World → Prop} {w : World} (h : H_frame_Take t0 t1 K w) : Runs Tryz.prog F_frame_Take #[t0, t1] w K := calls_of_top mixed Tryz.func70 (h_frame_Take t0 t1 K w ▸ h)

/-- varve/frame.All -/
def H_frame_All (t0 : Value) (t1 : Value) (K : Value → World → Prop) (w : World) : Prop :=
  ∃ (J : Value → Value → Value → World → Prop) (M : Value → Value → Value → World → Nat), J (Value.slice none 0 0) (Value.int IntKind.i64 0) t1 w ∧ ∀ (t7 : Value) (t8 : Value) (t1_1 : Value) (w_1 : World), J t7 t8 t1_1 w_1 →
  CallF Tryz.prog F_frame_Take #[t0, t8] w_1 fun t21 w_2 =>
  Pu Tryz.prog (Instr.extract t21 0) fun t22 =>
  Pu Tryz.prog (Instr.extract t21 1) fun t23 =>
  Pu Tryz.prog (Instr.extract t21 2) fun t24 =>
  Pu Tryz.prog (Instr.extract t21 3) fun t25 =>
  ∀ J_1 : Value → World → Prop, (∀ (t32 : Value) (w_3 : World), (
  Cond t32 (
  ∃ (J_2 : Value → World → Prop) (M_1 : Value → World → Nat), J_2 t8 w_3 ∧ ∀ (t13 : Value) (w_4 : World), J_2 t13 w_4 →
  BltR Tryz.prog Builtin.len #[39] 3 #[false] #[t0] w_4 fun t43 =>
  Bin Tryz.prog BinOp.lss 3 false false t13 t43 fun t44 =>
  Cond t44 (
  CallF Tryz.prog F_frame_Take #[t0, t13] w_4 fun t50 w_5 =>
  Pu Tryz.prog (Instr.extract t50 0) fun t51 =>
  Pu Tryz.prog (Instr.extract t50 1) fun t52 =>
  Pu Tryz.prog (Instr.extract t50 2) fun t53 =>
  Pu Tryz.prog (Instr.extract t50 3) fun t54 =>
  ∀ J_3 : Value → World → Prop, (∀ (t60 : Value) (w_6 : World), (
  Cond t60 (
  K (Value.tuple #[(Value.slice none 0 0), (Value.int IntKind.i64 0), (Value.int IntKind.i64 41)]) w_6) (
  Bin Tryz.prog BinOp.add 3 false true t13 (Value.int IntKind.i64 32) fun t46 =>
  J_2 t46 w_6 ∧ M_1 t46 w_6 < M_1 t13 w_4)) → J_3 t60 w_6) →
  Gate t54 true (
  Bin Tryz.prog BinOp.geq 77 false false t51 t1_1 fun t59 =>
  J_3 t59 w_5) (
  J_3 (Value.bool false) w_5)) (
  K (Value.tuple #[t7, t8, (Value.int IntKind.i64 0)]) w_4)) (
  Do Tryz.prog (Instr.buildSlice 80 1 #[(0, t23)]) w_3 fun t35 w_7 =>
  BltD Tryz.prog Builtin.append #[80, 80] 80 #[false, false] #[t7, t35] w_7 fun t36 w_8 =>
  Bin Tryz.prog BinOp.add 77 false true t1_1 (Value.int IntKind.u64 1) fun t39 =>
  J t36 t24 t39 w_8 ∧ M t36 t24 t39 w_8 < M t7 t8 t1_1 w_1)) → J_1 t32 w_3) →
  Pu Tryz.prog (Op.unary UnOp.not t25) fun t27 =>
  Gate t27 false (
  Bin Tryz.prog BinOp.neq 77 false false t22 t1_1 fun t31 =>
  J_1 t31 w_2) (
  J_1 (Value.bool true) w_2)
def N_frame_All : Note := (.seq .leaf (.sub (.seq .leaf (.seq .leaf (.seq .leaf (.seq (.sub (.loop [7, 8, 1] (.sub (.seq .leaf (.seq (.join [32] .leaf (.cond .leaf .leaf)) (.seq .leaf (.seq .leaf .leaf))))))) (.seq (.seq .leaf (.sub (.loop [13] (.seq (.seq .leaf (.cond .leaf .leaf)) (.seq (.sub (.seq .leaf (.join [60] .leaf (.cond (.seq .leaf .leaf) .leaf)))) .leaf))))) (.seq .leaf .leaf))))))))
theorem h_frame_All (t0 : Value) (t1 : Value) (K : Value → World → Prop) (w : World) : H_frame_All t0 t1 K w = top Tryz.prog Tryz.f71 N_frame_All [t0, t1] K w := by kernel_rfl
theorem c_frame_All {t0 t1 : Value} {K : Value → World → Prop} {w : World} (h : H_frame_All t0 t1 K w) : Runs Tryz.prog F_frame_All #[t0, t1] w K := calls_of_top mixed Tryz.func71 (h_frame_All t0 t1 K w ▸ h)

/-- varve/record.Commit -/
def H_record_Commit (t0 : Value) (K : Value → World → Prop) (w : World) : Prop :=
  Do Tryz.prog (Instr.alloc 65 true (Value.tuple #[])) w fun t2 w_1 =>
  Pu Tryz.prog (Instr.build 181 #[(0, (Value.int IntKind.u8 67)), (1, (Value.func (Fn.func F_record_Commit_1) #[] #[])), (2, (Value.func (Fn.func F_record_rightCommit) #[] #[]))]) fun t5 =>
  CallF Tryz.prog F_record_take_api_Commit #[t5, t0] w_1 fun t7 w_2 =>
  Pu Tryz.prog (Instr.extract t7 0) fun t8 =>
  Pu Tryz.prog (Instr.extract t7 1) fun t9 =>
  Pu Tryz.prog (Instr.extract t7 2) fun t10 =>
  Do Tryz.prog (Instr.storeAt 65 t2 t8) w_2 fun _ w_3 =>
  Rd Tryz.prog (do loadVar 65 (← asAddr t2)) w_3 fun r2 =>
  K (Value.tuple #[r2, t9, t10]) w_3
def N_record_Commit : Note := (.seq .leaf (.seq .leaf .leaf))
theorem h_record_Commit (t0 : Value) (K : Value → World → Prop) (w : World) : H_record_Commit t0 K w = top Tryz.prog Tryz.f73 N_record_Commit [t0] K w := by kernel_rfl
theorem c_record_Commit {t0 : Value} {K : Value → World → Prop} {w : World} (h : H_record_Commit t0 K w) : Runs Tryz.prog F_record_Commit #[t0] w K := calls_of_top mixed Tryz.func73 (h_record_Commit t0 K w ▸ h)

/-- strings.ContainsFunc -/
def H_strings_ContainsFunc (t0 : Value) (t1 : Value) (K : Value → World → Prop) (w : World) : Prop :=
  CallF Tryz.prog F_strings_IndexFunc #[t0, t1] w fun t7 w_1 =>
  Bin Tryz.prog BinOp.geq 3 false true t7 (Value.int IntKind.i64 0) fun t8 =>
  K t8 w_1
def N_strings_ContainsFunc : Note := (.seq .leaf (.seq .leaf .leaf))
theorem h_strings_ContainsFunc (t0 : Value) (t1 : Value) (K : Value → World → Prop) (w : World) : H_strings_ContainsFunc t0 t1 K w = top Tryz.prog Tryz.f81 N_strings_ContainsFunc [t0, t1] K w := by kernel_rfl
theorem c_strings_ContainsFunc {t0 t1 : Value} {K : Value → World → Prop} {w : World} (h : H_strings_ContainsFunc t0 t1 K w) : Runs Tryz.prog F_strings_ContainsFunc #[t0, t1] w K := calls_of_top mixed Tryz.func81 (h_strings_ContainsFunc t0 t1 K w ▸ h)

/-- slices.DeleteFunc[[]int,int] -/
def H_slices_DeleteFunc_int_int (t0 : Value) (t1 : Value) (K : Value → World → Prop) (w : World) : Prop :=
  CallF Tryz.prog F_slices_IndexFunc_int_int #[t0, t1] w fun t10 w_1 =>
  Bin Tryz.prog BinOp.eql 3 false true t10 (Value.int IntKind.i64 (-1)) fun t12 =>
  Cond t12 (
  K t0 w_1) (
  Bin Tryz.prog BinOp.add 3 false true t10 (Value.int IntKind.i64 1) fun t15 =>
  ∃ (J : Value → Value → World → Prop) (M : Value → Value → World → Nat), J t10 t15 w_1 ∧ ∀ (t5 : Value) (t6 : Value) (w_2 : World), J t5 t6 w_2 →
  BltR Tryz.prog Builtin.len #[83] 3 #[false] #[t0] w_2 fun t18 =>
  Bin Tryz.prog BinOp.lss 3 false false t6 t18 fun t19 =>
  Cond t19 (
  ∀ J_1 : Value → World → Prop, (∀ (t5_1 : Value) (w_3 : World), (
  Bin Tryz.prog BinOp.add 3 false true t6 (Value.int IntKind.i64 1) fun t21 =>
  J t5_1 t21 w_3 ∧ M t5_1 t21 w_3 < M t5 t6 w_2) → J_1 t5_1 w_3) →
  Pu Tryz.prog (Instr.indexAt 83 t0 t6) fun t24 =>
  Rd Tryz.prog (Instr.loadAt 3 t24) w_2 fun t25 =>
  CallV Tryz.prog t1 #[t25] w_2 fun t28 w_4 =>
  Pu Tryz.prog (Op.unary UnOp.not t28) fun t29 =>
  Cond t29 (
  Pu Tryz.prog (Instr.indexAt 83 t0 t5) fun t33 =>
  Do Tryz.prog (Instr.storeAt 3 t33 t25) w_4 fun _ w_5 =>
  Bin Tryz.prog BinOp.add 3 false true t5 (Value.int IntKind.i64 1) fun t35 =>
  J_1 t35 w_5) (
  J_1 t5 w_4)) (
  Pu Tryz.prog (Instr.sliceAt 83 t0 (some t5) none none) fun t38 =>
  BltD Tryz.prog Builtin.clear #[83] 0 #[false] #[t38] w_2 fun _ w_6 =>
  Pu Tryz.prog (Instr.sliceAt 83 t0 none (some t5) none) fun t41 =>
  K t41 w_6))
def N_slices_DeleteFunc_int_int : Note := (.seq .leaf (.seq .leaf (.seq (.seq .leaf (.cond (.seq .leaf .leaf) .leaf)) (.seq (.seq .leaf (.sub (.loop [5, 6] (.seq (.seq .leaf (.cond .leaf .leaf)) (.join [5] (.sub (.seq .leaf (.seq .leaf (.cond (.seq .leaf .leaf) .leaf)))) .leaf))))) (.seq .leaf (.seq .leaf .leaf))))))
theorem h_slices_DeleteFunc_int_int (t0 : Value) (t1 : Value) (K : Value → World → Prop) (w : World) : H_slices_DeleteFunc_int_int t0 t1 K w = top Tryz.prog Tryz.f83 N_slices_DeleteFunc_int_int [t0, t1] K w := by kernel_rfl
theorem c_slices_DeleteFunc_int_int {t0 t1 : Value} {K : Value → World → Prop} {w : World} (h : H_slices_DeleteFunc_int_int t0 t1 K w) : Runs Tryz.prog F_slices_DeleteFunc_int_int #[t0, t1] w K := calls_of_top mixed Tryz.func83 (h_slices_DeleteFunc_int_int t0 t1 K w ▸ h)

/-- varve/record.rightCommit -/
def H_record_rightCommit (t0 : Value) (K : Value → World → Prop) (w : World) : Prop :=
  Do Tryz.prog (Instr.box 65 t0) w fun t1 w_1 =>
  Pu Tryz.prog (Instr.fieldAt 65 t1 0) fun t3 =>
  Rd Tryz.prog (Instr.loadAt 2 t3) w_1 fun t4 =>
  CallF Tryz.prog F_record_isTime #[t4] w_1 fun t5 w_2 =>
  Gate t5 true (
  Pu Tryz.prog (Instr.fieldAt 65 t1 1) fun t7 =>
  Rd Tryz.prog (Instr.loadAt 63 t7) w_2 fun t8 =>
  BltR Tryz.prog Builtin.len #[63] 3 #[false] #[t8] w_2 fun t9 =>
  Bin Tryz.prog BinOp.leq 3 false true t9 (Value.int IntKind.i64 64) fun t10 =>
  Gate t10 true (
  Pu Tryz.prog (Instr.fieldAt 65 t1 1) fun t13 =>
  Rd Tryz.prog (Instr.loadAt 63 t13) w_2 fun t14 =>
  CallF Tryz.prog F_record_all_api_Write #[t14, (Value.func (Fn.func F_record_rightCommit_1) #[] #[t1])] w_2 fun t16 w_3 =>
  K t16 w_3) (
  K (Value.bool false) w_2)) (
  K (Value.bool false) w_2)
def N_record_rightCommit : Note := (.seq .leaf (.seq .leaf .leaf))
theorem h_record_rightCommit (t0 : Value) (K : Value → World → Prop) (w : World) : H_record_rightCommit t0 K w = top Tryz.prog Tryz.f102 N_record_rightCommit [t0] K w := by kernel_rfl
theorem c_record_rightCommit {t0 : Value} {K : Value → World → Prop} {w : World} (h : H_record_rightCommit t0 K w) : Runs Tryz.prog F_record_rightCommit #[t0] w K := calls_of_top mixed Tryz.func102 (h_record_rightCommit t0 K w ▸ h)

/-- (*varve/record.writer).number -/
def H_record_writer_number (t0 : Value) (t1 : Value) (K : Value → World → Prop) (w : World) : Prop :=
  nilOk t0 ∧
  Pu Tryz.prog (Instr.fieldAt 153 t0 0) fun t7 =>
  Rd Tryz.prog (Instr.loadAt 39 t7) w fun t8 =>
  Do Tryz.prog (convert 2 77 t1) w fun t10 w_1 =>
  CallF Tryz.prog F_num_Put #[t8, t10] w_1 fun t11 w_2 =>
  nilOk t0 ∧
  Pu Tryz.prog (Instr.fieldAt 153 t0 0) fun t13 =>
  Do Tryz.prog (Instr.storeAt 39 t13 t11) w_2 fun _ w_3 =>
  K (Value.tuple #[]) w_3
def N_record_writer_number : Note := .leaf
theorem h_record_writer_number (t0 : Value) (t1 : Value) (K : Value → World → Prop) (w : World) : H_record_writer_number t0 t1 K w = top Tryz.prog Tryz.f103 N_record_writer_number [t0, t1] K w := by kernel_rfl
theorem c_record_writer_number {t0 t1 : Value} {K : Value → World → Prop} {w : World} (h : H_record_writer_number t0 t1 K w) : Runs Tryz.prog F_record_writer_number #[t0, t1] w K := calls_of_top mixed Tryz.func103 (h_record_writer_number t0 t1 K w ▸ h)

/-- varve/record.put[varve/api.Write] -/
def H_record_put_api_Write (t0 : Value) (t1 : Value) (t2 : Value) (K : Value → World → Prop) (w : World) : Prop :=
  BltR Tryz.prog Builtin.len #[63] 3 #[false] #[t1] w fun t10 =>
  CallF Tryz.prog F_record_writer_number #[t0, t10] w fun t11 w_1 =>
  BltR Tryz.prog Builtin.len #[63] 3 #[false] #[t1] w_1 fun t13 =>
  ∃ (J : Value → World → Prop) (M : Value → World → Nat), J (Value.int IntKind.i64 0) w_1 ∧ ∀ (t14 : Value) (w_2 : World), J t14 w_2 →
  Bin Tryz.prog BinOp.lss 3 false false t14 t13 fun t15 =>
  Cond t15 (
  Pu Tryz.prog (Instr.indexAt 63 t1 t14) fun t16 =>
  Rd Tryz.prog (Instr.loadAt 111 t16) w_2 fun t17 =>
  Do Tryz.prog (Instr.alloc 111 true (Value.tuple #[])) w_2 fun t7 w_3 =>
  Do Tryz.prog (Instr.storeAt 111 t7 t17) w_3 fun _ w_4 =>
  Rd Tryz.prog (Instr.loadAt 111 t7) w_4 fun t19 =>
  CallV Tryz.prog t2 #[t19] w_4 fun t20 w_5 =>
  Bin Tryz.prog BinOp.add 3 false true t14 (Value.int IntKind.i64 1) fun t21 =>
  J t21 w_5 ∧ M t21 w_5 < M t14 w_2) (
  K (Value.tuple #[]) w_2)
def N_record_put_api_Write : Note := (.seq .leaf (.seq .leaf (.sub (.loop [14] (.seq .leaf (.seq (.cond .leaf .leaf) (.seq (.sub (.seq .leaf .leaf)) .leaf)))))))
theorem h_record_put_api_Write (t0 : Value) (t1 : Value) (t2 : Value) (K : Value → World → Prop) (w : World) : H_record_put_api_Write t0 t1 t2 K w = top Tryz.prog Tryz.f104 N_record_put_api_Write [t0, t1, t2] K w := by kernel_rfl
theorem c_record_put_api_Write {t0 t1 t2 : Value} {K : Value → World → Prop} {w : World} (h : H_record_put_api_Write t0 t1 t2 K w) : Runs Tryz.prog F_record_put_api_Write #[t0, t1, t2] w K := calls_of_top mixed Tryz.func104 (h_record_put_api_Write t0 t1 t2 K w ▸ h)

/-- varve/record.PutCommit$1 -/
def H_record_PutCommit_1 (t0 : Value) (t1 : Value) (K : Value → World → Prop) (w : World) : Prop :=
  Do Tryz.prog (Instr.box 111 t0) w fun t2 w_1 =>
  Pu Tryz.prog (Instr.fieldAt 111 t2 2) fun t3 =>
  Rd Tryz.prog (Instr.loadAt 4 t3) w_1 fun t4 =>
  Cond t4 (
  Rd Tryz.prog (Instr.loadAt 151 t1) (World.drew w_1) fun t5 =>
  Rd Tryz.prog (Instr.loadAt 151 t1) (World.drew w_1) fun t6 =>
  nilOk t6 ∧
  Pu Tryz.prog (Instr.fieldAt 153 t6 0) fun t8 =>
  Rd Tryz.prog (Instr.loadAt 39 t8) (World.drew w_1) fun t9 =>
  Do Tryz.prog (Instr.buildSlice 39 1 #[(0, (Value.int IntKind.u8 1))]) (World.drew w_1) fun t10 w_2 =>
  ((Instr.loadAt 39 t8)).run Tryz.prog w_2 = .ok t9 w_2 ∧
  ((Instr.loadAt 151 t1)).run Tryz.prog w_2 = .ok t6 w_2 ∧
  ((Instr.loadAt 151 t1)).run Tryz.prog w_2 = .ok t5 w_2 ∧
  BltD Tryz.prog Builtin.append #[39, 39] 39 #[false, false] #[t9, t10] w_2 fun t11 w_3 =>
  ((Instr.loadAt 151 t1)).run Tryz.prog w_3 = .ok t5 w_3 ∧
  nilOk t5 ∧
  Pu Tryz.prog (Instr.fieldAt 153 t5 0) fun t13 =>
  Do Tryz.prog (Instr.storeAt 39 t13 t11) w_3 fun _ w_4 =>
  Rd Tryz.prog (Instr.loadAt 151 t1) w_4 fun t14 =>
  Pu Tryz.prog (Instr.fieldAt 111 t2 0) fun t15 =>
  Rd Tryz.prog (Instr.loadAt 9 t15) w_4 fun t16 =>
  CallF Tryz.prog F_record_writer_text #[t14, t16] w_4 fun t17 w_5 =>
  K (Value.tuple #[]) w_5) (
  Rd Tryz.prog (Instr.loadAt 151 t1) (World.drew w_1) fun t18 =>
  Rd Tryz.prog (Instr.loadAt 151 t1) (World.drew w_1) fun t19 =>
  nilOk t19 ∧
  Pu Tryz.prog (Instr.fieldAt 153 t19 0) fun t21 =>
  Rd Tryz.prog (Instr.loadAt 39 t21) (World.drew w_1) fun t22 =>
  Do Tryz.prog (Instr.buildSlice 39 1 #[(0, (Value.int IntKind.u8 0))]) (World.drew w_1) fun t23 w_6 =>
  ((Instr.loadAt 39 t21)).run Tryz.prog w_6 = .ok t22 w_6 ∧
  ((Instr.loadAt 151 t1)).run Tryz.prog w_6 = .ok t19 w_6 ∧
  ((Instr.loadAt 151 t1)).run Tryz.prog w_6 = .ok t18 w_6 ∧
  BltD Tryz.prog Builtin.append #[39, 39] 39 #[false, false] #[t22, t23] w_6 fun t24 w_7 =>
  ((Instr.loadAt 151 t1)).run Tryz.prog w_7 = .ok t18 w_7 ∧
  nilOk t18 ∧
  Pu Tryz.prog (Instr.fieldAt 153 t18 0) fun t26 =>
  Do Tryz.prog (Instr.storeAt 39 t26 t24) w_7 fun _ w_8 =>
  Rd Tryz.prog (Instr.loadAt 151 t1) w_8 fun t27 =>
  Pu Tryz.prog (Instr.fieldAt 111 t2 0) fun t28 =>
  Rd Tryz.prog (Instr.loadAt 9 t28) w_8 fun t29 =>
  CallF Tryz.prog F_record_writer_text #[t27, t29] w_8 fun t30 w_9 =>
  Rd Tryz.prog (Instr.loadAt 151 t1) w_9 fun t31 =>
  Pu Tryz.prog (Instr.fieldAt 111 t2 1) fun t32 =>
  Rd Tryz.prog (Instr.loadAt 9 t32) w_9 fun t33 =>
  CallF Tryz.prog F_record_writer_text #[t31, t33] w_9 fun t34 w_10 =>
  K (Value.tuple #[]) w_10)
def N_record_PutCommit_1 : Note := (.seq .leaf (.seq (.seq .leaf (.cond (.seq (.draw [[], [], [], [], [], [], [5, 1, 2, 3, 4], [], [], [6, 5, 4, 3, 2, 1, 0, 7, 8]] [] (.step 0 (.step 1 (.step 2 (.step 3 (.step 4 (.step 5 (.step 6 (.step 7 (.step 8 (.step 9 .nil))))))))))) (.seq .leaf .leaf)) .leaf)) (.seq (.draw [[], [], [], [], [], [], [5, 1, 2, 3, 4], [], [], [6, 5, 4, 3, 2, 1, 0, 7, 8]] [] (.step 0 (.step 1 (.step 2 (.step 3 (.step 4 (.step 5 (.step 6 (.step 7 (.step 8 (.step 9 .nil))))))))))) (.seq .leaf .leaf))))
theorem h_record_PutCommit_1 (t0 : Value) (t1 : Value) (K : Value → World → Prop) (w : World) : H_record_PutCommit_1 t0 t1 K w = top Tryz.prog Tryz.f105 N_record_PutCommit_1 [t0, t1] K w := by kernel_rfl
theorem c_record_PutCommit_1 {t0 t1 : Value} {K : Value → World → Prop} {w : World} (h : H_record_PutCommit_1 t0 t1 K w) : Runs Tryz.prog F_record_PutCommit_1 #[t0, t1] w K := calls_of_top mixed Tryz.func105 (h_record_PutCommit_1 t0 t1 K w ▸ h)

/-- (*varve/record.writer).text -/
def H_record_writer_text (t0 : Value) (t1 : Value) (K : Value → World → Prop) (w : World) : Prop :=
  nilOk t0 ∧
  Pu Tryz.prog (Instr.fieldAt 153 t0 0) fun t7 =>
  Rd Tryz.prog (Instr.loadAt 39 t7) w fun t8 =>
  CallF Tryz.prog F_num_PutText #[t8, t1] w fun t10 w_1 =>
  nilOk t0 ∧
  Pu Tryz.prog (Instr.fieldAt 153 t0 0) fun t12 =>
  Do Tryz.prog (Instr.storeAt 39 t12 t10) w_1 fun _ w_2 =>
  K (Value.tuple #[]) w_2
def N_record_writer_text : Note := .leaf
theorem h_record_writer_text (t0 : Value) (t1 : Value) (K : Value → World → Prop) (w : World) : H_record_writer_text t0 t1 K w = top Tryz.prog Tryz.f106 N_record_writer_text [t0, t1] K w := by kernel_rfl
theorem c_record_writer_text {t0 t1 : Value} {K : Value → World → Prop} {w : World} (h : H_record_writer_text t0 t1 K w) : Runs Tryz.prog F_record_writer_text #[t0, t1] w K := calls_of_top mixed Tryz.func106 (h_record_writer_text t0 t1 K w ▸ h)

/-- varve/frame.told -/
def H_frame_told (t0 : Value) (K : Value → World → Prop) (w : World) : Prop :=
  BltR Tryz.prog Builtin.len #[39] 3 #[false] #[t0] w fun t7 =>
  ∃ (J : Value → Value → World → Prop) (M : Value → Value → World → Nat), J (Value.int IntKind.u64 0) (Value.int IntKind.i64 0) w ∧ ∀ (t3 : Value) (t8 : Value) (w_1 : World), J t3 t8 w_1 →
  Bin Tryz.prog BinOp.lss 3 false false t8 t7 fun t9 =>
  Cond t9 (
  Pu Tryz.prog (Instr.indexAt 39 t0 t8) fun t11 =>
  Rd Tryz.prog (Instr.loadAt 5 t11) w_1 fun t12 =>
  Do Tryz.prog (convert 5 77 t12) w_1 fun t15 w_2 =>
  Bin Tryz.prog BinOp.mul 3 true false (Value.int IntKind.i64 8) t8 fun t17 =>
  Bin Tryz.prog BinOp.shl 77 false false t15 t17 fun t18 =>
  Bin Tryz.prog BinOp.or 77 false false t3 t18 fun t19 =>
  Bin Tryz.prog BinOp.add 3 false true t8 (Value.int IntKind.i64 1) fun t20 =>
  J t19 t20 w_2 ∧ M t19 t20 w_2 < M t3 t8 w_1) (
  K t3 w_1)
def N_frame_told : Note := (.seq .leaf (.seq .leaf (.seq (.seq .leaf (.sub (.loop [3, 8] (.seq .leaf (.seq (.cond .leaf .leaf) (.seq (.sub (.seq .leaf .leaf)) .leaf)))))) (.seq .leaf .leaf))))
theorem h_frame_told (t0 : Value) (K : Value → World → Prop) (w : World) : H_frame_told t0 K w = top Tryz.prog Tryz.f112 N_frame_told [t0] K w := by kernel_rfl
theorem c_frame_told {t0 : Value} {K : Value → World → Prop} {w : World} (h : H_frame_told t0 K w) : Runs Tryz.prog F_frame_told #[t0] w K := calls_of_top mixed Tryz.func112 (h_frame_told t0 K w ▸ h)

/-- varve/num.Crc -/
def H_num_Crc (t0 : Value) (K : Value → World → Prop) (w : World) : Prop :=
  BltR Tryz.prog Builtin.len #[80] 3 #[false] #[t0] w fun t9 =>
  ∃ (J : Value → Value → World → Prop) (M : Value → Value → World → Nat), J (Value.int IntKind.u32 4294967295) (Value.int IntKind.i64 0) w ∧ ∀ (t3 : Value) (t10 : Value) (w_1 : World), J t3 t10 w_1 →
  Bin Tryz.prog BinOp.lss 3 false false t10 t9 fun t11 =>
  Cond t11 (
  Pu Tryz.prog (Instr.indexAt 80 t0 t10) fun t12 =>
  Rd Tryz.prog (Instr.loadAt 39 t12) w_1 fun t13 =>
  BltR Tryz.prog Builtin.len #[39] 3 #[false] #[t13] w_1 fun t15 =>
  ∃ (J_1 : Value → Value → World → Prop) (M_1 : Value → Value → World → Nat), J_1 t3 (Value.int IntKind.i64 0) w_1 ∧ ∀ (t3_1 : Value) (t16 : Value) (w_2 : World), J_1 t3_1 t16 w_2 →
  Bin Tryz.prog BinOp.lss 3 false false t16 t15 fun t17 =>
  Cond t17 (
  Pu Tryz.prog (Instr.indexAt 39 t13 t16) fun t18 =>
  Rd Tryz.prog (Instr.loadAt 5 t18) w_2 fun t19 =>
  Do Tryz.prog (convert 5 169 t19) w_2 fun t22 w_3 =>
  Bin Tryz.prog BinOp.xor 169 false false t3_1 t22 fun t23 =>
  ∃ (J_2 : Value → Value → World → Prop) (M_2 : Value → Value → World → Nat), J_2 t23 (Value.int IntKind.i64 0) w_3 ∧ ∀ (t3_2 : Value) (t24 : Value) (w_4 : World), J_2 t3_2 t24 w_4 →
  Bin Tryz.prog BinOp.lss 3 false true t24 (Value.int IntKind.i64 8) fun t25 =>
  Cond t25 (
  Bin Tryz.prog BinOp.shr 169 false true t3_2 (Value.int IntKind.u64 1) fun t27 =>
  Bin Tryz.prog BinOp.and 169 false true t3_2 (Value.int IntKind.u32 1) fun t29 =>
  Pu Tryz.prog (Op.unary UnOp.neg t29) fun t30 =>
  Bin Tryz.prog BinOp.and 169 true false (Value.int IntKind.u32 3988292384) t30 fun t31 =>
  Bin Tryz.prog BinOp.xor 169 false false t27 t31 fun t32 =>
  Bin Tryz.prog BinOp.add 3 false true t24 (Value.int IntKind.i64 1) fun t33 =>
  J_2 t32 t33 w_4 ∧ M_2 t32 t33 w_4 < M_2 t3_2 t24 w_4) (
  Bin Tryz.prog BinOp.add 3 false true t16 (Value.int IntKind.i64 1) fun t34 =>
  J_1 t3_2 t34 w_4 ∧ M_1 t3_2 t34 w_4 < M_1 t3_1 t16 w_2)) (
  Bin Tryz.prog BinOp.add 3 false true t10 (Value.int IntKind.i64 1) fun t35 =>
  J t3_1 t35 w_2 ∧ M t3_1 t35 w_2 < M t3 t10 w_1)) (
  Pu Tryz.prog (Op.unary UnOp.xor t3) fun t37 =>
  K t37 w_1)
def N_num_Crc : Note := (.seq .leaf (.seq .leaf (.seq (.seq .leaf (.sub (.loop [3, 10] (.seq .leaf (.seq (.cond .leaf .leaf) (.seq (.sub (.seq .leaf (.seq .leaf (.sub (.loop [3, 16] (.seq .leaf (.seq (.cond .leaf .leaf) (.seq (.sub (.seq .leaf (.seq .leaf (.seq .leaf (.sub (.loop [3, 24] (.seq .leaf (.seq (.cond .leaf .leaf) (.seq (.sub .leaf) .leaf))))))))) .leaf)))))))) .leaf)))))) (.seq .leaf .leaf))))
theorem h_num_Crc (t0 : Value) (K : Value → World → Prop) (w : World) : H_num_Crc t0 K w = top Tryz.prog Tryz.f113 N_num_Crc [t0] K w := by kernel_rfl
theorem c_num_Crc {t0 : Value} {K : Value → World → Prop} {w : World} (h : H_num_Crc t0 K w) : Runs Tryz.prog F_num_Crc #[t0] w K := calls_of_top mixed Tryz.func113 (h_num_Crc t0 K w ▸ h)

/-- varve/frame.blocks -/
def H_frame_blocks (t0 : Value) (K : Value → World → Prop) (w : World) : Prop :=
  Bin Tryz.prog BinOp.add 3 true false (Value.int IntKind.i64 16) t0 fun t4 =>
  Bin Tryz.prog BinOp.add 3 false true t4 (Value.int IntKind.i64 4) fun t5 =>
  Bin Tryz.prog BinOp.add 3 false true t5 (Value.int IntKind.i64 31) fun t6 =>
  Bin Tryz.prog BinOp.sub 3 false true t6 (Value.int IntKind.i64 1) fun t7 =>
  Bin Tryz.prog BinOp.quo 3 false true t7 (Value.int IntKind.i64 31) fun t8 =>
  K t8 w
def N_frame_blocks : Note := (.seq .leaf (.seq .leaf .leaf))
theorem h_frame_blocks (t0 : Value) (K : Value → World → Prop) (w : World) : H_frame_blocks t0 K w = top Tryz.prog Tryz.f114 N_frame_blocks [t0] K w := by kernel_rfl
theorem c_frame_blocks {t0 : Value} {K : Value → World → Prop} {w : World} (h : H_frame_blocks t0 K w) : Runs Tryz.prog F_frame_blocks #[t0] w K := calls_of_top mixed Tryz.func114 (h_frame_blocks t0 K w ▸ h)

/-- slices.ContainsFunc[[]byte,byte] -/
def H_slices_ContainsFunc_byte_byte (t0 : Value) (t1 : Value) (K : Value → World → Prop) (w : World) : Prop :=
  CallF Tryz.prog F_slices_IndexFunc_byte_byte #[t0, t1] w fun t7 w_1 =>
  Bin Tryz.prog BinOp.geq 3 false true t7 (Value.int IntKind.i64 0) fun t8 =>
  K t8 w_1
def N_slices_ContainsFunc_byte_byte : Note := (.seq .leaf (.seq .leaf .leaf))
theorem h_slices_ContainsFunc_byte_byte (t0 : Value) (t1 : Value) (K : Value → World → Prop) (w : World) : H_slices_ContainsFunc_byte_byte t0 t1 K w = top Tryz.prog Tryz.f115 N_slices_ContainsFunc_byte_byte [t0, t1] K w := by kernel_rfl
theorem c_slices_ContainsFunc_byte_byte {t0 t1 : Value} {K : Value → World → Prop} {w : World} (h : H_slices_ContainsFunc_byte_byte t0 t1 K w) : Runs Tryz.prog F_slices_ContainsFunc_byte_byte #[t0, t1] w K := calls_of_top mixed Tryz.func115 (h_slices_ContainsFunc_byte_byte t0 t1 K w ▸ h)

/-- varve/frame.Take$1 -/
def H_frame_Take_1 (t0 : Value) (K : Value → World → Prop) (w : World) : Prop :=
  Bin Tryz.prog BinOp.neq 5 false true t0 (Value.int IntKind.u8 0) fun t4 =>
  K t4 w
def N_frame_Take_1 : Note := (.seq .leaf (.seq .leaf .leaf))
theorem h_frame_Take_1 (t0 : Value) (K : Value → World → Prop) (w : World) : H_frame_Take_1 t0 K w = top Tryz.prog Tryz.f116 N_frame_Take_1 [t0] K w := by kernel_rfl
theorem c_frame_Take_1 {t0 : Value} {K : Value → World → Prop} {w : World} (h : H_frame_Take_1 t0 K w) : Runs Tryz.prog F_frame_Take_1 #[t0] w K := calls_of_top mixed Tryz.func116 (h_frame_Take_1 t0 K w ▸ h)

/-- varve/num.Put -/
def H_num_Put (t0 : Value) (t1 : Value) (K : Value → World → Prop) (w : World) : Prop :=
  CallF Tryz.prog F_slices_Clone_byte_byte #[t0] w fun t6 w_1 =>
  CallF Tryz.prog F_num_number #[t6, t1] w_1 fun t8 w_2 =>
  K t8 w_2
def N_num_Put : Note := (.seq .leaf (.seq .leaf .leaf))
theorem h_num_Put (t0 : Value) (t1 : Value) (K : Value → World → Prop) (w : World) : H_num_Put t0 t1 K w = top Tryz.prog Tryz.f117 N_num_Put [t0, t1] K w := by kernel_rfl
theorem c_num_Put {t0 t1 : Value} {K : Value → World → Prop} {w : World} (h : H_num_Put t0 t1 K w) : Runs Tryz.prog F_num_Put #[t0, t1] w K := calls_of_top mixed Tryz.func117 (h_num_Put t0 t1 K w ▸ h)

/-- varve/record.take[varve/api.Commit] -/
def H_record_take_api_Commit (t0 : Value) (t1 : Value) (K : Value → World → Prop) (w : World) : Prop :=
  Do Tryz.prog (Instr.box 181 t0) w fun t2 w_1 =>
  Do Tryz.prog (Instr.alloc 65 true (Value.tuple #[])) w_1 fun t4 w_2 =>
  Do Tryz.prog (Instr.alloc 65 true (Value.tuple #[])) w_2 fun t7 w_3 =>
  ∀ J : Value → World → Prop, (∀ (t20 : Value) (w_4 : World), (
  Cond t20 (
  Rd Tryz.prog (Instr.loadAt 65 t7) w_4 fun t21 =>
  Do Tryz.prog (Instr.storeAt 65 t4 t21) w_4 fun _ w_5 =>
  Rd Tryz.prog (do loadVar 65 (← asAddr t4)) w_5 fun r4 =>
  K (Value.tuple #[r4, (Value.int IntKind.i64 0), (Value.int IntKind.i64 61)]) w_5) (
  Pu Tryz.prog (Instr.build 213 #[(0, t1), (1, (Value.int IntKind.i64 1))]) fun t23 =>
  Do Tryz.prog (Instr.box 213 t23) w_4 fun t24 w_6 =>
  Pu Tryz.prog (Instr.fieldAt 181 t2 1) fun t25 =>
  Rd Tryz.prog (Instr.loadAt 179 t25) w_6 fun t26 =>
  CallV Tryz.prog t26 #[t24] w_6 fun t28 w_7 =>
  Do Tryz.prog (Instr.alloc 65 true (Value.tuple #[])) w_7 fun t9 w_8 =>
  Do Tryz.prog (Instr.storeAt 65 t9 t28) w_8 fun _ w_9 =>
  ∀ J_1 : Value → World → Prop, (∀ (t29 : Value) (w_10 : World), (
  Cond t29 (
  Rd Tryz.prog (Instr.loadAt 65 t7) (World.drew w_10) fun t43 =>
  nilOk t24 ∧
  Pu Tryz.prog (Instr.fieldAt 213 t24 1) fun t46 =>
  Rd Tryz.prog (Instr.loadAt 3 t46) (World.drew w_10) fun t47 =>
  Do Tryz.prog (Instr.storeAt 65 t4 t43) (World.drew w_10) fun _ w_11 =>
  ((Instr.loadAt 3 t46)).run Tryz.prog w_11 = .ok t47 w_11 ∧
  Rd Tryz.prog (do loadVar 65 (← asAddr t4)) w_11 fun r4_1 =>
  K (Value.tuple #[r4_1, t47, (Value.int IntKind.i64 61)]) w_11) (
  Pu Tryz.prog (Instr.fieldAt 181 t2 2) fun t49 =>
  Rd Tryz.prog (Instr.loadAt 150 t49) w_10 fun t50 =>
  Rd Tryz.prog (Instr.loadAt 65 t9) w_10 fun t51 =>
  CallV Tryz.prog t50 #[t51] w_10 fun t52 w_12 =>
  Pu Tryz.prog (Op.unary UnOp.not t52) fun t53 =>
  Cond t53 (
  Rd Tryz.prog (Instr.loadAt 65 t7) w_12 fun t54 =>
  Do Tryz.prog (Instr.storeAt 65 t4 t54) w_12 fun _ w_13 =>
  Rd Tryz.prog (do loadVar 65 (← asAddr t4)) w_13 fun r4_2 =>
  K (Value.tuple #[r4_2, (Value.int IntKind.i64 0), (Value.int IntKind.i64 60)]) w_13) (
  Rd Tryz.prog (Instr.loadAt 65 t9) w_12 fun t55 =>
  Do Tryz.prog (Instr.storeAt 65 t4 t55) w_12 fun _ w_14 =>
  Rd Tryz.prog (do loadVar 65 (← asAddr t4)) w_14 fun r4_3 =>
  K (Value.tuple #[r4_3, (Value.int IntKind.i64 0), (Value.int IntKind.i64 0)]) w_14))) → J_1 t29 w_10) →
  nilOk t24 ∧
  Pu Tryz.prog (Instr.fieldAt 213 t24 2) fun t32 =>
  Rd Tryz.prog (Instr.loadAt 4 t32) w_9 fun t33 =>
  Gate t33 false (
  nilOk t24 ∧
  Pu Tryz.prog (Instr.fieldAt 213 t24 1) fun t37 =>
  Rd Tryz.prog (Instr.loadAt 3 t37) w_9 fun t38 =>
  BltR Tryz.prog Builtin.len #[39] 3 #[false] #[t1] w_9 fun t40 =>
  Bin Tryz.prog BinOp.lss 3 false false t38 t40 fun t41 =>
  J_1 t41 w_9) (
  J_1 (Value.bool true) w_9))) → J t20 w_4) →
  BltR Tryz.prog Builtin.len #[39] 3 #[false] #[t1] (World.drew w_3) fun t11 =>
  Bin Tryz.prog BinOp.eql 3 false true t11 (Value.int IntKind.i64 0) fun t12 =>
  Gate t12 false (
  Pu Tryz.prog (Instr.indexAt 39 t1 (Value.int IntKind.i64 0)) fun t15 =>
  Rd Tryz.prog (Instr.loadAt 5 t15) (World.drew w_3) fun t16 =>
  Pu Tryz.prog (Instr.fieldAt 181 t2 0) fun t17 =>
  Rd Tryz.prog (Instr.loadAt 5 t17) (World.drew w_3) fun t18 =>
  Bin Tryz.prog BinOp.neq 5 false false t16 t18 fun t19 =>
  J t19 (World.drew w_3)) (
  J (Value.bool true) (World.drew w_3))
def N_record_take_api_Commit : Note := (.seq .leaf (.seq .leaf (.seq (.join [20] (.draw [[], [], [], [], [], [], [], [], [], [], []] [] (.step 0 (.step 1 (.step 2 (.step 3 (.step 4 (.step 5 (.step 6 (.step 7 (.step 8 (.step 9 (.step 10 .nil)))))))))))) (.cond (.seq .leaf .leaf) .leaf)) (.seq .leaf (.seq .leaf (.seq (.sub (.join [29] .leaf (.cond (.seq (.draw [[], [], [], [], [], [0], [], []] [] (.step 0 (.step 1 (.step 2 (.step 3 (.step 4 (.step 5 (.step 6 (.step 7 .nil))))))))) .leaf) (.seq .leaf (.cond (.seq .leaf .leaf) .leaf))))) (.seq .leaf .leaf)))))))
theorem h_record_take_api_Commit (t0 : Value) (t1 : Value) (K : Value → World → Prop) (w : World) : H_record_take_api_Commit t0 t1 K w = top Tryz.prog Tryz.f118 N_record_take_api_Commit [t0, t1] K w := by kernel_rfl
theorem c_record_take_api_Commit {t0 t1 : Value} {K : Value → World → Prop} {w : World} (h : H_record_take_api_Commit t0 t1 K w) : Runs Tryz.prog F_record_take_api_Commit #[t0, t1] w K := calls_of_top mixed Tryz.func118 (h_record_take_api_Commit t0 t1 K w ▸ h)

/-- varve/record.Commit$1 -/
def H_record_Commit_1 (t0 : Value) (K : Value → World → Prop) (w : World) : Prop :=
  Do Tryz.prog (Instr.box 175 t0) w fun t1 w_1 =>
  Do Tryz.prog (Instr.alloc 65 true (Value.tuple #[])) w_1 fun t2 w_2 =>
  Rd Tryz.prog (Instr.loadAt 175 t1) w_2 fun t4 =>
  CallF Tryz.prog F_record_reader_time #[t4] w_2 fun t5 w_3 =>
  Pu Tryz.prog (Instr.build 65 #[(0, t5)]) fun t6 =>
  Do Tryz.prog (Instr.alloc 65 true (Value.tuple #[])) w_3 fun t3 w_4 =>
  Do Tryz.prog (Instr.storeAt 65 t3 t6) w_4 fun _ w_5 =>
  Rd Tryz.prog (Instr.loadAt 175 t1) w_5 fun t7 =>
  CallF Tryz.prog F_record_list_api_Write #[t7, (Value.int IntKind.i64 64), (Value.func (Fn.func F_record_Commit_1_1) #[] #[t1])] w_5 fun t9 w_6 =>
  Pu Tryz.prog (Instr.fieldAt 65 t3 1) fun t10 =>
  Do Tryz.prog (Instr.storeAt 63 t10 t9) w_6 fun _ w_7 =>
  Rd Tryz.prog (Instr.loadAt 65 t3) w_7 fun t11 =>
  Do Tryz.prog (Instr.storeAt 65 t2 t11) w_7 fun _ w_8 =>
  Rd Tryz.prog (do loadVar 65 (← asAddr t2)) w_8 fun r2 =>
  K r2 w_8
def N_record_Commit_1 : Note := (.seq .leaf (.seq .leaf (.seq .leaf (.seq .leaf .leaf))))
theorem h_record_Commit_1 (t0 : Value) (K : Value → World → Prop) (w : World) : H_record_Commit_1 t0 K w = top Tryz.prog Tryz.f119 N_record_Commit_1 [t0] K w := by kernel_rfl
theorem c_record_Commit_1 {t0 : Value} {K : Value → World → Prop} {w : World} (h : H_record_Commit_1 t0 K w) : Runs Tryz.prog F_record_Commit_1 #[t0] w K := calls_of_top mixed Tryz.func119 (h_record_Commit_1 t0 K w ▸ h)

/-- (*varve/record.reader).time -/
def H_record_reader_time (t0 : Value) (K : Value → World → Prop) (w : World) : Prop :=
  CallF Tryz.prog F_record_reader_number #[t0, (Value.int IntKind.i64 1099511627775)] w fun t4 w_1 =>
  K t4 w_1
def N_record_reader_time : Note := (.seq .leaf (.seq .leaf .leaf))
theorem h_record_reader_time (t0 : Value) (K : Value → World → Prop) (w : World) : H_record_reader_time t0 K w = top Tryz.prog Tryz.f120 N_record_reader_time [t0] K w := by kernel_rfl
theorem c_record_reader_time {t0 : Value} {K : Value → World → Prop} {w : World} (h : H_record_reader_time t0 K w) : Runs Tryz.prog F_record_reader_time #[t0] w K := calls_of_top mixed Tryz.func120 (h_record_reader_time t0 K w ▸ h)

/-- varve/record.list[varve/api.Write] -/
def H_record_list_api_Write (t0 : Value) (t1 : Value) (t2 : Value) (K : Value → World → Prop) (w : World) : Prop :=
  CallF Tryz.prog F_record_reader_number #[t0, t1] w fun t11 w_1 =>
  ∃ (J : Value → Value → World → Prop) (M : Value → Value → World → Nat), J (Value.slice none 0 0) t11 w_1 ∧ ∀ (t7 : Value) (t8 : Value) (w_2 : World), J t7 t8 w_2 →
  ∀ J_1 : Value → World → Prop, (∀ (t20 : Value) (w_3 : World), (
  Cond t20 (
  CallV Tryz.prog t2 #[] w_3 fun t25 w_4 =>
  Do Tryz.prog (Instr.buildSlice 63 1 #[(0, t25)]) w_4 fun t26 w_5 =>
  BltD Tryz.prog Builtin.append #[63, 63] 63 #[false, false] #[t7, t26] w_5 fun t27 w_6 =>
  Bin Tryz.prog BinOp.sub 2 false true t8 (Value.int IntKind.i64 1) fun t22 =>
  J t27 t22 w_6 ∧ M t27 t22 w_6 < M t7 t8 w_2) (
  K t7 w_3)) → J_1 t20 w_3) →
  Bin Tryz.prog BinOp.gtr 2 false true t8 (Value.int IntKind.i64 0) fun t13 =>
  Gate t13 true (
  nilOk t0 ∧
  Pu Tryz.prog (Instr.fieldAt 213 t0 2) fun t17 =>
  Rd Tryz.prog (Instr.loadAt 4 t17) w_2 fun t18 =>
  Pu Tryz.prog (Op.unary UnOp.not t18) fun t19 =>
  J_1 t19 w_2) (
  J_1 (Value.bool false) w_2)
def N_record_list_api_Write : Note := (.seq .leaf (.seq .leaf (.seq (.seq .leaf (.sub (.loop [7, 8] (.seq (.join [20] .leaf (.cond .leaf .leaf)) (.seq (.sub .leaf) .leaf))))) (.seq .leaf .leaf))))
theorem h_record_list_api_Write (t0 : Value) (t1 : Value) (t2 : Value) (K : Value → World → Prop) (w : World) : H_record_list_api_Write t0 t1 t2 K w = top Tryz.prog Tryz.f121 N_record_list_api_Write [t0, t1, t2] K w := by kernel_rfl
theorem c_record_list_api_Write {t0 t1 t2 : Value} {K : Value → World → Prop} {w : World} (h : H_record_list_api_Write t0 t1 t2 K w) : Runs Tryz.prog F_record_list_api_Write #[t0, t1, t2] w K := calls_of_top mixed Tryz.func121 (h_record_list_api_Write t0 t1 t2 K w ▸ h)

/-- varve/record.Commit$1$1 -/
def H_record_Commit_1_1 (t0 : Value) (K : Value → World → Prop) (w : World) : Prop :=
  Do Tryz.prog (Instr.alloc 111 true (Value.tuple #[])) w fun t1 w_1 =>
  Rd Tryz.prog (Instr.loadAt 175 t0) w_1 fun t3 =>
  CallF Tryz.prog F_record_reader_flag #[t3] w_1 fun t4 w_2 =>
  Pu Tryz.prog (Instr.build 111 #[(2, t4)]) fun t5 =>
  Do Tryz.prog (Instr.alloc 111 true (Value.tuple #[])) w_2 fun t2 w_3 =>
  Do Tryz.prog (Instr.storeAt 111 t2 t5) w_3 fun _ w_4 =>
  Rd Tryz.prog (Instr.loadAt 175 t0) w_4 fun t6 =>
  CallF Tryz.prog F_record_reader_text #[t6, (Value.int IntKind.i64 16)] w_4 fun t7 w_5 =>
  Pu Tryz.prog (Instr.fieldAt 111 t2 0) fun t8 =>
  Do Tryz.prog (Instr.storeAt 9 t8 t7) w_5 fun _ w_6 =>
  Pu Tryz.prog (Instr.fieldAt 111 t2 2) fun t9 =>
  Rd Tryz.prog (Instr.loadAt 4 t9) w_6 fun t10 =>
  Pu Tryz.prog (Op.unary UnOp.not t10) fun t11 =>
  Cond t11 (
  Rd Tryz.prog (Instr.loadAt 175 t0) w_6 fun t12 =>
  CallF Tryz.prog F_record_reader_text #[t12, (Value.int IntKind.i64 64)] w_6 fun t13 w_7 =>
  Pu Tryz.prog (Instr.fieldAt 111 t2 1) fun t14 =>
  Do Tryz.prog (Instr.storeAt 9 t14 t13) w_7 fun _ w_8 =>
  Rd Tryz.prog (Instr.loadAt 111 t2) w_8 fun t15 =>
  Do Tryz.prog (Instr.storeAt 111 t1 t15) w_8 fun _ w_9 =>
  Rd Tryz.prog (do loadVar 111 (← asAddr t1)) w_9 fun r1 =>
  K r1 w_9) (
  Rd Tryz.prog (Instr.loadAt 111 t2) w_6 fun t15_1 =>
  Do Tryz.prog (Instr.storeAt 111 t1 t15_1) w_6 fun _ w_10 =>
  Rd Tryz.prog (do loadVar 111 (← asAddr t1)) w_10 fun r1_1 =>
  K r1_1 w_10)
def N_record_Commit_1_1 : Note := (.seq .leaf (.seq .leaf (.seq .leaf (.seq (.seq .leaf (.cond .leaf .leaf)) (.seq .leaf .leaf)))))
theorem h_record_Commit_1_1 (t0 : Value) (K : Value → World → Prop) (w : World) : H_record_Commit_1_1 t0 K w = top Tryz.prog Tryz.f122 N_record_Commit_1_1 [t0] K w := by kernel_rfl
theorem c_record_Commit_1_1 {t0 : Value} {K : Value → World → Prop} {w : World} (h : H_record_Commit_1_1 t0 K w) : Runs Tryz.prog F_record_Commit_1_1 #[t0] w K := calls_of_top mixed Tryz.func122 (h_record_Commit_1_1 t0 K w ▸ h)

/-- (*varve/record.reader).flag -/
def H_record_reader_flag (t0 : Value) (K : Value → World → Prop) (w : World) : Prop :=
  ∀ J : World → Prop, (∀ (w_1 : World), (
  nilOk t0 ∧
  Pu Tryz.prog (Instr.fieldAt 213 t0 2) fun t37 =>
  Rd Tryz.prog (Instr.loadAt 4 t37) w_1 fun t38 =>
  Cond t38 (
  K (Value.bool false) w_1) (
  nilOk t0 ∧
  Pu Tryz.prog (Instr.fieldAt 213 t0 1) fun t41 =>
  Rd Tryz.prog (Instr.loadAt 3 t41) w_1 fun t42 =>
  Bin Tryz.prog BinOp.add 3 false true t42 (Value.int IntKind.i64 1) fun t43 =>
  nilOk t0 ∧
  Pu Tryz.prog (Instr.fieldAt 213 t0 1) fun t45 =>
  Do Tryz.prog (Instr.storeAt 3 t45 t43) w_1 fun _ w_2 =>
  nilOk t0 ∧
  Pu Tryz.prog (Instr.fieldAt 213 t0 0) fun t48 =>
  Rd Tryz.prog (Instr.loadAt 39 t48) (World.drew w_2) fun t49 =>
  nilOk t0 ∧
  Pu Tryz.prog (Instr.fieldAt 213 t0 1) fun t52 =>
  Rd Tryz.prog (Instr.loadAt 3 t52) (World.drew w_2) fun t53 =>
  Bin Tryz.prog BinOp.sub 3 false true t53 (Value.int IntKind.i64 1) fun t54 =>
  Pu Tryz.prog (Instr.indexAt 39 t49 t54) fun t55 =>
  Rd Tryz.prog (Instr.loadAt 5 t55) (World.drew w_2) fun t56 =>
  Bin Tryz.prog BinOp.eql 5 false true t56 (Value.int IntKind.u8 1) fun t57 =>
  K t57 (World.drew w_2))) → J w_1) →
  nilOk t0 ∧
  Pu Tryz.prog (Instr.fieldAt 213 t0 2) fun t6 =>
  Rd Tryz.prog (Instr.loadAt 4 t6) (World.drew w) fun t7 =>
  Gate t7 false (
  nilOk t0 ∧
  Pu Tryz.prog (Instr.fieldAt 213 t0 1) fun t11 =>
  Rd Tryz.prog (Instr.loadAt 3 t11) (World.drew w) fun t12 =>
  nilOk t0 ∧
  Pu Tryz.prog (Instr.fieldAt 213 t0 0) fun t15 =>
  Rd Tryz.prog (Instr.loadAt 39 t15) (World.drew w) fun t16 =>
  BltR Tryz.prog Builtin.len #[39] 3 #[false] #[t16] (World.drew w) fun t17 =>
  Bin Tryz.prog BinOp.geq 3 false false t12 t17 fun t18 =>
  Gate t18 false (
  nilOk t0 ∧
  Pu Tryz.prog (Instr.fieldAt 213 t0 0) fun t23 =>
  Rd Tryz.prog (Instr.loadAt 39 t23) (World.drew w) fun t24 =>
  nilOk t0 ∧
  Pu Tryz.prog (Instr.fieldAt 213 t0 1) fun t27 =>
  Rd Tryz.prog (Instr.loadAt 3 t27) (World.drew w) fun t28 =>
  Pu Tryz.prog (Instr.indexAt 39 t24 t28) fun t29 =>
  Rd Tryz.prog (Instr.loadAt 5 t29) (World.drew w) fun t30 =>
  Bin Tryz.prog BinOp.gtr 5 false true t30 (Value.int IntKind.u8 1) fun t31 =>
  nilOk t0 ∧
  Pu Tryz.prog (Instr.fieldAt 213 t0 2) fun t34 =>
  Do Tryz.prog (Instr.storeAt 4 t34 t31) (World.drew w) fun _ w_3 =>
  J w_3) (
  nilOk t0 ∧
  Pu Tryz.prog (Instr.fieldAt 213 t0 2) fun t34_1 =>
  Do Tryz.prog (Instr.storeAt 4 t34_1 (Value.bool true)) (World.drew w) fun _ w_4 =>
  J w_4)) (
  nilOk t0 ∧
  Pu Tryz.prog (Instr.fieldAt 213 t0 2) fun t34_2 =>
  Do Tryz.prog (Instr.storeAt 4 t34_2 (Value.bool true)) (World.drew w) fun _ w_5 =>
  J w_5)
def N_record_reader_flag : Note := (.seq .leaf (.seq (.join [] (.draw [[], [], [], [], [], [], [], [], [], [], [], [], [], [], [], [], [], [], [], [], [], [], [], [], [], [], [], [], [], [], [], [], [29, 28, 27, 26, 25, 24, 23, 22, 21, 20, 19, 18, 17, 16, 15, 14, 13, 12, 11, 10, 9, 8, 7, 6, 5, 4, 3, 2, 1, 0, 30, 31]] [] (.step 0 (.step 1 (.step 2 (.step 3 (.step 4 (.step 5 (.step 6 (.step 7 (.step 8 (.step 9 (.step 10 (.step 11 (.step 12 (.step 13 (.step 14 (.step 15 (.step 16 (.step 17 (.step 18 (.step 19 (.step 20 (.step 21 (.step 22 (.step 23 (.step 24 (.step 25 (.step 26 (.step 27 (.step 28 (.step 29 (.step 30 (.step 31 (.step 32 .nil)))))))))))))))))))))))))))))))))) (.seq .leaf (.cond (.seq .leaf .leaf) .leaf))) (.seq .leaf (.seq (.draw [[], [], [], [], [], [], [], [], [], [], [], [], []] [] (.step 0 (.step 1 (.step 2 (.step 3 (.step 4 (.step 5 (.step 6 (.step 7 (.step 8 (.step 9 (.step 10 (.step 11 (.step 12 .nil)))))))))))))) .leaf))))
theorem h_record_reader_flag (t0 : Value) (K : Value → World → Prop) (w : World) : H_record_reader_flag t0 K w = top Tryz.prog Tryz.f123 N_record_reader_flag [t0] K w := by kernel_rfl
theorem c_record_reader_flag {t0 : Value} {K : Value → World → Prop} {w : World} (h : H_record_reader_flag t0 K w) : Runs Tryz.prog F_record_reader_flag #[t0] w K := calls_of_top mixed Tryz.func123 (h_record_reader_flag t0 K w ▸ h)

/-- (*varve/record.reader).text -/
def H_record_reader_text (t0 : Value) (t1 : Value) (K : Value → World → Prop) (w : World) : Prop :=
  nilOk t0 ∧
  Pu Tryz.prog (Instr.fieldAt 213 t0 0) fun t11 =>
  Rd Tryz.prog (Instr.loadAt 39 t11) (World.drew w) fun t12 =>
  nilOk t0 ∧
  Pu Tryz.prog (Instr.fieldAt 213 t0 1) fun t15 =>
  Rd Tryz.prog (Instr.loadAt 3 t15) (World.drew w) fun t16 =>
  CallF Tryz.prog F_num_TakeText #[t12, t16, t1] (World.drew w) fun t18 w_1 =>
  Pu Tryz.prog (Instr.extract t18 0) fun t19 =>
  Pu Tryz.prog (Instr.extract t18 1) fun t20 =>
  Pu Tryz.prog (Instr.extract t18 2) fun t21 =>
  ∀ J : World → Prop, (∀ (w_2 : World), (
  nilOk t0 ∧
  Pu Tryz.prog (Instr.fieldAt 213 t0 2) fun t35 =>
  Rd Tryz.prog (Instr.loadAt 4 t35) w_2 fun t36 =>
  Cond t36 (
  K (Value.string (ByteArray.mk #[])) w_2) (
  nilOk t0 ∧
  Pu Tryz.prog (Instr.fieldAt 213 t0 1) fun t40 =>
  Do Tryz.prog (Instr.storeAt 3 t40 t20) w_2 fun _ w_3 =>
  K t19 w_3)) → J w_2) →
  nilOk t0 ∧
  Pu Tryz.prog (Instr.fieldAt 213 t0 2) fun t25 =>
  Rd Tryz.prog (Instr.loadAt 4 t25) w_1 fun t26 =>
  Gate t26 false (
  Pu Tryz.prog (Op.unary UnOp.not t21) fun t29 =>
  nilOk t0 ∧
  Pu Tryz.prog (Instr.fieldAt 213 t0 2) fun t32 =>
  Do Tryz.prog (Instr.storeAt 4 t32 t29) w_1 fun _ w_4 =>
  J w_4) (
  nilOk t0 ∧
  Pu Tryz.prog (Instr.fieldAt 213 t0 2) fun t32_1 =>
  Do Tryz.prog (Instr.storeAt 4 t32_1 (Value.bool true)) w_1 fun _ w_5 =>
  J w_5)
def N_record_reader_text : Note := (.seq .leaf (.seq (.draw [[], [], [], [], [], [], [], [], [], [8, 4, 5, 6, 7, 0, 1, 2, 3], [], [], [], [], [], [], []] [] (.step 0 (.step 1 (.step 2 (.step 3 (.step 4 (.step 5 (.step 6 (.step 7 (.step 8 (.step 9 (.step 10 (.step 11 (.step 12 (.step 13 (.step 14 (.step 15 (.step 16 .nil)))))))))))))))))) (.seq (.join [] .leaf (.seq .leaf (.cond (.seq .leaf .leaf) .leaf))) (.seq .leaf (.seq .leaf .leaf)))))
theorem h_record_reader_text (t0 : Value) (t1 : Value) (K : Value → World → Prop) (w : World) : H_record_reader_text t0 t1 K w = top Tryz.prog Tryz.f124 N_record_reader_text [t0, t1] K w := by kernel_rfl
theorem c_record_reader_text {t0 t1 : Value} {K : Value → World → Prop} {w : World} (h : H_record_reader_text t0 t1 K w) : Runs Tryz.prog F_record_reader_text #[t0, t1] w K := calls_of_top mixed Tryz.func124 (h_record_reader_text t0 t1 K w ▸ h)

/-- varve/frame.Put -/
def H_frame_Put (t0 : Value) (t1 : Value) (t2 : Value) (K : Value → World → Prop) (w : World) : Prop :=
  BltR Tryz.prog Builtin.len #[39] 3 #[false] #[t0] w fun t14 =>
  Bin Tryz.prog BinOp.rem 3 false true t14 (Value.int IntKind.i64 32) fun t15 =>
  Bin Tryz.prog BinOp.neq 3 false true t15 (Value.int IntKind.i64 0) fun t16 =>
  Cond t16 (
  K (Value.tuple #[(Value.slice none 0 0), (Value.int IntKind.i64 2)]) w) (
  BltR Tryz.prog Builtin.len #[39] 3 #[false] #[t2] w fun t19 =>
  Bin Tryz.prog BinOp.gtr 3 false true t19 (Value.int IntKind.i64 65536) fun t20 =>
  Cond t20 (
  K (Value.tuple #[(Value.slice none 0 0), (Value.int IntKind.i64 40)]) w) (
  CallF Tryz.prog F_slices_Clone_byte_byte #[t0] w fun t22 w_1 =>
  Do Tryz.prog (Instr.alloc 39 true (Value.tuple #[])) w_1 fun t8 w_2 =>
  Do Tryz.prog (Instr.storeAt 39 t8 t22) w_2 fun _ w_3 =>
  Do Tryz.prog (Instr.alloc 3 true (Value.tuple #[])) w_3 fun t9 w_4 =>
  Do Tryz.prog (Instr.storeAt 3 t9 (Value.int IntKind.i64 0)) w_4 fun _ w_5 =>
  CallF Tryz.prog F_frame_number #[(Value.slice none 0 0), t1, (Value.int IntKind.i64 8)] w_5 fun t25 w_6 =>
  BltR Tryz.prog Builtin.len #[39] 3 #[false] #[t2] w_6 fun t27 =>
  Do Tryz.prog (convert 3 77 t27) w_6 fun t28 w_7 =>
  CallF Tryz.prog F_frame_number #[t25, t28, (Value.int IntKind.i64 4)] w_7 fun t29 w_8 =>
  Do Tryz.prog (Instr.buildSlice 80 1 #[(0, t29)]) w_8 fun t32 w_9 =>
  CallF Tryz.prog F_num_Crc #[t32] w_9 fun t33 w_10 =>
  Do Tryz.prog (convert 169 77 t33) w_10 fun t34 w_11 =>
  CallF Tryz.prog F_frame_number #[t29, t34, (Value.int IntKind.i64 4)] w_11 fun t35 w_12 =>
  CallV Tryz.prog (Value.func (Fn.func F_frame_Put_1) #[] #[t9, t8]) #[t35] w_12 fun t38 w_13 =>
  CallV Tryz.prog (Value.func (Fn.func F_frame_Put_1) #[] #[t9, t8]) #[t2] w_13 fun t41 w_14 =>
  Do Tryz.prog (Instr.buildSlice 80 2 #[(0, t35), (1, t2)]) w_14 fun t45 w_15 =>
  CallF Tryz.prog F_num_Crc #[t45] w_15 fun t46 w_16 =>
  Do Tryz.prog (convert 169 77 t46) w_16 fun t47 w_17 =>
  CallF Tryz.prog F_frame_number #[(Value.slice none 0 0), t47, (Value.int IntKind.i64 4)] w_17 fun t48 w_18 =>
  CallV Tryz.prog (Value.func (Fn.func F_frame_Put_1) #[] #[t9, t8]) #[t48] w_18 fun t49 w_19 =>
  ∃ (J : World → Prop) (M : World → Nat), J w_19 ∧ ∀ (w_20 : World), J w_20 →
  Rd Tryz.prog (Instr.loadAt 3 t9) w_20 fun t50 =>
  Bin Tryz.prog BinOp.rem 3 false true t50 (Value.int IntKind.i64 31) fun t51 =>
  Bin Tryz.prog BinOp.neq 3 false true t51 (Value.int IntKind.i64 0) fun t52 =>
  Cond t52 (
  Do Tryz.prog (Instr.buildSlice 39 1 #[(0, (Value.int IntKind.u8 0))]) w_20 fun t54 w_21 =>
  CallV Tryz.prog (Value.func (Fn.func F_frame_Put_1) #[] #[t9, t8]) #[t54] w_21 fun t55 w_22 =>
  J w_22 ∧ M w_22 < M w_20) (
  Rd Tryz.prog (Instr.loadAt 39 t8) w_20 fun t56 =>
  BltR Tryz.prog Builtin.len #[39] 3 #[false] #[t0] w_20 fun t58 =>
  Pu Tryz.prog (Instr.indexAt 39 t56 t58) fun t59 =>
  Do Tryz.prog (Instr.storeAt 5 t59 (Value.int IntKind.u8 161)) w_20 fun _ w_23 =>
  Rd Tryz.prog (Instr.loadAt 39 t8) w_23 fun t60 =>
  K (Value.tuple #[t60, (Value.int IntKind.i64 0)]) w_23)))
def N_frame_Put : Note := (.seq .leaf (.seq (.sub (.seq .leaf (.cond (.seq .leaf .leaf) (.seq .leaf (.cond (.seq .leaf .leaf) .leaf))))) (.seq .leaf (.seq .leaf (.seq .leaf (.seq .leaf (.seq .leaf (.seq .leaf (.seq .leaf (.seq .leaf (.seq (.sub (.loop [] (.seq (.seq .leaf (.cond .leaf .leaf)) (.sub .leaf)))) (.seq .leaf (.seq .leaf .leaf)))))))))))))
theorem h_frame_Put (t0 : Value) (t1 : Value) (t2 : Value) (K : Value → World → Prop) (w : World) : H_frame_Put t0 t1 t2 K w = top Tryz.prog Tryz.f125 N_frame_Put [t0, t1, t2] K w := by kernel_rfl
theorem c_frame_Put {t0 t1 t2 : Value} {K : Value → World → Prop} {w : World} (h : H_frame_Put t0 t1 t2 K w) : Runs Tryz.prog F_frame_Put #[t0, t1, t2] w K := calls_of_top mixed Tryz.func125 (h_frame_Put t0 t1 t2 K w ▸ h)

/-- strings.IndexFunc -/
def H_strings_IndexFunc (t0 : Value) (t1 : Value) (K : Value → World → Prop) (w : World) : Prop :=
  CallF Tryz.prog F_strings_indexFunc #[t0, t1, (Value.bool true)] w fun t7 w_1 =>
  K t7 w_1
def N_strings_IndexFunc : Note := (.seq .leaf (.seq .leaf .leaf))
theorem h_strings_IndexFunc (t0 : Value) (t1 : Value) (K : Value → World → Prop) (w : World) : H_strings_IndexFunc t0 t1 K w = top Tryz.prog Tryz.f128 N_strings_IndexFunc [t0, t1] K w := by kernel_rfl
theorem c_strings_IndexFunc {t0 t1 : Value} {K : Value → World → Prop} {w : World} (h : H_strings_IndexFunc t0 t1 K w) : Runs Tryz.prog F_strings_IndexFunc #[t0, t1] w K := calls_of_top mixed Tryz.func128 (h_strings_IndexFunc t0 t1 K w ▸ h)

/-- slices.IndexFunc[[]int,int] -/
def H_slices_IndexFunc_int_int (t0 : Value) (t1 : Value) (K : Value → World → Prop) (w : World) : Prop :=
  BltR Tryz.prog Builtin.len #[83] 3 #[false] #[t0] w fun t7 =>
  ∃ (J : Value → World → Prop) (M : Value → World → Nat), J (Value.int IntKind.i64 0) w ∧ ∀ (t8 : Value) (w_1 : World), J t8 w_1 →
  Bin Tryz.prog BinOp.lss 3 false false t8 t7 fun t9 =>
  Cond t9 (
  Pu Tryz.prog (Instr.indexAt 83 t0 t8) fun t14 =>
  Rd Tryz.prog (Instr.loadAt 3 t14) w_1 fun t15 =>
  CallV Tryz.prog t1 #[t15] w_1 fun t16 w_2 =>
  Cond t16 (
  K t8 w_2) (
  Bin Tryz.prog BinOp.add 3 false true t8 (Value.int IntKind.i64 1) fun t18 =>
  J t18 w_2 ∧ M t18 w_2 < M t8 w_1)) (
  K (Value.int IntKind.i64 (-1)) w_1)
def N_slices_IndexFunc_int_int : Note := (.seq .leaf (.seq (.seq .leaf (.sub (.loop [8] (.seq .leaf (.seq (.cond .leaf .leaf) (.seq (.sub (.seq .leaf (.seq .leaf (.cond (.seq .leaf .leaf) .leaf)))) .leaf)))))) (.seq .leaf .leaf)))
theorem h_slices_IndexFunc_int_int (t0 : Value) (t1 : Value) (K : Value → World → Prop) (w : World) : H_slices_IndexFunc_int_int t0 t1 K w = top Tryz.prog Tryz.f129 N_slices_IndexFunc_int_int [t0, t1] K w := by kernel_rfl
theorem c_slices_IndexFunc_int_int {t0 t1 : Value} {K : Value → World → Prop} {w : World} (h : H_slices_IndexFunc_int_int t0 t1 K w) : Runs Tryz.prog F_slices_IndexFunc_int_int #[t0, t1] w K := calls_of_top mixed Tryz.func129 (h_slices_IndexFunc_int_int t0 t1 K w ▸ h)

/-- varve/record.isTime -/
def H_record_isTime (t0 : Value) (K : Value → World → Prop) (w : World) : Prop :=
  Bin Tryz.prog BinOp.geq 2 false true t0 (Value.int IntKind.i64 0) fun t4 =>
  Gate t4 true (
  Bin Tryz.prog BinOp.lss 2 false true t0 (Value.int IntKind.i64 1099511627776) fun t7 =>
  K t7 w) (
  K (Value.bool false) w)
def N_record_isTime : Note := (.seq .leaf (.seq .leaf .leaf))
theorem h_record_isTime (t0 : Value) (K : Value → World → Prop) (w : World) : H_record_isTime t0 K w = top Tryz.prog Tryz.f141 N_record_isTime [t0] K w := by kernel_rfl
theorem c_record_isTime {t0 : Value} {K : Value → World → Prop} {w : World} (h : H_record_isTime t0 K w) : Runs Tryz.prog F_record_isTime #[t0] w K := calls_of_top mixed Tryz.func141 (h_record_isTime t0 K w ▸ h)

/-- varve/record.all[varve/api.Write] -/
def H_record_all_api_Write (t0 : Value) (t1 : Value) (K : Value → World → Prop) (w : World) : Prop :=
  BltR Tryz.prog Builtin.len #[63] 3 #[false] #[t0] w fun t8 =>
  ∃ (J : Value → World → Prop) (M : Value → World → Nat), J (Value.int IntKind.i64 0) w ∧ ∀ (t9 : Value) (w_1 : World), J t9 w_1 →
  Bin Tryz.prog BinOp.lss 3 false false t9 t8 fun t10 =>
  Cond t10 (
  Pu Tryz.prog (Instr.indexAt 63 t0 t9) fun t12 =>
  Rd Tryz.prog (Instr.loadAt 111 t12) w_1 fun t13 =>
  Do Tryz.prog (Instr.alloc 111 true (Value.tuple #[])) w_1 fun t6 w_2 =>
  Do Tryz.prog (Instr.storeAt 111 t6 t13) w_2 fun _ w_3 =>
  Rd Tryz.prog (Instr.loadAt 111 t6) w_3 fun t16 =>
  CallV Tryz.prog t1 #[t9, t16] w_3 fun t17 w_4 =>
  Pu Tryz.prog (Op.unary UnOp.not t17) fun t18 =>
  Cond t18 (
  K (Value.bool false) w_4) (
  Bin Tryz.prog BinOp.add 3 false true t9 (Value.int IntKind.i64 1) fun t19 =>
  J t19 w_4 ∧ M t19 w_4 < M t9 w_1)) (
  K (Value.bool true) w_1)
def N_record_all_api_Write : Note := (.seq .leaf (.seq (.seq .leaf (.sub (.loop [9] (.seq .leaf (.seq (.cond .leaf .leaf) (.seq (.sub (.seq .leaf (.seq .leaf (.cond (.seq .leaf .leaf) .leaf)))) .leaf)))))) (.seq .leaf .leaf)))
theorem h_record_all_api_Write (t0 : Value) (t1 : Value) (K : Value → World → Prop) (w : World) : H_record_all_api_Write t0 t1 K w = top Tryz.prog Tryz.f142 N_record_all_api_Write [t0, t1] K w := by kernel_rfl
theorem c_record_all_api_Write {t0 t1 : Value} {K : Value → World → Prop} {w : World} (h : H_record_all_api_Write t0 t1 K w) : Runs Tryz.prog F_record_all_api_Write #[t0, t1] w K := calls_of_top mixed Tryz.func142 (h_record_all_api_Write t0 t1 K w ▸ h)

/-- varve/record.rightCommit$1 -/
def H_record_rightCommit_1 (t0 : Value) (t1 : Value) (t2 : Value) (K : Value → World → Prop) (w : World) : Prop :=
  Do Tryz.prog (Instr.box 111 t1) w fun t4 w_1 =>
  Pu Tryz.prog (Instr.fieldAt 111 t4 0) fun t6 =>
  Rd Tryz.prog (Instr.loadAt 9 t6) (World.drew w_1) fun t7 =>
  CallF Tryz.prog F_record_IsKey #[t7] (World.drew w_1) fun t8 w_2 =>
  Gate t8 true (
  Pu Tryz.prog (Instr.fieldAt 111 t4 1) fun t10 =>
  Rd Tryz.prog (Instr.loadAt 9 t10) w_2 fun t11 =>
  CallF Tryz.prog F_record_IsVal #[t11] w_2 fun t12 w_3 =>
  Gate t12 true (
  Pu Tryz.prog (Instr.fieldAt 111 t4 2) fun t15 =>
  Rd Tryz.prog (Instr.loadAt 4 t15) w_3 fun t16 =>
  Gate t16 true (
  Pu Tryz.prog (Instr.fieldAt 111 t4 1) fun t18 =>
  Rd Tryz.prog (Instr.loadAt 9 t18) w_3 fun t19 =>
  Bin Tryz.prog BinOp.neq 9 false true t19 (Value.string (ByteArray.mk #[])) fun t20 =>
  Pu Tryz.prog (Op.unary UnOp.not t20) fun t22 =>
  Gate t22 true (
  Bin Tryz.prog BinOp.eql 3 false true t0 (Value.int IntKind.i64 0) fun t26 =>
  Gate t26 false (
  Pu Tryz.prog (Instr.fieldAt 65 t2 1) fun t28 =>
  Rd Tryz.prog (Instr.loadAt 63 t28) w_3 fun t29 =>
  Bin Tryz.prog BinOp.sub 3 false true t0 (Value.int IntKind.i64 1) fun t31 =>
  Pu Tryz.prog (Instr.indexAt 63 t29 t31) fun t32 =>
  Pu Tryz.prog (Instr.fieldAt 111 t32 0) fun t33 =>
  Rd Tryz.prog (Instr.loadAt 9 t33) w_3 fun t34 =>
  Pu Tryz.prog (Instr.fieldAt 111 t4 0) fun t35 =>
  Rd Tryz.prog (Instr.loadAt 9 t35) w_3 fun t36 =>
  Bin Tryz.prog BinOp.lss 9 false false t34 t36 fun t37 =>
  K t37 w_3) (
  K (Value.bool true) w_3)) (
  K (Value.bool false) w_3)) (
  Pu Tryz.prog (Op.unary UnOp.not (Value.bool false)) fun t22_1 =>
  Gate t22_1 true (
  Bin Tryz.prog BinOp.eql 3 false true t0 (Value.int IntKind.i64 0) fun t26_1 =>
  Gate t26_1 false (
  Pu Tryz.prog (Instr.fieldAt 65 t2 1) fun t28_1 =>
  Rd Tryz.prog (Instr.loadAt 63 t28_1) w_3 fun t29_1 =>
  Bin Tryz.prog BinOp.sub 3 false true t0 (Value.int IntKind.i64 1) fun t31_1 =>
  Pu Tryz.prog (Instr.indexAt 63 t29_1 t31_1) fun t32_1 =>
  Pu Tryz.prog (Instr.fieldAt 111 t32_1 0) fun t33_1 =>
  Rd Tryz.prog (Instr.loadAt 9 t33_1) w_3 fun t34_1 =>
  Pu Tryz.prog (Instr.fieldAt 111 t4 0) fun t35_1 =>
  Rd Tryz.prog (Instr.loadAt 9 t35_1) w_3 fun t36_1 =>
  Bin Tryz.prog BinOp.lss 9 false false t34_1 t36_1 fun t37_1 =>
  K t37_1 w_3) (
  K (Value.bool true) w_3)) (
  K (Value.bool false) w_3))) (
  K (Value.bool false) w_3)) (
  K (Value.bool false) w_2)
def N_record_rightCommit_1 : Note := (.seq .leaf (.seq (.draw [[], [], [0, 1], [], [], [], [0, 1, 2, 3, 4, 5], [], [], [], [], [], [], [], [], [], [], [], [], [], [], [], [], [], [], [], [], [], [], [], [], [], [], [], []] [] (.step 0 (.step 1 (.step 2 (.step 3 (.step 4 (.step 5 (.step 6 (.step 7 (.step 8 (.step 9 (.step 10 (.step 11 (.step 12 (.step 13 (.step 14 (.step 15 (.step 16 (.step 17 (.step 18 (.step 19 (.step 20 (.step 21 (.step 22 (.step 23 (.step 24 (.step 25 (.step 26 (.step 27 (.step 28 (.step 29 (.step 30 (.step 31 (.step 32 (.step 33 (.step 34 .nil)))))))))))))))))))))))))))))))))))) .leaf))
theorem h_record_rightCommit_1 (t0 : Value) (t1 : Value) (t2 : Value) (K : Value → World → Prop) (w : World) : H_record_rightCommit_1 t0 t1 t2 K w = top Tryz.prog Tryz.f143 N_record_rightCommit_1 [t0, t1, t2] K w := by kernel_rfl
theorem c_record_rightCommit_1 {t0 t1 t2 : Value} {K : Value → World → Prop} {w : World} (h : H_record_rightCommit_1 t0 t1 t2 K w) : Runs Tryz.prog F_record_rightCommit_1 #[t0, t1, t2] w K := calls_of_top mixed Tryz.func143 (h_record_rightCommit_1 t0 t1 t2 K w ▸ h)

/-- varve/record.IsKey -/
def H_record_IsKey (t0 : Value) (K : Value → World → Prop) (w : World) : Prop :=
  Bin Tryz.prog BinOp.neq 9 false true t0 (Value.string (ByteArray.mk #[])) fun t4 =>
  Gate t4 true (
  BltR Tryz.prog Builtin.len #[9] 3 #[false] #[t0] w fun t7 =>
  Bin Tryz.prog BinOp.leq 3 false true t7 (Value.int IntKind.i64 16) fun t8 =>
  K t8 w) (
  K (Value.bool false) w)
def N_record_IsKey : Note := (.seq .leaf (.seq .leaf .leaf))
theorem h_record_IsKey (t0 : Value) (K : Value → World → Prop) (w : World) : H_record_IsKey t0 K w = top Tryz.prog Tryz.f144 N_record_IsKey [t0] K w := by kernel_rfl
theorem c_record_IsKey {t0 : Value} {K : Value → World → Prop} {w : World} (h : H_record_IsKey t0 K w) : Runs Tryz.prog F_record_IsKey #[t0] w K := calls_of_top mixed Tryz.func144 (h_record_IsKey t0 K w ▸ h)

/-- varve/record.IsVal -/
def H_record_IsVal (t0 : Value) (K : Value → World → Prop) (w : World) : Prop :=
  BltR Tryz.prog Builtin.len #[9] 3 #[false] #[t0] w fun t4 =>
  Bin Tryz.prog BinOp.leq 3 false true t4 (Value.int IntKind.i64 64) fun t5 =>
  K t5 w
def N_record_IsVal : Note := (.seq .leaf (.seq .leaf .leaf))
theorem h_record_IsVal (t0 : Value) (K : Value → World → Prop) (w : World) : H_record_IsVal t0 K w = top Tryz.prog Tryz.f145 N_record_IsVal [t0] K w := by kernel_rfl
theorem c_record_IsVal {t0 : Value} {K : Value → World → Prop} {w : World} (h : H_record_IsVal t0 K w) : Runs Tryz.prog F_record_IsVal #[t0] w K := calls_of_top mixed Tryz.func145 (h_record_IsVal t0 K w ▸ h)

/-- varve/num.PutText -/
def H_num_PutText (t0 : Value) (t1 : Value) (K : Value → World → Prop) (w : World) : Prop :=
  CallF Tryz.prog F_slices_Clone_byte_byte #[t0] w fun t6 w_1 =>
  BltR Tryz.prog Builtin.len #[9] 3 #[false] #[t1] w_1 fun t8 =>
  Do Tryz.prog (convert 3 77 t8) w_1 fun t9 w_2 =>
  CallF Tryz.prog F_num_number #[t6, t9] w_2 fun t10 w_3 =>
  BltD Tryz.prog Builtin.append #[39, 9] 39 #[false, false] #[t10, t1] w_3 fun t12 w_4 =>
  K t12 w_4
def N_num_PutText : Note := (.seq .leaf (.seq .leaf .leaf))
theorem h_num_PutText (t0 : Value) (t1 : Value) (K : Value → World → Prop) (w : World) : H_num_PutText t0 t1 K w = top Tryz.prog Tryz.f146 N_num_PutText [t0, t1] K w := by kernel_rfl
theorem c_num_PutText {t0 t1 : Value} {K : Value → World → Prop} {w : World} (h : H_num_PutText t0 t1 K w) : Runs Tryz.prog F_num_PutText #[t0, t1] w K := calls_of_top mixed Tryz.func146 (h_num_PutText t0 t1 K w ▸ h)

/-- slices.IndexFunc[[]byte,byte] -/
def H_slices_IndexFunc_byte_byte (t0 : Value) (t1 : Value) (K : Value → World → Prop) (w : World) : Prop :=
  BltR Tryz.prog Builtin.len #[39] 3 #[false] #[t0] w fun t7 =>
  ∃ (J : Value → World → Prop) (M : Value → World → Nat), J (Value.int IntKind.i64 0) w ∧ ∀ (t8 : Value) (w_1 : World), J t8 w_1 →
  Bin Tryz.prog BinOp.lss 3 false false t8 t7 fun t9 =>
  Cond t9 (
  Pu Tryz.prog (Instr.indexAt 39 t0 t8) fun t14 =>
  Rd Tryz.prog (Instr.loadAt 5 t14) w_1 fun t15 =>
  CallV Tryz.prog t1 #[t15] w_1 fun t16 w_2 =>
  Cond t16 (
  K t8 w_2) (
  Bin Tryz.prog BinOp.add 3 false true t8 (Value.int IntKind.i64 1) fun t18 =>
  J t18 w_2 ∧ M t18 w_2 < M t8 w_1)) (
  K (Value.int IntKind.i64 (-1)) w_1)
def N_slices_IndexFunc_byte_byte : Note := (.seq .leaf (.seq (.seq .leaf (.sub (.loop [8] (.seq .leaf (.seq (.cond .leaf .leaf) (.seq (.sub (.seq .leaf (.seq .leaf (.cond (.seq .leaf .leaf) .leaf)))) .leaf)))))) (.seq .leaf .leaf)))
theorem h_slices_IndexFunc_byte_byte (t0 : Value) (t1 : Value) (K : Value → World → Prop) (w : World) : H_slices_IndexFunc_byte_byte t0 t1 K w = top Tryz.prog Tryz.f165 N_slices_IndexFunc_byte_byte [t0, t1] K w := by kernel_rfl
theorem c_slices_IndexFunc_byte_byte {t0 t1 : Value} {K : Value → World → Prop} {w : World} (h : H_slices_IndexFunc_byte_byte t0 t1 K w) : Runs Tryz.prog F_slices_IndexFunc_byte_byte #[t0, t1] w K := calls_of_top mixed Tryz.func165 (h_slices_IndexFunc_byte_byte t0 t1 K w ▸ h)

/-- varve/num.number -/
def H_num_number (t0 : Value) (t1 : Value) (K : Value → World → Prop) (w : World) : Prop :=
  ∃ (J : Value → Value → World → Prop) (M : Value → Value → World → Nat), J t0 t1 w ∧ ∀ (t0_1 : Value) (t1_1 : Value) (w_1 : World), J t0_1 t1_1 w_1 →
  Bin Tryz.prog BinOp.geq 77 false true t1_1 (Value.int IntKind.u64 128) fun t6 =>
  Cond t6 (
  Do Tryz.prog (convert 77 5 t1_1) w_1 fun t9 w_2 =>
  Bin Tryz.prog BinOp.or 5 false true t9 (Value.int IntKind.u8 128) fun t10 =>
  Do Tryz.prog (Instr.buildSlice 39 1 #[(0, t10)]) w_2 fun t11 w_3 =>
  BltD Tryz.prog Builtin.append #[39, 39] 39 #[false, false] #[t0_1, t11] w_3 fun t12 w_4 =>
  Bin Tryz.prog BinOp.shr 77 false true t1_1 (Value.int IntKind.u64 7) fun t14 =>
  J t12 t14 w_4 ∧ M t12 t14 w_4 < M t0_1 t1_1 w_1) (
  Do Tryz.prog (convert 77 5 t1_1) w_1 fun t17 w_5 =>
  Do Tryz.prog (Instr.buildSlice 39 1 #[(0, t17)]) w_5 fun t18 w_6 =>
  BltD Tryz.prog Builtin.append #[39, 39] 39 #[false, false] #[t0_1, t18] w_6 fun t19 w_7 =>
  K t19 w_7)
def N_num_number : Note := (.seq .leaf (.seq (.sub (.loop [0, 1] (.seq (.seq .leaf (.cond .leaf .leaf)) (.sub (.seq .leaf .leaf))))) (.seq .leaf .leaf)))
theorem h_num_number (t0 : Value) (t1 : Value) (K : Value → World → Prop) (w : World) : H_num_number t0 t1 K w = top Tryz.prog Tryz.f166 N_num_number [t0, t1] K w := by kernel_rfl
theorem c_num_number {t0 t1 : Value} {K : Value → World → Prop} {w : World} (h : H_num_number t0 t1 K w) : Runs Tryz.prog F_num_number #[t0, t1] w K := calls_of_top mixed Tryz.func166 (h_num_number t0 t1 K w ▸ h)

/-- (*varve/record.reader).number -/
def H_record_reader_number (t0 : Value) (t1 : Value) (K : Value → World → Prop) (w : World) : Prop :=
  nilOk t0 ∧
  Pu Tryz.prog (Instr.fieldAt 213 t0 0) fun t11 =>
  Rd Tryz.prog (Instr.loadAt 39 t11) (World.drew w) fun t12 =>
  nilOk t0 ∧
  Pu Tryz.prog (Instr.fieldAt 213 t0 1) fun t15 =>
  Rd Tryz.prog (Instr.loadAt 3 t15) (World.drew w) fun t16 =>
  CallF Tryz.prog F_num_Take #[t12, t16] (World.drew w) fun t17 w_1 =>
  Pu Tryz.prog (Instr.extract t17 0) fun t18 =>
  Pu Tryz.prog (Instr.extract t17 1) fun t19 =>
  Pu Tryz.prog (Instr.extract t17 2) fun t20 =>
  ∀ J : World → Prop, (∀ (w_2 : World), (
  nilOk t0 ∧
  Pu Tryz.prog (Instr.fieldAt 213 t0 2) fun t40 =>
  Rd Tryz.prog (Instr.loadAt 4 t40) w_2 fun t41 =>
  Cond t41 (
  K (Value.int IntKind.i64 0) w_2) (
  nilOk t0 ∧
  Pu Tryz.prog (Instr.fieldAt 213 t0 1) fun t45 =>
  Do Tryz.prog (Instr.storeAt 3 t45 t19) w_2 fun _ w_3 =>
  Do Tryz.prog (convert 77 2 t18) w_3 fun t47 w_4 =>
  K t47 w_4)) → J w_2) →
  nilOk t0 ∧
  Pu Tryz.prog (Instr.fieldAt 213 t0 2) fun t24 =>
  Rd Tryz.prog (Instr.loadAt 4 t24) w_1 fun t25 =>
  Gate t25 false (
  Pu Tryz.prog (Op.unary UnOp.not t20) fun t28 =>
  Gate t28 false (
  Do Tryz.prog (convert 2 77 t1) w_1 fun t33 w_5 =>
  Bin Tryz.prog BinOp.gtr 77 false false t18 t33 fun t34 =>
  nilOk t0 ∧
  Pu Tryz.prog (Instr.fieldAt 213 t0 2) fun t37 =>
  Do Tryz.prog (Instr.storeAt 4 t37 t34) w_5 fun _ w_6 =>
  J w_6) (
  nilOk t0 ∧
  Pu Tryz.prog (Instr.fieldAt 213 t0 2) fun t37_1 =>
  Do Tryz.prog (Instr.storeAt 4 t37_1 (Value.bool true)) w_1 fun _ w_7 =>
  J w_7)) (
  nilOk t0 ∧
  Pu Tryz.prog (Instr.fieldAt 213 t0 2) fun t37_2 =>
  Do Tryz.prog (Instr.storeAt 4 t37_2 (Value.bool true)) w_1 fun _ w_8 =>
  J w_8)
def N_record_reader_number : Note := (.seq .leaf (.seq (.draw [[], [], [], [], [], [], [], [], [4, 5, 6, 7, 0, 1, 2, 3], [], [], [], [], [], [], []] [] (.step 0 (.step 1 (.step 2 (.step 3 (.step 4 (.step 5 (.step 6 (.step 7 (.step 8 (.step 9 (.step 10 (.step 11 (.step 12 (.step 13 (.step 14 (.step 15 .nil))))))))))))))))) (.seq (.join [] .leaf (.seq .leaf (.cond (.seq .leaf .leaf) .leaf))) (.seq .leaf (.seq .leaf .leaf)))))
theorem h_record_reader_number (t0 : Value) (t1 : Value) (K : Value → World → Prop) (w : World) : H_record_reader_number t0 t1 K w = top Tryz.prog Tryz.f167 N_record_reader_number [t0, t1] K w := by kernel_rfl
theorem c_record_reader_number {t0 t1 : Value} {K : Value → World → Prop} {w : World} (h : H_record_reader_number t0 t1 K w) : Runs Tryz.prog F_record_reader_number #[t0, t1] w K := calls_of_top mixed Tryz.func167 (h_record_reader_number t0 t1 K w ▸ h)

/-- varve/num.TakeText -/
def H_num_TakeText (t0 : Value) (t1 : Value) (t2 : Value) (K : Value → World → Prop) (w : World) : Prop :=
  CallF Tryz.prog F_num_Take #[t0, t1] w fun t16 w_1 =>
  Pu Tryz.prog (Instr.extract t16 0) fun t17 =>
  Pu Tryz.prog (Instr.extract t16 1) fun t18 =>
  Pu Tryz.prog (Instr.extract t16 2) fun t19 =>
  ∀ J : Value → World → Prop, (∀ (t40 : Value) (w_2 : World), (
  Cond t40 (
  K (Value.tuple #[(Value.string (ByteArray.mk #[])), (Value.int IntKind.i64 0), (Value.bool false)]) w_2) (
  Do Tryz.prog (convert 77 3 t17) w_2 fun t43 w_3 =>
  Bin Tryz.prog BinOp.add 3 false false t18 t43 fun t44 =>
  Pu Tryz.prog (Instr.sliceAt 39 t0 (some t18) (some t44) none) fun t48 =>
  Do Tryz.prog (convert 39 9 t48) w_3 fun t49 w_4 =>
  K (Value.tuple #[t49, t44, (Value.bool true)]) w_4)) → J t40 w_2) →
  Pu Tryz.prog (Op.unary UnOp.not t19) fun t21 =>
  Gate t21 false (
  Bin Tryz.prog BinOp.lss 3 false true t2 (Value.int IntKind.i64 0) fun t24 =>
  Gate t24 false (
  Do Tryz.prog (convert 3 77 t2) w_1 fun t29 w_5 =>
  Bin Tryz.prog BinOp.gtr 77 false false t17 t29 fun t30 =>
  Gate t30 false (
  BltR Tryz.prog Builtin.len #[39] 3 #[false] #[t0] w_5 fun t35 =>
  Bin Tryz.prog BinOp.sub 3 false false t35 t18 fun t37 =>
  Do Tryz.prog (convert 3 77 t37) w_5 fun t38 w_6 =>
  Bin Tryz.prog BinOp.gtr 77 false false t17 t38 fun t39 =>
  J t39 w_6) (
  J (Value.bool true) w_5)) (
  J (Value.bool true) w_1)) (
  J (Value.bool true) w_1)
def N_num_TakeText : Note := (.seq .leaf (.seq .leaf (.seq (.join [40] .leaf (.cond (.seq .leaf .leaf) .leaf)) (.seq .leaf (.seq .leaf .leaf)))))
theorem h_num_TakeText (t0 : Value) (t1 : Value) (t2 : Value) (K : Value → World → Prop) (w : World) : H_num_TakeText t0 t1 t2 K w = top Tryz.prog Tryz.f168 N_num_TakeText [t0, t1, t2] K w := by kernel_rfl
theorem c_num_TakeText {t0 t1 t2 : Value} {K : Value → World → Prop} {w : World} (h : H_num_TakeText t0 t1 t2 K w) : Runs Tryz.prog F_num_TakeText #[t0, t1, t2] w K := calls_of_top mixed Tryz.func168 (h_num_TakeText t0 t1 t2 K w ▸ h)

/-- varve/frame.Put$1 -/
def H_frame_Put_1 (t0 : Value) (t1 : Value) (t2 : Value) (K : Value → World → Prop) (w : World) : Prop :=
  BltR Tryz.prog Builtin.len #[39] 3 #[false] #[t0] w fun t7 =>
  ∃ (J : Value → World → Prop) (M : Value → World → Nat), J (Value.int IntKind.i64 0) w ∧ ∀ (t8 : Value) (w_1 : World), J t8 w_1 →
  Bin Tryz.prog BinOp.lss 3 false false t8 t7 fun t9 =>
  Cond t9 (
  Pu Tryz.prog (Instr.indexAt 39 t0 t8) fun t10 =>
  Rd Tryz.prog (Instr.loadAt 5 t10) w_1 fun t11 =>
  ∀ J_1 : World → Prop, (∀ (w_2 : World), (
  Rd Tryz.prog (Instr.loadAt 39 t2) w_2 fun t18 =>
  Do Tryz.prog (Instr.buildSlice 39 1 #[(0, t11)]) w_2 fun t20 w_3 =>
  BltD Tryz.prog Builtin.append #[39, 39] 39 #[false, false] #[t18, t20] w_3 fun t21 w_4 =>
  Do Tryz.prog (Instr.storeAt 39 t2 t21) w_4 fun _ w_5 =>
  Rd Tryz.prog (Instr.loadAt 3 t1) w_5 fun t22 =>
  Bin Tryz.prog BinOp.add 3 false true t22 (Value.int IntKind.i64 1) fun t23 =>
  Do Tryz.prog (Instr.storeAt 3 t1 t23) w_5 fun _ w_6 =>
  Bin Tryz.prog BinOp.add 3 false true t8 (Value.int IntKind.i64 1) fun t24 =>
  J t24 w_6 ∧ M t24 w_6 < M t8 w_1) → J_1 w_2) →
  Rd Tryz.prog (Instr.loadAt 3 t1) w_1 fun t12 =>
  Bin Tryz.prog BinOp.rem 3 false true t12 (Value.int IntKind.i64 31) fun t13 =>
  Bin Tryz.prog BinOp.eql 3 false true t13 (Value.int IntKind.i64 0) fun t14 =>
  Cond t14 (
  Rd Tryz.prog (Instr.loadAt 39 t2) w_1 fun t15 =>
  Do Tryz.prog (Instr.buildSlice 39 1 #[(0, (Value.int IntKind.u8 178))]) w_1 fun t16 w_7 =>
  BltD Tryz.prog Builtin.append #[39, 39] 39 #[false, false] #[t15, t16] w_7 fun t17 w_8 =>
  Do Tryz.prog (Instr.storeAt 39 t2 t17) w_8 fun _ w_9 =>
  J_1 w_9) (
  J_1 w_1)) (
  K (Value.tuple #[]) w_1)
def N_frame_Put_1 : Note := (.seq .leaf (.sub (.loop [8] (.seq .leaf (.seq (.cond .leaf .leaf) (.seq (.sub (.seq .leaf (.join [] (.seq .leaf (.cond .leaf .leaf)) (.seq .leaf .leaf)))) .leaf))))))
theorem h_frame_Put_1 (t0 : Value) (t1 : Value) (t2 : Value) (K : Value → World → Prop) (w : World) : H_frame_Put_1 t0 t1 t2 K w = top Tryz.prog Tryz.f169 N_frame_Put_1 [t0, t1, t2] K w := by kernel_rfl
theorem c_frame_Put_1 {t0 t1 t2 : Value} {K : Value → World → Prop} {w : World} (h : H_frame_Put_1 t0 t1 t2 K w) : Runs Tryz.prog F_frame_Put_1 #[t0, t1, t2] w K := calls_of_top mixed Tryz.func169 (h_frame_Put_1 t0 t1 t2 K w ▸ h)

/-- varve/frame.number -/
def H_frame_number (t0 : Value) (t1 : Value) (t2 : Value) (K : Value → World → Prop) (w : World) : Prop :=
  ∃ (J : Value → Value → Value → World → Prop) (M : Value → Value → Value → World → Nat), J t0 t1 (Value.int IntKind.i64 0) w ∧ ∀ (t0_1 : Value) (t1_1 : Value) (t8 : Value) (w_1 : World), J t0_1 t1_1 t8 w_1 →
  Bin Tryz.prog BinOp.lss 3 false false t8 t2 fun t9 =>
  Cond t9 (
  Do Tryz.prog (convert 77 5 t1_1) w_1 fun t12 w_2 =>
  Do Tryz.prog (Instr.buildSlice 39 1 #[(0, t12)]) w_2 fun t13 w_3 =>
  BltD Tryz.prog Builtin.append #[39, 39] 39 #[false, false] #[t0_1, t13] w_3 fun t14 w_4 =>
  Bin Tryz.prog BinOp.shr 77 false true t1_1 (Value.int IntKind.u64 8) fun t16 =>
  Bin Tryz.prog BinOp.add 3 false true t8 (Value.int IntKind.i64 1) fun t17 =>
  J t14 t16 t17 w_4 ∧ M t14 t16 t17 w_4 < M t0_1 t1_1 t8 w_1) (
  K t0_1 w_1)
def N_frame_number : Note := (.seq .leaf (.seq (.seq .leaf (.sub (.loop [0, 1, 8] (.seq .leaf (.seq (.cond .leaf .leaf) (.seq (.sub (.seq .leaf .leaf)) .leaf)))))) (.seq .leaf .leaf)))
theorem h_frame_number (t0 : Value) (t1 : Value) (t2 : Value) (K : Value → World → Prop) (w : World) : H_frame_number t0 t1 t2 K w = top Tryz.prog Tryz.f170 N_frame_number [t0, t1, t2] K w := by kernel_rfl
theorem c_frame_number {t0 t1 t2 : Value} {K : Value → World → Prop} {w : World} (h : H_frame_number t0 t1 t2 K w) : Runs Tryz.prog F_frame_number #[t0, t1, t2] w K := calls_of_top mixed Tryz.func170 (h_frame_number t0 t1 t2 K w ▸ h)

/-- strings.indexFunc -/
def H_strings_indexFunc (t0 : Value) (t1 : Value) (t2 : Value) (K : Value → World → Prop) (w : World) : Prop :=
  Do Tryz.prog (Instr.range 9 t0) w fun t10 w_1 =>
  ∃ (J : World → Prop) (M : World → Nat), J w_1 ∧ ∀ (w_2 : World), J w_2 →
  Do Tryz.prog (Instr.next t10 true 0) w_2 fun t11 w_3 =>
  Pu Tryz.prog (Instr.extract t11 0) fun t12 =>
  Cond t12 (
  Pu Tryz.prog (Instr.extract t11 1) fun t13 =>
  Pu Tryz.prog (Instr.extract t11 2) fun t14 =>
  CallV Tryz.prog t1 #[t14] w_3 fun t17 w_4 =>
  Bin Tryz.prog BinOp.eql 4 false false t17 t2 fun t19 =>
  Cond t19 (
  K t13 w_4) (
  J w_4 ∧ M w_4 < M w_2)) (
  K (Value.int IntKind.i64 (-1)) w_3)
def N_strings_indexFunc : Note := (.seq .leaf (.seq (.seq .leaf (.sub (.loop [] (.seq .leaf (.seq (.cond .leaf .leaf) (.sub (.seq .leaf (.seq .leaf (.cond (.seq .leaf .leaf) .leaf))))))))) (.seq .leaf .leaf)))
theorem h_strings_indexFunc (t0 : Value) (t1 : Value) (t2 : Value) (K : Value → World → Prop) (w : World) : H_strings_indexFunc t0 t1 t2 K w = top Tryz.prog Tryz.f180 N_strings_indexFunc [t0, t1, t2] K w := by kernel_rfl
theorem c_strings_indexFunc {t0 t1 t2 : Value} {K : Value → World → Prop} {w : World} (h : H_strings_indexFunc t0 t1 t2 K w) : Runs Tryz.prog F_strings_indexFunc #[t0, t1, t2] w K := calls_of_top mixed Tryz.func180 (h_strings_indexFunc t0 t1 t2 K w ▸ h)

/-- varve/num.Take -/
def H_num_Take (t0 : Value) (t1 : Value) (K : Value → World → Prop) (w : World) : Prop :=
  ∀ J : Value → World → Prop, (∀ (t17 : Value) (w_1 : World), (
  Cond t17 (
  K (Value.tuple #[(Value.int IntKind.u64 0), (Value.int IntKind.i64 0), (Value.bool false)]) w_1) (
  ∀ J_1 : World → Prop, (∀ (w_2 : World), (
  K (Value.tuple #[(Value.int IntKind.u64 0), (Value.int IntKind.i64 0), (Value.bool false)]) w_2) → J_1 w_2) →
  Bin Tryz.prog BinOp.add 3 false true t1 (Value.int IntKind.i64 10) fun t21 =>
  BltR Tryz.prog Builtin.len #[39] 3 #[false] #[t0] w_1 fun t23 =>
  BltP Tryz.prog Builtin.min #[3, 3] 3 #[false, false] #[t21, t23] fun t24 =>
  Pu Tryz.prog (Instr.sliceAt 39 t0 (some t1) (some t24) none) fun t25 =>
  BltR Tryz.prog Builtin.len #[39] 3 #[false] #[t25] w_1 fun t26 =>
  ∃ (J_2 : Value → Value → World → Prop) (M : Value → Value → World → Nat), J_2 (Value.int IntKind.u64 0) (Value.int IntKind.i64 0) w_1 ∧ ∀ (t7 : Value) (t27 : Value) (w_3 : World), J_2 t7 t27 w_3 →
  Bin Tryz.prog BinOp.lss 3 false false t27 t26 fun t28 =>
  Cond t28 (
  Pu Tryz.prog (Instr.indexAt 39 t25 t27) fun t30 =>
  Rd Tryz.prog (Instr.loadAt 5 t30) w_3 fun t31 =>
  ∀ J_3 : Value → World → Prop, (∀ (t37 : Value) (w_4 : World), (
  Cond t37 (
  J_1 w_4) (
  Bin Tryz.prog BinOp.and 5 false true t31 (Value.int IntKind.u8 127) fun t40 =>
  Do Tryz.prog (convert 5 77 t40) w_4 fun t41 w_5 =>
  Bin Tryz.prog BinOp.mul 3 true false (Value.int IntKind.i64 7) t27 fun t43 =>
  Bin Tryz.prog BinOp.shl 77 false false t41 t43 fun t44 =>
  Bin Tryz.prog BinOp.or 77 false false t7 t44 fun t45 =>
  Bin Tryz.prog BinOp.geq 5 false true t31 (Value.int IntKind.u8 128) fun t47 =>
  Cond t47 (
  Bin Tryz.prog BinOp.add 3 false true t27 (Value.int IntKind.i64 1) fun t59 =>
  J_2 t45 t59 w_5 ∧ M t45 t59 w_5 < M t7 t27 w_3) (
  ∀ J_4 : Value → World → Prop, (∀ (t53 : Value) (w_6 : World), (
  Cond t53 (
  J_1 w_6) (
  Bin Tryz.prog BinOp.add 3 false false t1 t27 fun t57 =>
  Bin Tryz.prog BinOp.add 3 false true t57 (Value.int IntKind.i64 1) fun t58 =>
  K (Value.tuple #[t45, t58, (Value.bool true)]) w_6)) → J_4 t53 w_6) →
  Bin Tryz.prog BinOp.gtr 3 false true t27 (Value.int IntKind.i64 0) fun t49 =>
  Gate t49 true (
  Bin Tryz.prog BinOp.eql 5 false true t31 (Value.int IntKind.u8 0) fun t52 =>
  J_4 t52 w_5) (
  J_4 (Value.bool false) w_5)))) → J_3 t37 w_4) →
  Bin Tryz.prog BinOp.eql 3 false true t27 (Value.int IntKind.i64 9) fun t33 =>
  Gate t33 true (
  Bin Tryz.prog BinOp.gtr 5 false true t31 (Value.int IntKind.u8 1) fun t36 =>
  J_3 t36 w_3) (
  J_3 (Value.bool false) w_3)) (
  J_1 w_3))) → J t17 w_1) →
  Bin Tryz.prog BinOp.lss 3 false true t1 (Value.int IntKind.i64 0) fun t11 =>
  Gate t11 false (
  BltR Tryz.prog Builtin.len #[39] 3 #[false] #[t0] w fun t15 =>
  Bin Tryz.prog BinOp.geq 3 false false t1 t15 fun t16 =>
  J t16 w) (
  J (Value.bool true) w)
def N_num_Take : Note := (.seq .leaf (.seq (.join [17] .leaf (.cond (.seq .leaf .leaf) .leaf)) (.seq .leaf (.join [] (.seq .leaf (.sub (.loop [7, 27] (.seq .leaf (.seq (.cond .leaf .leaf) (.seq (.sub (.seq .leaf (.seq (.join [37] .leaf (.cond .leaf .leaf)) (.seq .leaf (.seq (.seq .leaf (.cond .leaf .leaf)) (.seq (.join [53] .leaf (.cond .leaf .leaf)) (.seq .leaf .leaf))))))) .leaf)))))) (.seq .leaf .leaf)))))
theorem h_num_Take (t0 : Value) (t1 : Value) (K : Value → World → Prop) (w : World) : H_num_Take t0 t1 K w = top Tryz.prog Tryz.f210 N_num_Take [t0, t1] K w := by kernel_rfl
theorem c_num_Take {t0 t1 : Value} {K : Value → World → Prop} {w : World} (h : H_num_Take t0 t1 K w) : Runs Tryz.prog F_num_Take #[t0, t1] w K := calls_of_top mixed Tryz.func210 (h_num_Take t0 t1 K w ▸ h)

end Go.Proofs.VvS
