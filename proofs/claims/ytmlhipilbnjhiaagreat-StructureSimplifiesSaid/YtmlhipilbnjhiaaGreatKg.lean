/-
  Part 7 of the proof: how the calls of this program run, over values instead of memory, and what each function computes.
-/
import Derived.KernelRfl
import Derived.Test.YtmlhipilbnjhiaaGreatKf
set_option linter.unusedVariables false
set_option linter.unusedSimpArgs false
set_option linter.unnecessarySimpa false
set_option linter.unusedSectionVars false

namespace Go.Ab
open Go.RowKit Go.Proofs


def ac_structure_Blocks_l0 : ACode :=
  /-live [3, 7, 8, 9]-/ .seq /-4-/ (.region [ ⟨(some 10), .bin .lss (.t 9) (.t 8), none⟩] []) (.seq /-5-/ (.cond (.t 10) (.skip) (.exit 0)) (.seq /-6-/ (.block 1 (.seq /-7-/ (.region [ ⟨(some 11), .idx 5 (.t 7) (.t 9), none⟩, ⟨(some 12), .load true 5 (.t 11), none⟩, ⟨(some 5), .alloc [.int .i64 0, .int .i64 0, .int .i64 0, .nilsl, .nilsl], none⟩, ⟨none, .store 5 (.t 5) (.t 12), none⟩] [10, 11, 12]) (.seq /-8-/ (.region [ ⟨(some 13), .fldaddr 0 1 (.t 5), none⟩, ⟨(some 14), .load false 1 (.t 13), none⟩, ⟨(some 15), .bin .eql (.t 14) (.c (.int .i64 2)), none⟩, ⟨(some 16), .mov (.t 15), none⟩, ⟨(some 17), .fldaddr 0 1 (.t 5), (some (16, false))⟩, ⟨(some 18), .load false 1 (.t 17), (some (16, false))⟩, ⟨(some 19), .bin .eql (.t 18) (.c (.int .i64 5)), (some (16, false))⟩, ⟨(some 20), .pick (.t 16) (.c (.bool true)) (.t 19), none⟩] [13, 14, 15, 16, 17, 18, 19]) (.cond (.t 20) (.region [ ⟨(some 21), .mov (.t 3), none⟩, ⟨(some 22), .fldaddr 1 1 (.t 5), none⟩, ⟨(some 23), .load false 1 (.t 22), none⟩, ⟨(some 24), .buildSl 1 1 [.int .i64 0] [(0, (.t 23))], none⟩, ⟨(some 25), .append 1 8 (.t 21) (.t 24), none⟩, ⟨(some 3), .mov (.t 25), none⟩] [5, 20, 21, 22, 23, 24, 25]) (.skip))))) (.region [ ⟨(some 26), .bin .add (.t 9) (.c (.int .i64 1)), none⟩, ⟨(some 9), .mov (.t 26), none⟩] [5, 20, 26])))

def ac_structure_Blocks_k1 : ACode :=
  /-live [3]-/ .seq /-9-/ (.region [ ⟨(some 27), .mov (.t 3), none⟩, ⟨(some 2), .mov (.t 27), none⟩] [3, 7, 8, 9, 27]) (.ret)

/-- decompiler/structure.Blocks -/
def ac_structure_Blocks : ACode := .seq /-0-/ (.region [ ⟨(some 1), .rbox (.t 0), none⟩, ⟨(some 2), .mknil 1, none⟩] [0, 2]) (.seq /-1-/ (.region [ ⟨(some 3), .mknil 1, none⟩] []) (.seq /-2-/ (.seq /-3-/ (.region [ ⟨(some 6), .load true 5 (.t 1), none⟩, ⟨(some 7), .call f_structure_all [(.t 6)], none⟩, ⟨(some 8), .len (.t 7), none⟩, ⟨(some 9), .mov (.c (.int .i64 0)), none⟩] [1, 6]) (.block 0 (.loop ac_structure_Blocks_l0))) (ac_structure_Blocks_k1)))

def rs_structure_Blocks : List ARet := [.tmp 2]

set_option maxRecDepth 100000 in
theorem cf_structure_Blocks : compF Tryz.prog f_structure_Blocks (qRo [1]) = some (ac_structure_Blocks.strip, rs_structure_Blocks, 28) := by kernel_rfl


/-- decompiler/decompilerlaw36.small -/
def ac_L36_small : ACode := .seq /-0-/ (.region [ ⟨(some 1), .rbox (.t 0), none⟩, ⟨(some 2), .mov (.c (.bool false)), none⟩] [0, 2]) (.seq /-1-/ (.region [ ⟨(some 3), .load true 5 (.t 1), none⟩, ⟨(some 4), .call f_L36_weight [(.t 3), (.c (.int .i64 300))], none⟩, ⟨(some 5), .bin .geq (.t 4) (.c (.int .i64 0)), none⟩, ⟨(some 2), .mov (.t 5), none⟩] [1, 3, 4, 5]) (.ret))

def rs_L36_small : List ARet := [.tmp 2]

set_option maxRecDepth 100000 in
theorem cf_L36_small : compF Tryz.prog f_L36_small (qRo [1]) = some (ac_L36_small.strip, rs_L36_small, 6) := by kernel_rfl

def ac_structure_Gotos_l0 : ACode :=
  /-live [3, 7, 8, 9]-/ .seq /-4-/ (.region [ ⟨(some 10), .bin .lss (.t 9) (.t 8), none⟩] []) (.seq /-5-/ (.cond (.t 10) (.skip) (.exit 0)) (.seq /-6-/ (.block 1 (.seq /-7-/ (.region [ ⟨(some 11), .idx 5 (.t 7) (.t 9), none⟩, ⟨(some 12), .load true 5 (.t 11), none⟩, ⟨(some 5), .alloc [.int .i64 0, .int .i64 0, .int .i64 0, .nilsl, .nilsl], none⟩, ⟨none, .store 5 (.t 5) (.t 12), none⟩] [10, 11, 12]) (.seq /-8-/ (.region [ ⟨(some 13), .fldaddr 0 1 (.t 5), none⟩, ⟨(some 14), .load false 1 (.t 13), none⟩, ⟨(some 15), .bin .eql (.t 14) (.c (.int .i64 9)), none⟩] [5, 13, 14]) (.cond (.t 15) (.region [ ⟨(some 16), .mov (.t 3), none⟩, ⟨(some 17), .bin .add (.t 16) (.c (.int .i64 1)), none⟩, ⟨(some 3), .mov (.t 17), none⟩] [15, 16, 17]) (.skip))))) (.region [ ⟨(some 18), .bin .add (.t 9) (.c (.int .i64 1)), none⟩, ⟨(some 9), .mov (.t 18), none⟩] [15, 18])))

def ac_structure_Gotos_k1 : ACode :=
  /-live [3]-/ .seq /-9-/ (.region [ ⟨(some 19), .mov (.t 3), none⟩, ⟨(some 2), .mov (.t 19), none⟩] [3, 7, 8, 9, 19]) (.ret)

/-- decompiler/structure.Gotos -/
def ac_structure_Gotos : ACode := .seq /-0-/ (.region [ ⟨(some 1), .rbox (.t 0), none⟩, ⟨(some 2), .mov (.c (.int .i64 0)), none⟩] [0, 2]) (.seq /-1-/ (.region [ ⟨(some 3), .mov (.c (.int .i64 0)), none⟩] []) (.seq /-2-/ (.seq /-3-/ (.region [ ⟨(some 6), .load true 5 (.t 1), none⟩, ⟨(some 7), .call f_structure_all [(.t 6)], none⟩, ⟨(some 8), .len (.t 7), none⟩, ⟨(some 9), .mov (.c (.int .i64 0)), none⟩] [1, 6]) (.block 0 (.loop ac_structure_Gotos_l0))) (ac_structure_Gotos_k1)))

def rs_structure_Gotos : List ARet := [.tmp 2]

set_option maxRecDepth 100000 in
theorem cf_structure_Gotos : compF Tryz.prog f_structure_Gotos (qRo [1]) = some (ac_structure_Gotos.strip, rs_structure_Gotos, 20) := by kernel_rfl

def ac_R36_Gotos_l0 : ACode :=
  /-live [1, 3, 4]-/ .seq /-6-/ (.seq /-7-/ (.region [ ⟨(some 10), .mov (.t 4), none⟩, ⟨(some 11), .fldaddr 4 1 (.t 1), none⟩, ⟨(some 12), .load false 1 (.t 11), none⟩, ⟨(some 13), .len (.t 12), none⟩, ⟨(some 14), .bin .lss (.t 10) (.t 13), none⟩] [10, 11, 12, 13]) (.cond (.t 14) (.skip) (.exit 0))) (.seq /-8-/ (.block 1 (.region [ ⟨(some 17), .mov (.t 3), none⟩, ⟨(some 18), .fldaddr 4 1 (.t 1), none⟩, ⟨(some 19), .load false 1 (.t 18), none⟩, ⟨(some 20), .mov (.t 4), none⟩, ⟨(some 21), .idx 5 (.t 19) (.t 20), none⟩, ⟨(some 22), .load true 5 (.t 21), none⟩, ⟨(some 23), .call f_R36_Gotos [(.t 22)], none⟩, ⟨(some 24), .bin .add (.t 17) (.t 23), none⟩, ⟨(some 3), .mov (.t 24), none⟩] [14, 17, 18, 19, 20, 21, 22, 23, 24])) (.region [ ⟨(some 15), .mov (.t 4), none⟩, ⟨(some 16), .bin .add (.t 15) (.c (.int .i64 1)), none⟩, ⟨(some 4), .mov (.t 16), none⟩] [15, 16]))

def ac_R36_Gotos_k1 : ACode :=
  /-live [3]-/ .seq /-9-/ (.region [ ⟨(some 25), .mov (.t 3), none⟩, ⟨(some 2), .mov (.t 25), none⟩] [1, 3, 4, 25]) (.ret)

/-- decompiler/decompilerref36.Gotos -/
def ac_R36_Gotos : ACode := .seq /-0-/ (.region [ ⟨(some 1), .rbox (.t 0), none⟩, ⟨(some 2), .mov (.c (.int .i64 0)), none⟩] [0, 2]) (.seq /-1-/ (.region [ ⟨(some 3), .mov (.c (.int .i64 0)), none⟩] []) (.seq /-2-/ (.seq /-3-/ (.region [ ⟨(some 5), .fldaddr 0 1 (.t 1), none⟩, ⟨(some 6), .load false 1 (.t 5), none⟩, ⟨(some 7), .bin .eql (.t 6) (.c (.int .i64 9)), none⟩] [5, 6]) (.cond (.t 7) (.region [ ⟨(some 8), .mov (.t 3), none⟩, ⟨(some 9), .bin .add (.t 8) (.c (.int .i64 1)), none⟩, ⟨(some 3), .mov (.t 9), none⟩] [7, 8, 9]) (.skip))) (.seq /-4-/ (.seq /-5-/ (.region [ ⟨(some 4), .mov (.c (.int .i64 0)), none⟩] [7]) (.block 0 (.loop ac_R36_Gotos_l0))) (ac_R36_Gotos_k1))))

def rs_R36_Gotos : List ARet := [.tmp 2]

set_option maxRecDepth 100000 in
theorem cf_R36_Gotos : compF Tryz.prog f_R36_Gotos (qRo [1]) = some (ac_R36_Gotos.strip, rs_R36_Gotos, 26) := by kernel_rfl


/-- decompiler/decompilerref24.Ints -/
def ac_R24_Ints : ACode := .seq /-0-/ (.region [ ⟨(some 4), .mov (.c (.bool false)), none⟩] [4]) (.seq /-1-/ (.region [ ⟨(some 5), .mov (.t 0), none⟩, ⟨(some 6), .buildSl 1 1 [.nilsl] [(0, (.t 5))], none⟩, ⟨(some 7), .mov (.t 1), none⟩, ⟨(some 8), .buildSl 1 1 [.nilsl] [(0, (.t 7))], none⟩, ⟨(some 9), .call f_R24_Lists [(.t 6), (.t 8)], none⟩, ⟨(some 4), .mov (.t 9), none⟩] [0, 1, 5, 6, 7, 8, 9]) (.ret))

def rs_R24_Ints : List ARet := [.tmp 4]

set_option maxRecDepth 100000 in
theorem cf_R24_Ints : compF Tryz.prog f_R24_Ints (qRo []) = some (ac_R24_Ints.strip, rs_R24_Ints, 10) := by kernel_rfl

def ac_structure_Labels_l0 : ACode :=
  /-live [3, 7, 8, 9]-/ .seq /-4-/ (.region [ ⟨(some 10), .bin .lss (.t 9) (.t 8), none⟩] []) (.seq /-5-/ (.cond (.t 10) (.skip) (.exit 0)) (.seq /-6-/ (.block 1 (.seq /-7-/ (.region [ ⟨(some 11), .idx 5 (.t 7) (.t 9), none⟩, ⟨(some 12), .load true 5 (.t 11), none⟩, ⟨(some 5), .alloc [.int .i64 0, .int .i64 0, .int .i64 0, .nilsl, .nilsl], none⟩, ⟨none, .store 5 (.t 5) (.t 12), none⟩] [10, 11, 12]) (.seq /-8-/ (.region [ ⟨(some 13), .fldaddr 0 1 (.t 5), none⟩, ⟨(some 14), .load false 1 (.t 13), none⟩, ⟨(some 15), .bin .eql (.t 14) (.c (.int .i64 10)), none⟩] [13, 14]) (.cond (.t 15) (.region [ ⟨(some 16), .mov (.t 3), none⟩, ⟨(some 17), .fldaddr 2 1 (.t 5), none⟩, ⟨(some 18), .load false 1 (.t 17), none⟩, ⟨(some 19), .buildSl 1 1 [.int .i64 0] [(0, (.t 18))], none⟩, ⟨(some 20), .append 1 8 (.t 16) (.t 19), none⟩, ⟨(some 3), .mov (.t 20), none⟩] [5, 15, 16, 17, 18, 19, 20]) (.skip))))) (.region [ ⟨(some 21), .bin .add (.t 9) (.c (.int .i64 1)), none⟩, ⟨(some 9), .mov (.t 21), none⟩] [5, 15, 21])))

def ac_structure_Labels_k1 : ACode :=
  /-live [3]-/ .seq /-9-/ (.region [ ⟨(some 22), .mov (.t 3), none⟩, ⟨(some 2), .mov (.t 22), none⟩] [3, 7, 8, 9, 22]) (.ret)

/-- decompiler/structure.Labels -/
def ac_structure_Labels : ACode := .seq /-0-/ (.region [ ⟨(some 1), .rbox (.t 0), none⟩, ⟨(some 2), .mknil 1, none⟩] [0, 2]) (.seq /-1-/ (.region [ ⟨(some 3), .mknil 1, none⟩] []) (.seq /-2-/ (.seq /-3-/ (.region [ ⟨(some 6), .load true 5 (.t 1), none⟩, ⟨(some 7), .call f_structure_all [(.t 6)], none⟩, ⟨(some 8), .len (.t 7), none⟩, ⟨(some 9), .mov (.c (.int .i64 0)), none⟩] [1, 6]) (.block 0 (.loop ac_structure_Labels_l0))) (ac_structure_Labels_k1)))

def rs_structure_Labels : List ARet := [.tmp 2]

set_option maxRecDepth 100000 in
theorem cf_structure_Labels : compF Tryz.prog f_structure_Labels (qRo [1]) = some (ac_structure_Labels.strip, rs_structure_Labels, 23) := by kernel_rfl

def ac_R36_Labels_l0 : ACode :=
  /-live [1, 3, 4]-/ .seq /-6-/ (.seq /-7-/ (.region [ ⟨(some 13), .mov (.t 4), none⟩, ⟨(some 14), .fldaddr 4 1 (.t 1), none⟩, ⟨(some 15), .load false 1 (.t 14), none⟩, ⟨(some 16), .len (.t 15), none⟩, ⟨(some 17), .bin .lss (.t 13) (.t 16), none⟩] [13, 14, 15, 16]) (.cond (.t 17) (.skip) (.exit 0))) (.seq /-8-/ (.block 1 (.region [ ⟨(some 20), .mov (.t 3), none⟩, ⟨(some 21), .fldaddr 4 1 (.t 1), none⟩, ⟨(some 22), .load false 1 (.t 21), none⟩, ⟨(some 23), .mov (.t 4), none⟩, ⟨(some 24), .idx 5 (.t 22) (.t 23), none⟩, ⟨(some 25), .load true 5 (.t 24), none⟩, ⟨(some 26), .call f_R36_Labels [(.t 25)], none⟩, ⟨(some 27), .append 1 8 (.t 20) (.t 26), none⟩, ⟨(some 3), .mov (.t 27), none⟩] [17, 20, 21, 22, 23, 24, 25, 26, 27])) (.region [ ⟨(some 18), .mov (.t 4), none⟩, ⟨(some 19), .bin .add (.t 18) (.c (.int .i64 1)), none⟩, ⟨(some 4), .mov (.t 19), none⟩] [18, 19]))

def ac_R36_Labels_k1 : ACode :=
  /-live [3]-/ .seq /-9-/ (.region [ ⟨(some 28), .mov (.t 3), none⟩, ⟨(some 2), .mov (.t 28), none⟩] [1, 3, 4, 28]) (.ret)

/-- decompiler/decompilerref36.Labels -/
def ac_R36_Labels : ACode := .seq /-0-/ (.region [ ⟨(some 1), .rbox (.t 0), none⟩, ⟨(some 2), .mknil 1, none⟩] [0, 2]) (.seq /-1-/ (.region [ ⟨(some 3), .mknil 1, none⟩] []) (.seq /-2-/ (.seq /-3-/ (.region [ ⟨(some 5), .fldaddr 0 1 (.t 1), none⟩, ⟨(some 6), .load false 1 (.t 5), none⟩, ⟨(some 7), .bin .eql (.t 6) (.c (.int .i64 10)), none⟩] [5, 6]) (.cond (.t 7) (.region [ ⟨(some 8), .mov (.t 3), none⟩, ⟨(some 9), .fldaddr 2 1 (.t 1), none⟩, ⟨(some 10), .load false 1 (.t 9), none⟩, ⟨(some 11), .buildSl 1 1 [.int .i64 0] [(0, (.t 10))], none⟩, ⟨(some 12), .append 1 8 (.t 8) (.t 11), none⟩, ⟨(some 3), .mov (.t 12), none⟩] [7, 8, 9, 10, 11, 12]) (.skip))) (.seq /-4-/ (.seq /-5-/ (.region [ ⟨(some 4), .mov (.c (.int .i64 0)), none⟩] [7]) (.block 0 (.loop ac_R36_Labels_l0))) (ac_R36_Labels_k1))))

def rs_R36_Labels : List ARet := [.tmp 2]

set_option maxRecDepth 100000 in
theorem cf_R36_Labels : compF Tryz.prog f_R36_Labels (qRo [1]) = some (ac_R36_Labels.strip, rs_R36_Labels, 29) := by kernel_rfl

def ac_R36_Blocks_l0 : ACode :=
  /-live [1, 3, 4]-/ .seq /-6-/ (.seq /-7-/ (.region [ ⟨(some 18), .mov (.t 4), none⟩, ⟨(some 19), .fldaddr 4 1 (.t 1), none⟩, ⟨(some 20), .load false 1 (.t 19), none⟩, ⟨(some 21), .len (.t 20), none⟩, ⟨(some 22), .bin .lss (.t 18) (.t 21), none⟩] [18, 19, 20, 21]) (.cond (.t 22) (.skip) (.exit 0))) (.seq /-8-/ (.block 1 (.region [ ⟨(some 25), .mov (.t 3), none⟩, ⟨(some 26), .fldaddr 4 1 (.t 1), none⟩, ⟨(some 27), .load false 1 (.t 26), none⟩, ⟨(some 28), .mov (.t 4), none⟩, ⟨(some 29), .idx 5 (.t 27) (.t 28), none⟩, ⟨(some 30), .load true 5 (.t 29), none⟩, ⟨(some 31), .call f_R36_Blocks [(.t 30)], none⟩, ⟨(some 32), .append 1 8 (.t 25) (.t 31), none⟩, ⟨(some 3), .mov (.t 32), none⟩] [22, 25, 26, 27, 28, 29, 30, 31, 32])) (.region [ ⟨(some 23), .mov (.t 4), none⟩, ⟨(some 24), .bin .add (.t 23) (.c (.int .i64 1)), none⟩, ⟨(some 4), .mov (.t 24), none⟩] [23, 24]))

def ac_R36_Blocks_k1 : ACode :=
  /-live [3]-/ .seq /-9-/ (.region [ ⟨(some 33), .mov (.t 3), none⟩, ⟨(some 2), .mov (.t 33), none⟩] [1, 3, 4, 33]) (.ret)

/-- decompiler/decompilerref36.Blocks -/
def ac_R36_Blocks : ACode := .seq /-0-/ (.region [ ⟨(some 1), .rbox (.t 0), none⟩, ⟨(some 2), .mknil 1, none⟩] [0, 2]) (.seq /-1-/ (.region [ ⟨(some 3), .mknil 1, none⟩] []) (.seq /-2-/ (.seq /-3-/ (.region [ ⟨(some 5), .fldaddr 0 1 (.t 1), none⟩, ⟨(some 6), .load false 1 (.t 5), none⟩, ⟨(some 7), .bin .eql (.t 6) (.c (.int .i64 2)), none⟩, ⟨(some 8), .mov (.t 7), none⟩, ⟨(some 9), .fldaddr 0 1 (.t 1), (some (8, false))⟩, ⟨(some 10), .load false 1 (.t 9), (some (8, false))⟩, ⟨(some 11), .bin .eql (.t 10) (.c (.int .i64 5)), (some (8, false))⟩, ⟨(some 12), .pick (.t 8) (.c (.bool true)) (.t 11), none⟩] [5, 6, 7, 8, 9, 10, 11]) (.cond (.t 12) (.region [ ⟨(some 13), .mov (.t 3), none⟩, ⟨(some 14), .fldaddr 1 1 (.t 1), none⟩, ⟨(some 15), .load false 1 (.t 14), none⟩, ⟨(some 16), .buildSl 1 1 [.int .i64 0] [(0, (.t 15))], none⟩, ⟨(some 17), .append 1 8 (.t 13) (.t 16), none⟩, ⟨(some 3), .mov (.t 17), none⟩] [12, 13, 14, 15, 16, 17]) (.skip))) (.seq /-4-/ (.seq /-5-/ (.region [ ⟨(some 4), .mov (.c (.int .i64 0)), none⟩] [12]) (.block 0 (.loop ac_R36_Blocks_l0))) (ac_R36_Blocks_k1))))

def rs_R36_Blocks : List ARet := [.tmp 2]

set_option maxRecDepth 100000 in
theorem cf_R36_Blocks : compF Tryz.prog f_R36_Blocks (qRo [1]) = some (ac_R36_Blocks.strip, rs_R36_Blocks, 34) := by kernel_rfl

def ac_L36_leaves_l0 : ACode :=
  /-live [1, 3]-/ .seq /-6-/ (.seq /-7-/ (.region [ ⟨(some 13), .mov (.t 3), none⟩, ⟨(some 14), .fldaddr 4 1 (.t 1), none⟩, ⟨(some 15), .load false 1 (.t 14), none⟩, ⟨(some 16), .len (.t 15), none⟩, ⟨(some 17), .bin .lss (.t 13) (.t 16), none⟩] [13, 14, 15, 16]) (.cond (.t 17) (.skip) (.exit 0))) (.seq /-8-/ (.block 1 (.seq /-9-/ (.region [ ⟨(some 20), .fldaddr 4 1 (.t 1), none⟩, ⟨(some 21), .load false 1 (.t 20), none⟩, ⟨(some 22), .mov (.t 3), none⟩, ⟨(some 23), .idx 5 (.t 21) (.t 22), none⟩, ⟨(some 24), .load true 5 (.t 23), none⟩, ⟨(some 25), .call f_L36_leaves [(.t 24)], none⟩, ⟨(some 26), .un .not (.t 25), none⟩] [17, 20, 21, 22, 23, 24, 25]) (.cond (.t 26) (.seq /-10-/ (.region [ ⟨(some 2), .mov (.c (.bool false)), none⟩] [1, 3, 26]) (.ret)) (.skip)))) (.region [ ⟨(some 18), .mov (.t 3), none⟩, ⟨(some 19), .bin .add (.t 18) (.c (.int .i64 1)), none⟩, ⟨(some 3), .mov (.t 19), none⟩] [2, 18, 19, 26]))

def ac_L36_leaves_k1 : ACode :=
  /-live []-/ .seq /-11-/ (.region [ ⟨(some 2), .mov (.c (.bool true)), none⟩] [1, 3]) (.ret)

/-- decompiler/decompilerlaw36.leaves -/
def ac_L36_leaves : ACode := .seq /-0-/ (.region [ ⟨(some 1), .rbox (.t 0), none⟩, ⟨(some 2), .mov (.c (.bool false)), none⟩] [0, 2]) (.seq /-1-/ (.seq /-2-/ (.region [ ⟨(some 4), .fldaddr 0 1 (.t 1), none⟩, ⟨(some 5), .load false 1 (.t 4), none⟩, ⟨(some 6), .bin .eql (.t 5) (.c (.int .i64 8)), none⟩, ⟨(some 7), .mov (.t 6), none⟩, ⟨(some 8), .fldaddr 4 1 (.t 1), (some (7, true))⟩, ⟨(some 9), .load false 1 (.t 8), (some (7, true))⟩, ⟨(some 10), .len (.t 9), (some (7, true))⟩, ⟨(some 11), .bin .gtr (.t 10) (.c (.int .i64 0)), (some (7, true))⟩, ⟨(some 12), .pick (.t 7) (.t 11) (.c (.bool false)), none⟩] [4, 5, 6, 7, 8, 9, 10, 11]) (.cond (.t 12) (.seq /-3-/ (.region [ ⟨(some 2), .mov (.c (.bool false)), none⟩] [1, 12]) (.ret)) (.skip))) (.seq /-4-/ (.seq /-5-/ (.region [ ⟨(some 3), .mov (.c (.int .i64 0)), none⟩] [2, 12]) (.block 0 (.loop ac_L36_leaves_l0))) (ac_L36_leaves_k1)))

def rs_L36_leaves : List ARet := [.tmp 2]

set_option maxRecDepth 100000 in
theorem cf_L36_leaves : compF Tryz.prog f_L36_leaves (qRo [1]) = some (ac_L36_leaves.strip, rs_L36_leaves, 27) := by kernel_rfl

def ac_L19_Nodes_l0 : ACode :=
  /-live [1, 3, 7, 8]-/ .seq /-7-/ (.seq /-8-/ (.region [ ⟨(some 23), .mov (.t 8), none⟩, ⟨(some 24), .fldaddr 4 1 (.t 3), none⟩, ⟨(some 25), .load false 1 (.t 24), none⟩, ⟨(some 26), .len (.t 25), none⟩, ⟨(some 27), .bin .lss (.t 23) (.t 26), none⟩, ⟨(some 28), .mov (.t 27), none⟩, ⟨(some 29), .mov (.t 7), (some (28, true))⟩, ⟨(some 30), .bin .geq (.t 29) (.c (.int .i64 0)), (some (28, true))⟩, ⟨(some 31), .pick (.t 28) (.t 30) (.c (.bool false)), none⟩] [23, 24, 25, 26, 27, 28, 29, 30]) (.cond (.t 31) (.skip) (.exit 0))) (.seq /-9-/ (.block 1 (.region [ ⟨(some 34), .fldaddr 4 1 (.t 3), none⟩, ⟨(some 35), .load false 1 (.t 34), none⟩, ⟨(some 36), .mov (.t 8), none⟩, ⟨(some 37), .idx 5 (.t 35) (.t 36), none⟩, ⟨(some 38), .load true 5 (.t 37), none⟩, ⟨(some 39), .mov (.t 1), none⟩, ⟨(some 40), .bin .sub (.t 39) (.c (.int .i64 1)), none⟩, ⟨(some 41), .mov (.t 7), none⟩, ⟨(some 42), .call f_L19_Nodes [(.t 38), (.t 40), (.t 41)], none⟩, ⟨(some 7), .mov (.t 42), none⟩] [31, 34, 35, 36, 37, 38, 39, 40, 41, 42])) (.region [ ⟨(some 32), .mov (.t 8), none⟩, ⟨(some 33), .bin .add (.t 32) (.c (.int .i64 1)), none⟩, ⟨(some 8), .mov (.t 33), none⟩] [32, 33]))

def ac_L19_Nodes_k1 : ACode :=
  /-live [7]-/ .seq /-10-/ (.region [ ⟨(some 43), .mov (.t 7), none⟩, ⟨(some 6), .mov (.t 43), none⟩] [1, 3, 7, 8, 43]) (.ret)

/-- decompiler/decompilerlaw19.Nodes -/
def ac_L19_Nodes : ACode := .seq /-0-/ (.region [ ⟨(some 3), .rbox (.t 0), none⟩, ⟨(some 6), .mov (.c (.int .i64 0)), none⟩] [0, 6]) (.seq /-1-/ (.seq /-2-/ (.region [ ⟨(some 9), .mov (.t 1), none⟩, ⟨(some 10), .bin .lss (.t 9) (.c (.int .i64 1)), none⟩, ⟨(some 11), .mov (.t 10), none⟩, ⟨(some 12), .mov (.t 2), (some (11, false))⟩, ⟨(some 13), .bin .lss (.t 12) (.c (.int .i64 1)), (some (11, false))⟩, ⟨(some 14), .pick (.t 11) (.c (.bool true)) (.t 13), none⟩, ⟨(some 15), .mov (.t 14), none⟩, ⟨(some 16), .fldaddr 4 1 (.t 3), (some (15, false))⟩, ⟨(some 17), .load false 1 (.t 16), (some (15, false))⟩, ⟨(some 18), .len (.t 17), (some (15, false))⟩, ⟨(some 19), .bin .gtr (.t 18) (.c (.int .i64 4)), (some (15, false))⟩, ⟨(some 20), .pick (.t 15) (.c (.bool true)) (.t 19), none⟩] [9, 10, 11, 12, 13, 14, 15, 16, 17, 18, 19]) (.cond (.t 20) (.seq /-3-/ (.region [ ⟨(some 6), .mov (.c (.int .i64 (-1))), none⟩] [1, 2, 3, 20]) (.ret)) (.skip))) (.seq /-4-/ (.region [ ⟨(some 21), .mov (.t 2), none⟩, ⟨(some 22), .bin .sub (.t 21) (.c (.int .i64 1)), none⟩, ⟨(some 7), .mov (.t 22), none⟩] [2, 6, 20, 21, 22]) (.seq /-5-/ (.seq /-6-/ (.region [ ⟨(some 8), .mov (.c (.int .i64 0)), none⟩] []) (.block 0 (.loop ac_L19_Nodes_l0))) (ac_L19_Nodes_k1))))

def rs_L19_Nodes : List ARet := [.tmp 6]

set_option maxRecDepth 100000 in
theorem cf_L19_Nodes : compF Tryz.prog f_L19_Nodes (qRo [3]) = some (ac_L19_Nodes.strip, rs_L19_Nodes, 44) := by kernel_rfl

def ac_structure_all_l0 : ACode :=
  /-live [3, 4, 5, 6]-/ .seq /-13-/ (.seq /-14-/ (.region [ ⟨(some 35), .mov (.t 6), none⟩, ⟨(some 36), .bin .geq (.t 35) (.c (.int .i64 0)), none⟩] [35]) (.cond (.t 36) (.skip) (.exit 2))) (.seq /-15-/ (.block 3 (.region [ ⟨(some 39), .mov (.t 4), none⟩, ⟨(some 40), .fldaddr 4 1 (.t 5), none⟩, ⟨(some 41), .load false 1 (.t 40), none⟩, ⟨(some 42), .mov (.t 6), none⟩, ⟨(some 43), .idx 5 (.t 41) (.t 42), none⟩, ⟨(some 44), .load true 5 (.t 43), none⟩, ⟨(some 45), .buildSl 5 1 [.int .i64 0, .int .i64 0, .int .i64 0, .nilsl, .nilsl] [(0, (.t 44))], none⟩, ⟨(some 46), .append 5 72 (.t 39) (.t 45), none⟩, ⟨(some 4), .mov (.t 46), none⟩] [36, 39, 40, 41, 42, 43, 44, 45, 46])) (.region [ ⟨(some 37), .mov (.t 6), none⟩, ⟨(some 38), .bin .sub (.t 37) (.c (.int .i64 1)), none⟩, ⟨(some 6), .mov (.t 38), none⟩] [37, 38]))

def ac_structure_all_l1 : ACode :=
  /-live [3, 4]-/ .seq /-5-/ (.seq /-6-/ (.region [ ⟨(some 9), .mov (.t 4), none⟩, ⟨(some 10), .len (.t 9), none⟩, ⟨(some 11), .bin .gtr (.t 10) (.c (.int .i64 0)), none⟩] [9, 10]) (.cond (.t 11) (.skip) (.exit 0))) (.block 1 (.seq /-7-/ (.region [ ⟨(some 12), .mov (.t 4), none⟩, ⟨(some 13), .mov (.t 4), none⟩, ⟨(some 14), .len (.t 13), none⟩, ⟨(some 15), .bin .sub (.t 14) (.c (.int .i64 1)), none⟩, ⟨(some 16), .idx 5 (.t 12) (.t 15), none⟩, ⟨(some 17), .load true 5 (.t 16), none⟩, ⟨(some 5), .alloc [.int .i64 0, .int .i64 0, .int .i64 0, .nilsl, .nilsl], none⟩, ⟨none, .store 5 (.t 5) (.t 17), none⟩] [11, 12, 13, 14, 15, 16, 17]) (.seq /-8-/ (.region [ ⟨(some 18), .mov (.t 4), none⟩, ⟨(some 19), .mov (.t 4), none⟩, ⟨(some 20), .len (.t 19), none⟩, ⟨(some 21), .bin .sub (.t 20) (.c (.int .i64 1)), none⟩, ⟨(some 22), .slice 5 (.t 18) none (some (.t 21)), none⟩, ⟨(some 4), .mov (.t 22), none⟩] [18, 19, 20, 21, 22]) (.seq /-9-/ (.region [ ⟨(some 23), .mov (.t 3), none⟩, ⟨(some 24), .load true 5 (.t 5), none⟩, ⟨(some 25), .buildSl 5 1 [.int .i64 0, .int .i64 0, .int .i64 0, .nilsl, .nilsl] [(0, (.t 24))], none⟩, ⟨(some 26), .append 5 72 (.t 23) (.t 25), none⟩, ⟨(some 3), .mov (.t 26), none⟩] [23, 24, 25, 26]) (.seq /-10-/ (.seq /-11-/ (.region [ ⟨(some 27), .fldaddr 4 1 (.t 5), none⟩, ⟨(some 28), .load false 1 (.t 27), none⟩, ⟨(some 29), .len (.t 28), none⟩, ⟨(some 30), .bin .eql (.t 29) (.c (.int .i64 0)), none⟩] [27, 28, 29]) (.cond (.t 30) (.exit 1) (.skip))) (.seq /-12-/ (.region [ ⟨(some 31), .fldaddr 4 1 (.t 5), none⟩, ⟨(some 32), .load false 1 (.t 31), none⟩, ⟨(some 33), .len (.t 32), none⟩, ⟨(some 34), .bin .sub (.t 33) (.c (.int .i64 1)), none⟩, ⟨(some 6), .mov (.t 34), none⟩] [30, 31, 32, 33, 34]) (.block 2 (.loop ac_structure_all_l0))))))))

def ac_structure_all_k2 : ACode :=
  /-live [3]-/ .seq /-16-/ (.region [ ⟨(some 47), .mov (.t 3), none⟩, ⟨(some 2), .mov (.t 47), none⟩] [3, 4, 5, 6, 47]) (.ret)

/-- decompiler/structure.all -/
def ac_structure_all : ACode := .seq /-0-/ (.region [ ⟨(some 1), .rbox (.t 0), none⟩, ⟨(some 2), .mknil 5, none⟩] [0, 2]) (.scope (.seq /-1-/ (.region [ ⟨(some 3), .mknil 5, none⟩] []) (.seq /-2-/ (.region [ ⟨(some 7), .load true 5 (.t 1), none⟩, ⟨(some 8), .buildSl 5 1 [.int .i64 0, .int .i64 0, .int .i64 0, .nilsl, .nilsl] [(0, (.t 7))], none⟩, ⟨(some 4), .mov (.t 8), none⟩] [1, 7, 8]) (.seq /-3-/ (.label 0) (.seq /-4-/ (.block 0 (.loop ac_structure_all_l1)) (ac_structure_all_k2))))))

def rs_structure_all : List ARet := [.tmp 2]

set_option maxRecDepth 100000 in
theorem cf_structure_all : compF Tryz.prog f_structure_all (qRo [1]) = some (ac_structure_all.strip, rs_structure_all, 48) := by kernel_rfl

def ac_L36_weight_l0 : ACode :=
  /-live [1, 2, 5]-/ .seq /-7-/ (.seq /-8-/ (.region [ ⟨(some 13), .mov (.t 5), none⟩, ⟨(some 14), .fldaddr 3 1 (.t 2), none⟩, ⟨(some 15), .load false 1 (.t 14), none⟩, ⟨(some 16), .len (.t 15), none⟩, ⟨(some 17), .bin .lss (.t 13) (.t 16), none⟩] [13, 14, 15, 16]) (.cond (.t 17) (.skip) (.exit 0))) (.seq /-9-/ (.block 1 (.seq /-10-/ (.region [ ⟨(some 20), .fldaddr 3 1 (.t 2), none⟩, ⟨(some 21), .load false 1 (.t 20), none⟩, ⟨(some 22), .mov (.t 5), none⟩, ⟨(some 23), .idx 5 (.t 21) (.t 22), none⟩, ⟨(some 24), .load true 5 (.t 23), none⟩, ⟨(some 25), .call f_L19_Nodes [(.t 24), (.c (.int .i64 70)), (.c (.int .i64 200))], none⟩, ⟨(some 26), .bin .lss (.t 25) (.c (.int .i64 0)), none⟩] [17, 20, 21, 22, 23, 24, 25]) (.cond (.t 26) (.seq /-11-/ (.region [ ⟨(some 4), .mov (.c (.int .i64 (-1))), none⟩] [1, 2, 5, 26]) (.ret)) (.skip)))) (.region [ ⟨(some 18), .mov (.t 5), none⟩, ⟨(some 19), .bin .add (.t 18) (.c (.int .i64 1)), none⟩, ⟨(some 5), .mov (.t 19), none⟩] [4, 18, 19, 26]))

def ac_L36_weight_l1 : ACode :=
  /-live [1, 2, 6]-/ .seq /-14-/ (.seq /-15-/ (.region [ ⟨(some 27), .mov (.t 6), none⟩, ⟨(some 28), .fldaddr 4 1 (.t 2), none⟩, ⟨(some 29), .load false 1 (.t 28), none⟩, ⟨(some 30), .len (.t 29), none⟩, ⟨(some 31), .bin .lss (.t 27) (.t 30), none⟩, ⟨(some 32), .mov (.t 31), none⟩, ⟨(some 33), .mov (.t 1), (some (32, true))⟩, ⟨(some 34), .bin .geq (.t 33) (.c (.int .i64 0)), (some (32, true))⟩, ⟨(some 35), .pick (.t 32) (.t 34) (.c (.bool false)), none⟩] [27, 28, 29, 30, 31, 32, 33, 34]) (.cond (.t 35) (.skip) (.exit 2))) (.seq /-16-/ (.block 3 (.region [ ⟨(some 38), .fldaddr 4 1 (.t 2), none⟩, ⟨(some 39), .load false 1 (.t 38), none⟩, ⟨(some 40), .mov (.t 6), none⟩, ⟨(some 41), .idx 5 (.t 39) (.t 40), none⟩, ⟨(some 42), .load true 5 (.t 41), none⟩, ⟨(some 43), .mov (.t 1), none⟩, ⟨(some 44), .call f_L36_weight [(.t 42), (.t 43)], none⟩, ⟨(some 1), .mov (.t 44), none⟩] [35, 38, 39, 40, 41, 42, 43, 44])) (.region [ ⟨(some 36), .mov (.t 6), none⟩, ⟨(some 37), .bin .add (.t 36) (.c (.int .i64 1)), none⟩, ⟨(some 6), .mov (.t 37), none⟩] [36, 37]))

def ac_L36_weight_k2 : ACode :=
  /-live [1]-/ .seq /-17-/ (.region [ ⟨(some 45), .mov (.t 1), none⟩, ⟨(some 4), .mov (.t 45), none⟩] [1, 2, 6, 45]) (.ret)

def ac_L36_weight_k3 : ACode :=
  /-live [1, 2]-/ .seq /-12-/ (.seq /-13-/ (.region [ ⟨(some 6), .mov (.c (.int .i64 0)), none⟩] [5]) (.block 2 (.loop ac_L36_weight_l1))) (ac_L36_weight_k2)

/-- decompiler/decompilerlaw36.weight -/
def ac_L36_weight : ACode := .seq /-0-/ (.region [ ⟨(some 2), .rbox (.t 0), none⟩, ⟨(some 4), .mov (.c (.int .i64 0)), none⟩] [0, 4]) (.seq /-1-/ (.region [ ⟨(some 7), .mov (.t 1), none⟩, ⟨(some 8), .bin .sub (.t 7) (.c (.int .i64 1)), none⟩, ⟨(some 1), .mov (.t 8), none⟩] [7, 8]) (.seq /-2-/ (.seq /-3-/ (.region [ ⟨(some 9), .fldaddr 3 1 (.t 2), none⟩, ⟨(some 10), .load false 1 (.t 9), none⟩, ⟨(some 11), .len (.t 10), none⟩, ⟨(some 12), .bin .gtr (.t 11) (.c (.int .i64 3)), none⟩] [9, 10, 11]) (.cond (.t 12) (.seq /-4-/ (.region [ ⟨(some 4), .mov (.c (.int .i64 (-1))), none⟩] [1, 2, 12]) (.ret)) (.skip))) (.seq /-5-/ (.seq /-6-/ (.region [ ⟨(some 5), .mov (.c (.int .i64 0)), none⟩] [4, 12]) (.block 0 (.loop ac_L36_weight_l0))) (ac_L36_weight_k3))))

def rs_L36_weight : List ARet := [.tmp 4]

set_option maxRecDepth 100000 in
theorem cf_L36_weight : compF Tryz.prog f_L36_weight (qRo [2]) = some (ac_L36_weight.strip, rs_L36_weight, 46) := by kernel_rfl

def ac_R24_Lists_l0 : ACode :=
  /-live [0, 1, 5, 6]-/ .seq /-13-/ (.seq /-14-/ (.region [ ⟨(some 29), .mov (.t 6), none⟩, ⟨(some 30), .mov (.t 0), none⟩, ⟨(some 31), .mov (.t 5), none⟩, ⟨(some 32), .idx 1 (.t 30) (.t 31), none⟩, ⟨(some 33), .load false 1 (.t 32), none⟩, ⟨(some 34), .len (.t 33), none⟩, ⟨(some 35), .bin .lss (.t 29) (.t 34), none⟩] [29, 30, 31, 32, 33, 34]) (.cond (.t 35) (.skip) (.exit 2))) (.seq /-15-/ (.block 3 (.seq /-16-/ (.draw ( .step ⟨(some 38), .mov (.t 0), none⟩ ( .step ⟨(some 39), .mov (.t 5), none⟩ ( .step ⟨(some 40), .idx 1 (.t 38) (.t 39), none⟩ ( .step ⟨(some 41), .load false 1 (.t 40), none⟩ ( .step ⟨(some 42), .mov (.t 6), none⟩ ( .step ⟨(some 43), .idx 1 (.t 41) (.t 42), none⟩ ( .step ⟨(some 44), .load false 1 (.t 43), none⟩ ( .step ⟨(some 45), .mov (.t 1), none⟩ ( .step ⟨(some 46), .mov (.t 5), none⟩ ( .step ⟨(some 47), .idx 1 (.t 45) (.t 46), none⟩ ( .step ⟨(some 48), .load false 1 (.t 47), none⟩ ( .step ⟨(some 49), .mov (.t 6), none⟩ ( .step ⟨(some 50), .idx 1 (.t 48) (.t 49), none⟩ ( .step ⟨(some 51), .load false 1 (.t 50), none⟩ ( .step ⟨(some 52), .bin .neq (.t 44) (.t 51), none⟩ ( .done)))))))))))))))) [35, 38, 39, 40, 41, 42, 43, 44, 45, 46, 47, 48, 49, 50, 51]) (.cond (.t 52) (.seq /-17-/ (.region [ ⟨(some 4), .mov (.c (.bool false)), none⟩] [0, 1, 5, 6, 52]) (.ret)) (.skip)))) (.region [ ⟨(some 36), .mov (.t 6), none⟩, ⟨(some 37), .bin .add (.t 36) (.c (.int .i64 1)), none⟩, ⟨(some 6), .mov (.t 37), none⟩] [4, 36, 37, 52]))

def ac_R24_Lists_k1 : ACode :=
  /-live [0, 1, 5]-/ .region [ ⟨(some 16), .mov (.t 5), none⟩, ⟨(some 17), .bin .add (.t 16) (.c (.int .i64 1)), none⟩, ⟨(some 5), .mov (.t 17), none⟩] [6, 16, 17]

def ac_R24_Lists_l2 : ACode :=
  /-live [0, 1, 5]-/ .seq /-6-/ (.seq /-7-/ (.region [ ⟨(some 12), .mov (.t 5), none⟩, ⟨(some 13), .mov (.t 0), none⟩, ⟨(some 14), .len (.t 13), none⟩, ⟨(some 15), .bin .lss (.t 12) (.t 14), none⟩] [12, 13, 14]) (.cond (.t 15) (.skip) (.exit 0))) (.seq /-8-/ (.block 1 (.seq /-9-/ (.seq /-10-/ (.draw ( .step ⟨(some 18), .mov (.t 0), none⟩ ( .step ⟨(some 19), .mov (.t 5), none⟩ ( .step ⟨(some 20), .idx 1 (.t 18) (.t 19), none⟩ ( .step ⟨(some 21), .load false 1 (.t 20), none⟩ ( .step ⟨(some 22), .len (.t 21), none⟩ ( .step ⟨(some 23), .mov (.t 1), none⟩ ( .step ⟨(some 24), .mov (.t 5), none⟩ ( .step ⟨(some 25), .idx 1 (.t 23) (.t 24), none⟩ ( .step ⟨(some 26), .load false 1 (.t 25), none⟩ ( .step ⟨(some 27), .len (.t 26), none⟩ ( .step ⟨(some 28), .bin .neq (.t 22) (.t 27), none⟩ ( .done)))))))))))) [15, 18, 19, 20, 21, 22, 23, 24, 25, 26, 27]) (.cond (.t 28) (.seq /-11-/ (.region [ ⟨(some 4), .mov (.c (.bool false)), none⟩] [0, 1, 5, 28]) (.ret)) (.skip))) (.seq /-12-/ (.region [ ⟨(some 6), .mov (.c (.int .i64 0)), none⟩] [4, 28]) (.block 2 (.loop ac_R24_Lists_l0))))) (ac_R24_Lists_k1))

def ac_R24_Lists_k3 : ACode :=
  /-live []-/ .seq /-18-/ (.region [ ⟨(some 4), .mov (.c (.bool true)), none⟩] [0, 1, 5]) (.ret)

/-- decompiler/decompilerref24.Lists -/
def ac_R24_Lists : ACode := .seq /-0-/ (.region [ ⟨(some 4), .mov (.c (.bool false)), none⟩] [4]) (.seq /-1-/ (.seq /-2-/ (.region [ ⟨(some 7), .mov (.t 0), none⟩, ⟨(some 8), .len (.t 7), none⟩, ⟨(some 9), .mov (.t 1), none⟩, ⟨(some 10), .len (.t 9), none⟩, ⟨(some 11), .bin .neq (.t 8) (.t 10), none⟩] [7, 8, 9, 10]) (.cond (.t 11) (.seq /-3-/ (.region [ ⟨(some 4), .mov (.c (.bool false)), none⟩] [0, 1, 11]) (.ret)) (.skip))) (.seq /-4-/ (.seq /-5-/ (.region [ ⟨(some 5), .mov (.c (.int .i64 0)), none⟩] [4, 11]) (.block 0 (.loop ac_R24_Lists_l2))) (ac_R24_Lists_k3)))

def rs_R24_Lists : List ARet := [.tmp 4]

set_option maxRecDepth 100000 in
theorem cf_R24_Lists : compF Tryz.prog f_R24_Lists (qRo []) = some (ac_R24_Lists.strip, rs_R24_Lists, 53) := by kernel_rfl

end Go.Ab

namespace Go.Ab
open Go.RowKit Go.Proofs


/-- decompiler/decompilerlaw36.StructureSimplifies -/
def ac_L36_StructureSimplifies : ACode := .seq /-0-/ (.region [ ⟨(some 1), .rbox (.t 0), none⟩, ⟨(some 2), .mov (.c (.bool false)), none⟩] [0, 2]) (.seq /-1-/ (.seq /-2-/ (.region [ ⟨(some 4), .load true 5 (.t 1), none⟩, ⟨(some 5), .call f_L36_small [(.t 4)], none⟩, ⟨(some 6), .un .not (.t 5), none⟩] [4, 5]) (.cond (.t 6) (.seq /-3-/ (.region [ ⟨(some 7), .call f_L36_exampleHolds [], none⟩, ⟨(some 2), .mov (.t 7), none⟩] [1, 6, 7]) (.ret)) (.skip))) (.seq /-4-/ (.region [ ⟨(some 8), .load true 5 (.t 1), none⟩, ⟨(some 9), .call f_structure_Simplify [(.t 8)], none⟩, ⟨(some 3), .alloc [.int .i64 0, .int .i64 0, .int .i64 0, .nilsl, .nilsl], none⟩, ⟨none, .store 5 (.t 3) (.t 9), none⟩] [2, 6, 8, 9]) (.seq /-5-/ (.seq /-6-/ (.region [ ⟨(some 10), .load true 5 (.t 1), none⟩, ⟨(some 11), .call f_L36_leaves [(.t 10)], none⟩, ⟨(some 12), .un .not (.t 11), none⟩] [10, 11]) (.cond (.t 12) (.seq /-7-/ (.draw ( .step ⟨(some 13), .load true 5 (.t 3), none⟩ ( .step ⟨(some 14), .load true 5 (.t 1), none⟩ ( .step ⟨(some 15), .callq f_R36_Simplify [(.t 14)], none⟩ ( .step ⟨(some 16), .callq f_R36_Same [(.t 13), (.t 15)], none⟩ ( .step ⟨(some 17), .mov (.t 16), none⟩ ( .step ⟨(some 18), .callq f_L36_exampleHolds [], (some (17, true))⟩ ( .step ⟨(some 19), .pick (.t 17) (.t 18) (.c (.bool false)), none⟩ ( .step ⟨(some 2), .mov (.t 19), none⟩ ( .done))))))))) [1, 3, 12, 13, 14, 15, 16, 17, 18, 19]) (.ret)) (.skip))) (.seq /-8-/ (.draw ( .step ⟨(some 20), .load true 5 (.t 3), none⟩ ( .step ⟨(some 21), .load true 5 (.t 1), none⟩ ( .step ⟨(some 22), .callq f_R36_Simplify [(.t 21)], none⟩ ( .step ⟨(some 23), .callq f_R36_Same [(.t 20), (.t 22)], none⟩ ( .step ⟨(some 24), .mov (.t 23), none⟩ ( .step ⟨(some 25), .load true 5 (.t 3), (some (24, true))⟩ ( .step ⟨(some 26), .callq f_structure_Gotos [(.t 25)], (some (24, true))⟩ ( .step ⟨(some 27), .load true 5 (.t 1), (some (24, true))⟩ ( .step ⟨(some 28), .callq f_R36_Gotos [(.t 27)], (some (24, true))⟩ ( .step ⟨(some 29), .bin .eql (.t 26) (.t 28), (some (24, true))⟩ ( .step ⟨(some 30), .pick (.t 24) (.t 29) (.c (.bool false)), none⟩ ( .step ⟨(some 31), .mov (.t 30), none⟩ ( .step ⟨(some 32), .load true 5 (.t 3), (some (31, true))⟩ ( .step ⟨(some 33), .callq f_structure_Labels [(.t 32)], (some (31, true))⟩ ( .step ⟨(some 34), .load true 5 (.t 1), (some (31, true))⟩ ( .step ⟨(some 35), .callq f_R36_Labels [(.t 34)], (some (31, true))⟩ ( .step ⟨(some 36), .callq f_R24_Ints [(.t 33), (.t 35)], (some (31, true))⟩ ( .step ⟨(some 37), .pick (.t 31) (.t 36) (.c (.bool false)), none⟩ ( .step ⟨(some 38), .mov (.t 37), none⟩ ( .step ⟨(some 39), .load true 5 (.t 3), (some (38, true))⟩ ( .step ⟨(some 40), .callq f_structure_Blocks [(.t 39)], (some (38, true))⟩ ( .step ⟨(some 41), .load true 5 (.t 1), (some (38, true))⟩ ( .step ⟨(some 42), .callq f_R36_Blocks [(.t 41)], (some (38, true))⟩ ( .step ⟨(some 43), .callq f_R24_Ints [(.t 40), (.t 42)], (some (38, true))⟩ ( .step ⟨(some 44), .pick (.t 38) (.t 43) (.c (.bool false)), none⟩ ( .step ⟨(some 45), .mov (.t 44), none⟩ ( .step ⟨(some 46), .callq f_L36_exampleHolds [], (some (45, true))⟩ ( .step ⟨(some 47), .pick (.t 45) (.t 46) (.c (.bool false)), none⟩ ( .step ⟨(some 2), .mov (.t 47), none⟩ ( .done)))))))))))))))))))))))))))))) [1, 3, 12, 20, 21, 22, 23, 24, 25, 26, 27, 28, 29, 30, 31, 32, 33, 34, 35, 36, 37, 38, 39, 40, 41, 42, 43, 44, 45, 46, 47]) (.ret)))))

def rs_L36_StructureSimplifies : List ARet := [.tmp 2]

set_option maxRecDepth 100000 in
theorem cf_L36_StructureSimplifies : compF Tryz.prog f_L36_StructureSimplifies (qRo [1]) = some (ac_L36_StructureSimplifies.strip, rs_L36_StructureSimplifies, 48) := by kernel_rfl

def ac_structure_Simplify_l0 : ACode :=
  /-live [1, 2, 3, 11, 12]-/ .seq /-4-/ (.region [ ⟨(some 13), .bin .lss (.t 12) (.t 11), none⟩] []) (.seq /-5-/ (.cond (.t 13) (.skip) (.exit 0)) (.seq /-6-/ (.block 1 (.seq /-7-/ (.region [ ⟨(some 14), .mov (.t 12), none⟩, ⟨(some 4), .mov (.t 14), none⟩] [13, 14]) (.seq /-8-/ (.region [ ⟨(some 15), .mov (.t 3), none⟩, ⟨(some 16), .mov (.t 4), none⟩, ⟨(some 17), .mov (.t 3), none⟩, ⟨(some 18), .mov (.t 4), none⟩, ⟨(some 19), .idx 5 (.t 17) (.t 18), none⟩, ⟨(some 20), .load true 5 (.t 19), none⟩, ⟨(some 21), .call f_structure_Simplify [(.t 20)], none⟩, ⟨(some 22), .idx 5 (.t 15) (.t 16), none⟩, ⟨none, .store 5 (.t 22) (.t 21), none⟩] [15, 16, 17, 18, 19, 20, 21, 22]) (.seq /-9-/ (.region [ ⟨(some 23), .fldaddr 0 1 (.t 1), none⟩, ⟨(some 24), .load false 1 (.t 23), none⟩, ⟨(some 25), .bin .eql (.t 24) (.c (.int .i64 4)), none⟩, ⟨(some 26), .mov (.t 25), none⟩, ⟨(some 27), .fldaddr 0 1 (.t 1), (some (26, false))⟩, ⟨(some 28), .load false 1 (.t 27), (some (26, false))⟩, ⟨(some 29), .bin .eql (.t 28) (.c (.int .i64 5)), (some (26, false))⟩, ⟨(some 30), .pick (.t 26) (.c (.bool true)) (.t 29), none⟩] [23, 24, 25, 26, 27, 28, 29]) (.cond (.t 30) (.region [ ⟨(some 31), .mov (.t 3), none⟩, ⟨(some 32), .mov (.t 4), none⟩, ⟨(some 33), .mov (.t 3), none⟩, ⟨(some 34), .mov (.t 4), none⟩, ⟨(some 35), .idx 5 (.t 33) (.t 34), none⟩, ⟨(some 36), .load true 5 (.t 35), none⟩, ⟨(some 37), .call f_structure_trim [(.t 36)], none⟩, ⟨(some 38), .call f_structure_flatten [(.t 37)], none⟩, ⟨(some 39), .idx 5 (.t 31) (.t 32), none⟩, ⟨none, .store 5 (.t 39) (.t 38), none⟩] [4, 30, 31, 32, 33, 34, 35, 36, 37, 38, 39]) (.skip)))))) (.region [ ⟨(some 40), .bin .add (.t 12) (.c (.int .i64 1)), none⟩, ⟨(some 12), .mov (.t 40), none⟩] [4, 30, 40])))

def ac_structure_Simplify_l1 : ACode :=
  /-live [1, 2, 5, 47, 48]-/ .seq /-14-/ (.region [ ⟨(some 49), .bin .lss (.t 48) (.t 47), none⟩] []) (.seq /-15-/ (.cond (.t 49) (.skip) (.exit 2)) (.seq /-16-/ (.block 3 (.seq /-17-/ (.region [ ⟨(some 50), .mov (.t 48), none⟩, ⟨(some 6), .mov (.t 50), none⟩] [49, 50]) (.region [ ⟨(some 51), .mov (.t 5), none⟩, ⟨(some 52), .mov (.t 6), none⟩, ⟨(some 53), .mov (.t 5), none⟩, ⟨(some 54), .mov (.t 6), none⟩, ⟨(some 55), .idx 5 (.t 53) (.t 54), none⟩, ⟨(some 56), .load true 5 (.t 55), none⟩, ⟨(some 57), .call f_structure_copyExpr [(.t 56)], none⟩, ⟨(some 58), .idx 5 (.t 51) (.t 52), none⟩, ⟨none, .store 5 (.t 58) (.t 57), none⟩] [6, 51, 52, 53, 54, 55, 56, 57, 58]))) (.region [ ⟨(some 59), .bin .add (.t 48) (.c (.int .i64 1)), none⟩, ⟨(some 48), .mov (.t 59), none⟩] [59])))

def ac_structure_Simplify_k2 : ACode :=
  /-live [1, 2, 5]-/ .seq /-18-/ (.region [ ⟨(some 60), .mov (.t 5), none⟩, ⟨(some 61), .fldaddr 3 1 (.t 1), none⟩, ⟨none, .store 1 (.t 61) (.t 60), none⟩] [5, 47, 48, 60, 61]) (.mark 0 (.seq /-19-/ (.region [ ⟨(some 62), .load true 5 (.t 1), none⟩, ⟨(some 63), .call f_structure_flat [(.t 62)], none⟩, ⟨none, .store 5 (.t 2) (.t 63), none⟩] [1, 62, 63]) (.ret)))

def ac_structure_Simplify_k3 : ACode :=
  /-live [1, 2, 3]-/ .seq /-10-/ (.region [ ⟨(some 41), .mov (.t 3), none⟩, ⟨(some 42), .fldaddr 4 1 (.t 1), none⟩, ⟨none, .store 1 (.t 42) (.t 41), none⟩] [3, 11, 12, 41, 42]) (.seq /-11-/ (.region [ ⟨(some 43), .fldaddr 3 1 (.t 1), none⟩, ⟨(some 44), .load false 1 (.t 43), none⟩, ⟨(some 45), .call f_slices_Clone_api_Expr_api_Expr [(.t 44)], none⟩, ⟨(some 5), .mov (.t 45), none⟩] [43, 44, 45]) (.seq /-12-/ (.seq /-13-/ (.region [ ⟨(some 46), .mov (.t 5), none⟩, ⟨(some 47), .len (.t 46), none⟩, ⟨(some 48), .mov (.c (.int .i64 0)), none⟩] [46]) (.block 2 (.loop ac_structure_Simplify_l1))) (ac_structure_Simplify_k2)))

/-- decompiler/structure.Simplify -/
def ac_structure_Simplify : ACode := .seq /-0-/ (.region [ ⟨(some 1), .box (.t 0), none⟩, ⟨(some 2), .alloc [.int .i64 0, .int .i64 0, .int .i64 0, .nilsl, .nilsl], none⟩] [0]) (.seq /-1-/ (.region [ ⟨(some 7), .fldaddr 4 1 (.t 1), none⟩, ⟨(some 8), .load false 1 (.t 7), none⟩, ⟨(some 9), .call f_slices_Clone_api_Node_api_Node [(.t 8)], none⟩, ⟨(some 3), .mov (.t 9), none⟩] [7, 8, 9]) (.seq /-2-/ (.seq /-3-/ (.region [ ⟨(some 10), .mov (.t 3), none⟩, ⟨(some 11), .len (.t 10), none⟩, ⟨(some 12), .mov (.c (.int .i64 0)), none⟩] [10]) (.block 0 (.loop ac_structure_Simplify_l0))) (ac_structure_Simplify_k3)))

def rs_structure_Simplify : List ARet := [.cell 2 true 5]

set_option maxRecDepth 100000 in
theorem cf_structure_Simplify : compF Tryz.prog f_structure_Simplify (qRo []) = some (ac_structure_Simplify.strip, rs_structure_Simplify, 64) := by kernel_rfl

def ac_R36_Same_l0 : ACode :=
  /-live [2, 3, 5]-/ .seq /-6-/ (.seq /-7-/ (.region [ ⟨(some 44), .mov (.t 5), none⟩, ⟨(some 45), .fldaddr 3 1 (.t 2), none⟩, ⟨(some 46), .load false 1 (.t 45), none⟩, ⟨(some 47), .len (.t 46), none⟩, ⟨(some 48), .bin .lss (.t 44) (.t 47), none⟩] [44, 45, 46, 47]) (.cond (.t 48) (.skip) (.exit 0))) (.seq /-8-/ (.block 1 (.seq /-9-/ (.draw ( .step ⟨(some 51), .fldaddr 3 1 (.t 2), none⟩ ( .step ⟨(some 52), .load false 1 (.t 51), none⟩ ( .step ⟨(some 53), .mov (.t 5), none⟩ ( .step ⟨(some 54), .idx 5 (.t 52) (.t 53), none⟩ ( .step ⟨(some 55), .load true 5 (.t 54), none⟩ ( .step ⟨(some 56), .fldaddr 3 1 (.t 3), none⟩ ( .step ⟨(some 57), .load false 1 (.t 56), none⟩ ( .step ⟨(some 58), .mov (.t 5), none⟩ ( .step ⟨(some 59), .idx 5 (.t 57) (.t 58), none⟩ ( .step ⟨(some 60), .load true 5 (.t 59), none⟩ ( .step ⟨(some 61), .callq f_R19_Same [(.t 55), (.t 60)], none⟩ ( .step ⟨(some 62), .un .not (.t 61), none⟩ ( .done))))))))))))) [48, 51, 52, 53, 54, 55, 56, 57, 58, 59, 60, 61]) (.cond (.t 62) (.seq /-10-/ (.region [ ⟨(some 4), .mov (.c (.bool false)), none⟩] [2, 3, 5, 62]) (.ret)) (.skip)))) (.region [ ⟨(some 49), .mov (.t 5), none⟩, ⟨(some 50), .bin .add (.t 49) (.c (.int .i64 1)), none⟩, ⟨(some 5), .mov (.t 50), none⟩] [4, 49, 50, 62]))

def ac_R36_Same_l1 : ACode :=
  /-live [2, 3, 6]-/ .seq /-13-/ (.seq /-14-/ (.region [ ⟨(some 63), .mov (.t 6), none⟩, ⟨(some 64), .fldaddr 4 1 (.t 2), none⟩, ⟨(some 65), .load false 1 (.t 64), none⟩, ⟨(some 66), .len (.t 65), none⟩, ⟨(some 67), .bin .lss (.t 63) (.t 66), none⟩] [63, 64, 65, 66]) (.cond (.t 67) (.skip) (.exit 2))) (.seq /-15-/ (.block 3 (.seq /-16-/ (.draw ( .step ⟨(some 70), .fldaddr 4 1 (.t 2), none⟩ ( .step ⟨(some 71), .load false 1 (.t 70), none⟩ ( .step ⟨(some 72), .mov (.t 6), none⟩ ( .step ⟨(some 73), .idx 5 (.t 71) (.t 72), none⟩ ( .step ⟨(some 74), .load true 5 (.t 73), none⟩ ( .step ⟨(some 75), .fldaddr 4 1 (.t 3), none⟩ ( .step ⟨(some 76), .load false 1 (.t 75), none⟩ ( .step ⟨(some 77), .mov (.t 6), none⟩ ( .step ⟨(some 78), .idx 5 (.t 76) (.t 77), none⟩ ( .step ⟨(some 79), .load true 5 (.t 78), none⟩ ( .step ⟨(some 80), .callq f_R36_Same [(.t 74), (.t 79)], none⟩ ( .step ⟨(some 81), .un .not (.t 80), none⟩ ( .done))))))))))))) [67, 70, 71, 72, 73, 74, 75, 76, 77, 78, 79, 80]) (.cond (.t 81) (.seq /-17-/ (.region [ ⟨(some 4), .mov (.c (.bool false)), none⟩] [2, 3, 6, 81]) (.ret)) (.skip)))) (.region [ ⟨(some 68), .mov (.t 6), none⟩, ⟨(some 69), .bin .add (.t 68) (.c (.int .i64 1)), none⟩, ⟨(some 6), .mov (.t 69), none⟩] [4, 68, 69, 81]))

def ac_R36_Same_k2 : ACode :=
  /-live []-/ .seq /-18-/ (.region [ ⟨(some 4), .mov (.c (.bool true)), none⟩] [2, 3, 6]) (.ret)

def ac_R36_Same_k3 : ACode :=
  /-live [2, 3]-/ .seq /-11-/ (.seq /-12-/ (.region [ ⟨(some 6), .mov (.c (.int .i64 0)), none⟩] [5]) (.block 2 (.loop ac_R36_Same_l1))) (ac_R36_Same_k2)

/-- decompiler/decompilerref36.Same -/
def ac_R36_Same : ACode := .seq /-0-/ (.region [ ⟨(some 2), .rbox (.t 0), none⟩, ⟨(some 3), .rbox (.t 1), none⟩, ⟨(some 4), .mov (.c (.bool false)), none⟩] [0, 1, 4]) (.seq /-1-/ (.seq /-2-/ (.region [ ⟨(some 7), .fldaddr 0 1 (.t 2), none⟩, ⟨(some 8), .load false 1 (.t 7), none⟩, ⟨(some 9), .fldaddr 0 1 (.t 3), none⟩, ⟨(some 10), .load false 1 (.t 9), none⟩, ⟨(some 11), .bin .neq (.t 8) (.t 10), none⟩, ⟨(some 12), .mov (.t 11), none⟩, ⟨(some 13), .fldaddr 1 1 (.t 2), (some (12, false))⟩, ⟨(some 14), .load false 1 (.t 13), (some (12, false))⟩, ⟨(some 15), .fldaddr 1 1 (.t 3), (some (12, false))⟩, ⟨(some 16), .load false 1 (.t 15), (some (12, false))⟩, ⟨(some 17), .bin .neq (.t 14) (.t 16), (some (12, false))⟩, ⟨(some 18), .pick (.t 12) (.c (.bool true)) (.t 17), none⟩, ⟨(some 19), .mov (.t 18), none⟩, ⟨(some 20), .fldaddr 2 1 (.t 2), (some (19, false))⟩, ⟨(some 21), .load false 1 (.t 20), (some (19, false))⟩, ⟨(some 22), .fldaddr 2 1 (.t 3), (some (19, false))⟩, ⟨(some 23), .load false 1 (.t 22), (some (19, false))⟩, ⟨(some 24), .bin .neq (.t 21) (.t 23), (some (19, false))⟩, ⟨(some 25), .pick (.t 19) (.c (.bool true)) (.t 24), none⟩, ⟨(some 26), .mov (.t 25), none⟩, ⟨(some 27), .fldaddr 3 1 (.t 2), (some (26, false))⟩, ⟨(some 28), .load false 1 (.t 27), (some (26, false))⟩, ⟨(some 29), .len (.t 28), (some (26, false))⟩, ⟨(some 30), .fldaddr 3 1 (.t 3), (some (26, false))⟩, ⟨(some 31), .load false 1 (.t 30), (some (26, false))⟩, ⟨(some 32), .len (.t 31), (some (26, false))⟩, ⟨(some 33), .bin .neq (.t 29) (.t 32), (some (26, false))⟩, ⟨(some 34), .pick (.t 26) (.c (.bool true)) (.t 33), none⟩, ⟨(some 35), .mov (.t 34), none⟩, ⟨(some 36), .fldaddr 4 1 (.t 2), (some (35, false))⟩, ⟨(some 37), .load false 1 (.t 36), (some (35, false))⟩, ⟨(some 38), .len (.t 37), (some (35, false))⟩, ⟨(some 39), .fldaddr 4 1 (.t 3), (some (35, false))⟩, ⟨(some 40), .load false 1 (.t 39), (some (35, false))⟩, ⟨(some 41), .len (.t 40), (some (35, false))⟩, ⟨(some 42), .bin .neq (.t 38) (.t 41), (some (35, false))⟩, ⟨(some 43), .pick (.t 35) (.c (.bool true)) (.t 42), none⟩] [7, 8, 9, 10, 11, 12, 13, 14, 15, 16, 17, 18, 19, 20, 21, 22, 23, 24, 25, 26, 27, 28, 29, 30, 31, 32, 33, 34, 35, 36, 37, 38, 39, 40, 41, 42]) (.cond (.t 43) (.seq /-3-/ (.region [ ⟨(some 4), .mov (.c (.bool false)), none⟩] [2, 3, 43]) (.ret)) (.skip))) (.seq /-4-/ (.seq /-5-/ (.region [ ⟨(some 5), .mov (.c (.int .i64 0)), none⟩] [4, 43]) (.block 0 (.loop ac_R36_Same_l0))) (ac_R36_Same_k3)))

def rs_R36_Same : List ARet := [.tmp 4]

set_option maxRecDepth 100000 in
theorem cf_R36_Same : compF Tryz.prog f_R36_Same (qRo [2, 3]) = some (ac_R36_Same.strip, rs_R36_Same, 82) := by kernel_rfl

def ac_R36_Simplify_l0 : ACode :=
  /-live [1, 2, 3, 4]-/ .seq /-4-/ (.seq /-5-/ (.region [ ⟨(some 6), .mov (.t 4), none⟩, ⟨(some 7), .fldaddr 4 1 (.t 1), none⟩, ⟨(some 8), .load false 1 (.t 7), none⟩, ⟨(some 9), .len (.t 8), none⟩, ⟨(some 10), .bin .lss (.t 6) (.t 9), none⟩] [6, 7, 8, 9]) (.cond (.t 10) (.skip) (.exit 0))) (.seq /-6-/ (.block 1 (.seq /-7-/ (.region [ ⟨(some 13), .fldaddr 4 1 (.t 1), none⟩, ⟨(some 14), .load false 1 (.t 13), none⟩, ⟨(some 15), .mov (.t 4), none⟩, ⟨(some 16), .idx 5 (.t 14) (.t 15), none⟩, ⟨(some 17), .load true 5 (.t 16), none⟩, ⟨(some 18), .call f_R36_Simplify [(.t 17)], none⟩, ⟨(some 5), .alloc [.int .i64 0, .int .i64 0, .int .i64 0, .nilsl, .nilsl], none⟩, ⟨none, .store 5 (.t 5) (.t 18), none⟩] [10, 13, 14, 15, 16, 17, 18]) (.seq /-8-/ (.seq /-9-/ (.region [ ⟨(some 19), .fldaddr 0 1 (.t 1), none⟩, ⟨(some 20), .load false 1 (.t 19), none⟩, ⟨(some 21), .bin .eql (.t 20) (.c (.int .i64 4)), none⟩, ⟨(some 22), .mov (.t 21), none⟩, ⟨(some 23), .fldaddr 0 1 (.t 1), (some (22, false))⟩, ⟨(some 24), .load false 1 (.t 23), (some (22, false))⟩, ⟨(some 25), .bin .eql (.t 24) (.c (.int .i64 5)), (some (22, false))⟩, ⟨(some 26), .pick (.t 22) (.c (.bool true)) (.t 25), none⟩] [19, 20, 21, 22, 23, 24, 25]) (.cond (.t 26) (.region [ ⟨(some 27), .load true 5 (.t 5), none⟩, ⟨(some 28), .call f_R36_cut [(.t 27)], none⟩, ⟨(some 29), .call f_R36_again [(.t 28)], none⟩, ⟨none, .store 5 (.t 5) (.t 29), none⟩] [26, 27, 28, 29]) (.skip))) (.region [ ⟨(some 30), .mov (.t 3), none⟩, ⟨(some 31), .load true 5 (.t 5), none⟩, ⟨(some 32), .buildSl 5 1 [.int .i64 0, .int .i64 0, .int .i64 0, .nilsl, .nilsl] [(0, (.t 31))], none⟩, ⟨(some 33), .append 5 72 (.t 30) (.t 32), none⟩, ⟨(some 3), .mov (.t 33), none⟩] [5, 26, 30, 31, 32, 33])))) (.region [ ⟨(some 11), .mov (.t 4), none⟩, ⟨(some 12), .bin .add (.t 11) (.c (.int .i64 1)), none⟩, ⟨(some 4), .mov (.t 12), none⟩] [11, 12]))

def ac_R36_Simplify_k1 : ACode :=
  /-live [1, 2, 3]-/ .seq /-10-/ (.region [ ⟨(some 34), .mov (.t 3), none⟩, ⟨(some 35), .fldaddr 4 1 (.t 1), none⟩, ⟨none, .store 1 (.t 35) (.t 34), none⟩] [3, 4, 34, 35]) (.mark 0 (.seq /-11-/ (.region [ ⟨(some 36), .load true 5 (.t 1), none⟩, ⟨(some 37), .call f_R36_flat [(.t 36)], none⟩, ⟨none, .store 5 (.t 2) (.t 37), none⟩] [1, 36, 37]) (.ret)))

/-- decompiler/decompilerref36.Simplify -/
def ac_R36_Simplify : ACode := .seq /-0-/ (.region [ ⟨(some 1), .box (.t 0), none⟩, ⟨(some 2), .alloc [.int .i64 0, .int .i64 0, .int .i64 0, .nilsl, .nilsl], none⟩] [0]) (.seq /-1-/ (.region [ ⟨(some 3), .mknil 5, none⟩] []) (.seq /-2-/ (.seq /-3-/ (.region [ ⟨(some 4), .mov (.c (.int .i64 0)), none⟩] []) (.block 0 (.loop ac_R36_Simplify_l0))) (ac_R36_Simplify_k1)))

def rs_R36_Simplify : List ARet := [.cell 2 true 5]

set_option maxRecDepth 100000 in
theorem cf_R36_Simplify : compF Tryz.prog f_R36_Simplify (qRo []) = some (ac_R36_Simplify.strip, rs_R36_Simplify, 38) := by kernel_rfl


/-- slices.Clone[[]decompiler/api.Node,decompiler/api.Node] -/
def ac_slices_Clone_api_Node_api_Node : ACode := .seq /-0-/ (.region [ ⟨(some 2), .mknil 5, none⟩] [2]) (.seq /-1-/ (.seq /-2-/ (.region [ ⟨(some 3), .mov (.t 0), none⟩, ⟨(some 4), .isnil false false (.t 3), none⟩] [3]) (.cond (.t 4) (.seq /-3-/ (.region [ ⟨(some 2), .mknil 5, none⟩] [0, 4]) (.ret)) (.skip))) (.seq /-4-/ (.region [ ⟨(some 5), .buildSl 5 0 [.int .i64 0, .int .i64 0, .int .i64 0, .nilsl, .nilsl] [], none⟩, ⟨(some 6), .mov (.t 0), none⟩, ⟨(some 7), .append 5 72 (.t 5) (.t 6), none⟩, ⟨(some 2), .mov (.t 7), none⟩] [0, 4, 5, 6, 7]) (.ret)))

def rs_slices_Clone_api_Node_api_Node : List ARet := [.tmp 2]

set_option maxRecDepth 100000 in
theorem cf_slices_Clone_api_Node_api_Node : compF Tryz.prog f_slices_Clone_api_Node_api_Node (qRo []) = some (ac_slices_Clone_api_Node_api_Node.strip, rs_slices_Clone_api_Node_api_Node, 8) := by kernel_rfl

def ac_structure_flatten_l0 : ACode :=
  /-live [1, 2, 3, 9, 10]-/ .seq /-4-/ (.region [ ⟨(some 11), .bin .lss (.t 10) (.t 9), none⟩] []) (.seq /-5-/ (.cond (.t 11) (.skip) (.exit 0)) (.seq /-6-/ (.block 1 (.seq /-7-/ (.region [ ⟨(some 12), .mov (.t 10), none⟩, ⟨(some 4), .mov (.t 12), none⟩] [11, 12]) (.region [ ⟨(some 13), .mov (.t 3), none⟩, ⟨(some 14), .mov (.t 4), none⟩, ⟨(some 15), .mov (.t 3), none⟩, ⟨(some 16), .mov (.t 4), none⟩, ⟨(some 17), .idx 5 (.t 15) (.t 16), none⟩, ⟨(some 18), .load true 5 (.t 17), none⟩, ⟨(some 19), .call f_structure_flatten [(.t 18)], none⟩, ⟨(some 20), .idx 5 (.t 13) (.t 14), none⟩, ⟨none, .store 5 (.t 20) (.t 19), none⟩] [4, 13, 14, 15, 16, 17, 18, 19, 20]))) (.region [ ⟨(some 21), .bin .add (.t 10) (.c (.int .i64 1)), none⟩, ⟨(some 10), .mov (.t 21), none⟩] [21])))

def ac_structure_flatten_k1 : ACode :=
  /-live [1, 2, 3]-/ .seq /-8-/ (.region [ ⟨(some 22), .mov (.t 3), none⟩, ⟨(some 23), .fldaddr 4 1 (.t 1), none⟩, ⟨none, .store 1 (.t 23) (.t 22), none⟩] [3, 9, 10, 22, 23]) (.mark 0 (.seq /-9-/ (.region [ ⟨(some 24), .load true 5 (.t 1), none⟩, ⟨(some 25), .call f_structure_flat [(.t 24)], none⟩, ⟨none, .store 5 (.t 2) (.t 25), none⟩] [1, 24, 25]) (.ret)))

/-- decompiler/structure.flatten -/
def ac_structure_flatten : ACode := .seq /-0-/ (.region [ ⟨(some 1), .box (.t 0), none⟩, ⟨(some 2), .alloc [.int .i64 0, .int .i64 0, .int .i64 0, .nilsl, .nilsl], none⟩] [0]) (.seq /-1-/ (.region [ ⟨(some 5), .fldaddr 4 1 (.t 1), none⟩, ⟨(some 6), .load false 1 (.t 5), none⟩, ⟨(some 7), .call f_slices_Clone_api_Node_api_Node [(.t 6)], none⟩, ⟨(some 3), .mov (.t 7), none⟩] [5, 6, 7]) (.seq /-2-/ (.seq /-3-/ (.region [ ⟨(some 8), .mov (.t 3), none⟩, ⟨(some 9), .len (.t 8), none⟩, ⟨(some 10), .mov (.c (.int .i64 0)), none⟩] [8]) (.block 0 (.loop ac_structure_flatten_l0))) (ac_structure_flatten_k1)))

def rs_structure_flatten : List ARet := [.cell 2 true 5]

set_option maxRecDepth 100000 in
theorem cf_structure_flatten : compF Tryz.prog f_structure_flatten (qRo []) = some (ac_structure_flatten.strip, rs_structure_flatten, 26) := by kernel_rfl

def ac_structure_trim_l0 : ACode :=
  /-live [1, 2, 3, 34, 35]-/ .seq /-11-/ (.region [ ⟨(some 36), .bin .lss (.t 35) (.t 34), none⟩] []) (.seq /-12-/ (.cond (.t 36) (.skip) (.exit 1)) (.seq /-13-/ (.block 2 (.seq /-14-/ (.region [ ⟨(some 37), .mov (.t 35), none⟩, ⟨(some 4), .mov (.t 37), none⟩] [36, 37]) (.region [ ⟨(some 38), .mov (.t 3), none⟩, ⟨(some 39), .mov (.t 4), none⟩, ⟨(some 40), .mov (.t 3), none⟩, ⟨(some 41), .mov (.t 4), none⟩, ⟨(some 42), .idx 5 (.t 40) (.t 41), none⟩, ⟨(some 43), .load true 5 (.t 42), none⟩, ⟨(some 44), .call f_structure_trim [(.t 43)], none⟩, ⟨(some 45), .idx 5 (.t 38) (.t 39), none⟩, ⟨none, .store 5 (.t 45) (.t 44), none⟩] [4, 38, 39, 40, 41, 42, 43, 44, 45]))) (.region [ ⟨(some 46), .bin .add (.t 35) (.c (.int .i64 1)), none⟩, ⟨(some 35), .mov (.t 46), none⟩] [46])))

def ac_structure_trim_k1 : ACode :=
  /-live [1, 2, 3]-/ .seq /-15-/ (.region [ ⟨(some 47), .mov (.t 3), none⟩, ⟨(some 48), .fldaddr 4 1 (.t 1), none⟩, ⟨none, .store 1 (.t 48) (.t 47), none⟩] [3, 9, 17, 30, 34, 35, 47, 48]) (.seq /-16-/ (.region [ ⟨(some 49), .load true 5 (.t 1), none⟩, ⟨none, .store 5 (.t 2) (.t 49), none⟩] [1, 49]) (.ret))

/-- decompiler/structure.trim -/
def ac_structure_trim : ACode := .seq /-0-/ (.region [ ⟨(some 1), .box (.t 0), none⟩, ⟨(some 2), .alloc [.int .i64 0, .int .i64 0, .int .i64 0, .nilsl, .nilsl], none⟩] [0]) (.seq /-1-/ (.region [ ⟨(some 5), .fldaddr 4 1 (.t 1), none⟩, ⟨(some 6), .load false 1 (.t 5), none⟩, ⟨(some 7), .call f_slices_Clone_api_Node_api_Node [(.t 6)], none⟩, ⟨(some 3), .mov (.t 7), none⟩] [5, 6, 7]) (.seq /-2-/ (.seq /-3-/ (.region [ ⟨(some 8), .fldaddr 0 1 (.t 1), none⟩, ⟨(some 9), .load false 1 (.t 8), none⟩] [8]) (.block 0 (.seq /-4-/ (.region [ ⟨(some 11), .bin .eql (.t 9) (.c (.int .i64 8)), none⟩, ⟨(some 10), .mov (.t 11), none⟩] [11]) (.cond (.t 10) (.seq /-5-/ (.region [ ⟨(some 12), .call f_structure_seq [(.c (.nilsl))], none⟩, ⟨none, .store 5 (.t 2) (.t 12), none⟩] [1, 3, 9, 10, 12]) (.ret)) (.seq /-6-/ (.region [ ⟨(some 14), .bin .eql (.t 9) (.c (.int .i64 1)), none⟩, ⟨(some 13), .mov (.t 14), none⟩] [10, 14]) (.cond (.t 13) (.seq /-7-/ (.region [ ⟨(some 15), .mov (.t 3), none⟩, ⟨(some 16), .len (.t 15), none⟩, ⟨(some 17), .bin .gtr (.t 16) (.c (.int .i64 0)), none⟩] [9, 13, 15, 16]) (.cond (.t 17) (.region [ ⟨(some 18), .mov (.t 3), none⟩, ⟨(some 19), .mov (.t 3), none⟩, ⟨(some 20), .len (.t 19), none⟩, ⟨(some 21), .bin .sub (.t 20) (.c (.int .i64 1)), none⟩, ⟨(some 22), .mov (.t 3), none⟩, ⟨(some 23), .mov (.t 3), none⟩, ⟨(some 24), .len (.t 23), none⟩, ⟨(some 25), .bin .sub (.t 24) (.c (.int .i64 1)), none⟩, ⟨(some 26), .idx 5 (.t 22) (.t 25), none⟩, ⟨(some 27), .load true 5 (.t 26), none⟩, ⟨(some 28), .call f_structure_trim [(.t 27)], none⟩, ⟨(some 29), .idx 5 (.t 18) (.t 21), none⟩, ⟨none, .store 5 (.t 29) (.t 28), none⟩] [17, 18, 19, 20, 21, 22, 23, 24, 25, 26, 27, 28, 29]) (.skip))) (.seq /-8-/ (.seq /-9-/ (.region [ ⟨(some 31), .bin .eql (.t 9) (.c (.int .i64 3)), none⟩, ⟨(some 30), .mov (.t 31), none⟩] [13, 31]) (.cond (.t 30) (.skip) (.region [ ⟨(some 32), .bin .eql (.t 9) (.c (.int .i64 6)), none⟩, ⟨(some 30), .mov (.t 32), none⟩] [9, 32]))) (.cond (.t 30) (.seq /-10-/ (.region [ ⟨(some 33), .mov (.t 3), none⟩, ⟨(some 34), .len (.t 33), none⟩, ⟨(some 35), .mov (.c (.int .i64 0)), none⟩] [9, 30, 33]) (.block 1 (.loop ac_structure_trim_l0))) (.skip))))))))) (ac_structure_trim_k1)))

def rs_structure_trim : List ARet := [.cell 2 true 5]

set_option maxRecDepth 100000 in
theorem cf_structure_trim : compF Tryz.prog f_structure_trim (qRo []) = some (ac_structure_trim.strip, rs_structure_trim, 50) := by kernel_rfl


/-- slices.Clone[[]decompiler/api.Expr,decompiler/api.Expr] -/
def ac_slices_Clone_api_Expr_api_Expr : ACode := .seq /-0-/ (.region [ ⟨(some 2), .mknil 5, none⟩] [2]) (.seq /-1-/ (.seq /-2-/ (.region [ ⟨(some 3), .mov (.t 0), none⟩, ⟨(some 4), .isnil false false (.t 3), none⟩] [3]) (.cond (.t 4) (.seq /-3-/ (.region [ ⟨(some 2), .mknil 5, none⟩] [0, 4]) (.ret)) (.skip))) (.seq /-4-/ (.region [ ⟨(some 5), .buildSl 5 0 [.int .i64 0, .int .u32 0, .int .i64 0, .int .i64 0, .nilsl] [], none⟩, ⟨(some 6), .mov (.t 0), none⟩, ⟨(some 7), .append 5 56 (.t 5) (.t 6), none⟩, ⟨(some 2), .mov (.t 7), none⟩] [0, 4, 5, 6, 7]) (.ret)))

def rs_slices_Clone_api_Expr_api_Expr : List ARet := [.tmp 2]

set_option maxRecDepth 100000 in
theorem cf_slices_Clone_api_Expr_api_Expr : compF Tryz.prog f_slices_Clone_api_Expr_api_Expr (qRo []) = some (ac_slices_Clone_api_Expr_api_Expr.strip, rs_slices_Clone_api_Expr_api_Expr, 8) := by kernel_rfl

def ac_structure_copyExpr_l0 : ACode :=
  /-live [1, 2, 10, 11]-/ .seq /-4-/ (.region [ ⟨(some 12), .bin .lss (.t 11) (.t 10), none⟩] []) (.seq /-5-/ (.cond (.t 12) (.skip) (.exit 0)) (.seq /-6-/ (.block 1 (.seq /-7-/ (.region [ ⟨(some 13), .mov (.t 11), none⟩, ⟨(some 3), .mov (.t 13), none⟩] [12, 13]) (.draw ( .step ⟨(some 14), .fldaddr 4 1 (.t 1), none⟩ ( .step ⟨(some 15), .load false 1 (.t 14), none⟩ ( .step ⟨(some 16), .mov (.t 3), none⟩ ( .step ⟨(some 17), .fldaddr 4 1 (.t 1), none⟩ ( .step ⟨(some 18), .load false 1 (.t 17), none⟩ ( .step ⟨(some 19), .mov (.t 3), none⟩ ( .step ⟨(some 20), .idx 5 (.t 18) (.t 19), none⟩ ( .step ⟨(some 21), .load true 5 (.t 20), none⟩ ( .step ⟨(some 22), .callq f_structure_copyExpr [(.t 21)], none⟩ ( .step ⟨(some 23), .idx 5 (.t 15) (.t 16), none⟩ ( .alt ⟨none, .store 5 (.t 23) (.t 22), none⟩ ( .done) ( .stop)))))))))))) [3, 14, 15, 16, 17, 18, 19, 20, 21, 22, 23]))) (.region [ ⟨(some 24), .bin .add (.t 11) (.c (.int .i64 1)), none⟩, ⟨(some 11), .mov (.t 24), none⟩] [24])))

def ac_structure_copyExpr_k1 : ACode :=
  /-live [1, 2]-/ .seq /-8-/ (.region [ ⟨(some 25), .load true 5 (.t 1), none⟩, ⟨none, .store 5 (.t 2) (.t 25), none⟩] [1, 10, 11, 25]) (.ret)

/-- decompiler/structure.copyExpr -/
def ac_structure_copyExpr : ACode := .seq /-0-/ (.region [ ⟨(some 1), .box (.t 0), none⟩, ⟨(some 2), .alloc [.int .i64 0, .int .u32 0, .int .i64 0, .int .i64 0, .nilsl], none⟩] [0]) (.seq /-1-/ (.region [ ⟨(some 4), .fldaddr 4 1 (.t 1), none⟩, ⟨(some 5), .load false 1 (.t 4), none⟩, ⟨(some 6), .call f_slices_Clone_api_Expr_api_Expr [(.t 5)], none⟩, ⟨(some 7), .fldaddr 4 1 (.t 1), none⟩, ⟨none, .store 1 (.t 7) (.t 6), none⟩] [4, 5, 6, 7]) (.seq /-2-/ (.seq /-3-/ (.region [ ⟨(some 8), .fldaddr 4 1 (.t 1), none⟩, ⟨(some 9), .load false 1 (.t 8), none⟩, ⟨(some 10), .len (.t 9), none⟩, ⟨(some 11), .mov (.c (.int .i64 0)), none⟩] [8, 9]) (.block 0 (.loop ac_structure_copyExpr_l0))) (ac_structure_copyExpr_k1)))

def rs_structure_copyExpr : List ARet := [.cell 2 true 5]

set_option maxRecDepth 100000 in
theorem cf_structure_copyExpr : compF Tryz.prog f_structure_copyExpr (qRo []) = some (ac_structure_copyExpr.strip, rs_structure_copyExpr, 26) := by kernel_rfl

def ac_structure_flat_l0 : ACode :=
  /-live [1, 2, 3, 13, 14, 15]-/ .seq /-8-/ (.region [ ⟨(some 16), .bin .lss (.t 15) (.t 14), none⟩] []) (.seq /-9-/ (.cond (.t 16) (.skip) (.exit 0)) (.seq /-10-/ (.block 1 (.seq /-11-/ (.region [ ⟨(some 17), .mov (.t 15), none⟩, ⟨(some 18), .idx 5 (.t 13) (.t 15), none⟩, ⟨(some 19), .load true 5 (.t 18), none⟩, ⟨(some 5), .alloc [.int .i64 0, .int .i64 0, .int .i64 0, .nilsl, .nilsl], none⟩, ⟨(some 4), .mov (.t 17), none⟩, ⟨none, .store 5 (.t 5) (.t 19), none⟩] [16, 17, 18, 19]) (.seq /-12-/ (.region [ ⟨(some 20), .fldaddr 0 1 (.t 5), none⟩, ⟨(some 21), .load false 1 (.t 20), none⟩, ⟨(some 22), .bin .eql (.t 21) (.c (.int .i64 1)), none⟩] [20, 21]) (.cond (.t 22) (.seq /-13-/ (.draw ( .step ⟨(some 23), .mov (.t 3), none⟩ ( .step ⟨(some 24), .mov (.t 4), none⟩ ( .step ⟨(some 26), .fldaddr 4 1 (.t 5), none⟩ ( .step ⟨(some 28), .mov (.t 3), none⟩ ( .step ⟨(some 29), .mov (.t 4), none⟩ ( .step ⟨(some 30), .bin .add (.t 29) (.c (.int .i64 1)), none⟩ ( .alt ⟨(some 25), .slice 5 (.t 23) none (some (.t 24)), none⟩ ( .alt ⟨(some 27), .load false 1 (.t 26), none⟩ ( .alt ⟨(some 31), .slice 5 (.t 28) (some (.t 30)) none, none⟩ ( .alt ⟨(some 32), .buildSl 1 3 [.nilsl] [(0, (.t 25)), (1, (.t 27)), (2, (.t 31))], none⟩ ( .alt ⟨(some 33), .call f_slices_Concat_api_Node_api_Node [(.t 32)], none⟩ ( .step ⟨(some 3), .mov (.t 33), none⟩ ( .done)) ( .stop)) ( .stop)) ( .stop)) ( .alt ⟨(some 31), .slice 5 (.t 28) (some (.t 30)) none, none⟩ ( .alt ⟨(some 27), .load false 1 (.t 26), none⟩ ( .alt ⟨(some 32), .buildSl 1 3 [.nilsl] [(0, (.t 25)), (1, (.t 27)), (2, (.t 31))], none⟩ ( .alt ⟨(some 33), .call f_slices_Concat_api_Node_api_Node [(.t 32)], none⟩ ( .step ⟨(some 3), .mov (.t 33), none⟩ ( .done)) ( .stop)) ( .stop)) ( .stop)) ( .stop))) ( .alt ⟨(some 27), .load false 1 (.t 26), none⟩ ( .alt ⟨(some 25), .slice 5 (.t 23) none (some (.t 24)), none⟩ ( .alt ⟨(some 31), .slice 5 (.t 28) (some (.t 30)) none, none⟩ ( .alt ⟨(some 32), .buildSl 1 3 [.nilsl] [(0, (.t 25)), (1, (.t 27)), (2, (.t 31))], none⟩ ( .alt ⟨(some 33), .call f_slices_Concat_api_Node_api_Node [(.t 32)], none⟩ ( .step ⟨(some 3), .mov (.t 33), none⟩ ( .done)) ( .stop)) ( .stop)) ( .stop)) ( .alt ⟨(some 31), .slice 5 (.t 28) (some (.t 30)) none, none⟩ ( .alt ⟨(some 25), .slice 5 (.t 23) none (some (.t 24)), none⟩ ( .alt ⟨(some 32), .buildSl 1 3 [.nilsl] [(0, (.t 25)), (1, (.t 27)), (2, (.t 31))], none⟩ ( .alt ⟨(some 33), .call f_slices_Concat_api_Node_api_Node [(.t 32)], none⟩ ( .step ⟨(some 3), .mov (.t 33), none⟩ ( .done)) ( .stop)) ( .stop)) ( .stop)) ( .stop))) ( .alt ⟨(some 31), .slice 5 (.t 28) (some (.t 30)) none, none⟩ ( .alt ⟨(some 25), .slice 5 (.t 23) none (some (.t 24)), none⟩ ( .alt ⟨(some 27), .load false 1 (.t 26), none⟩ ( .alt ⟨(some 32), .buildSl 1 3 [.nilsl] [(0, (.t 25)), (1, (.t 27)), (2, (.t 31))], none⟩ ( .alt ⟨(some 33), .call f_slices_Concat_api_Node_api_Node [(.t 32)], none⟩ ( .step ⟨(some 3), .mov (.t 33), none⟩ ( .done)) ( .stop)) ( .stop)) ( .stop)) ( .alt ⟨(some 27), .load false 1 (.t 26), none⟩ ( .alt ⟨(some 25), .slice 5 (.t 23) none (some (.t 24)), none⟩ ( .alt ⟨(some 32), .buildSl 1 3 [.nilsl] [(0, (.t 25)), (1, (.t 27)), (2, (.t 31))], none⟩ ( .alt ⟨(some 33), .call f_slices_Concat_api_Node_api_Node [(.t 32)], none⟩ ( .step ⟨(some 3), .mov (.t 33), none⟩ ( .done)) ( .stop)) ( .stop)) ( .stop)) ( .stop))) ( .stop)))))))))) [4, 5, 13, 14, 15, 22, 23, 24, 25, 26, 27, 28, 29, 30, 31, 32, 33]) (.goto 0)) (.skip))))) (.region [ ⟨(some 34), .bin .add (.t 15) (.c (.int .i64 1)), none⟩, ⟨(some 15), .mov (.t 34), none⟩] [4, 5, 22, 34])))

def ac_structure_flat_k1 : ACode :=
  /-live [1, 2, 3]-/ .seq /-14-/ (.seq /-15-/ (.region [ ⟨(some 35), .mov (.t 3), none⟩, ⟨(some 36), .len (.t 35), none⟩, ⟨(some 37), .bin .eql (.t 36) (.c (.int .i64 1)), none⟩] [13, 14, 15, 35, 36]) (.cond (.t 37) (.seq /-16-/ (.region [ ⟨(some 38), .mov (.t 3), none⟩, ⟨(some 39), .idx 5 (.t 38) (.c (.int .i64 0)), none⟩, ⟨(some 40), .load true 5 (.t 39), none⟩, ⟨none, .store 5 (.t 2) (.t 40), none⟩] [1, 3, 37, 38, 39, 40]) (.ret)) (.skip))) (.seq /-17-/ (.region [ ⟨(some 41), .mov (.t 3), none⟩, ⟨(some 42), .fldaddr 4 1 (.t 1), none⟩, ⟨none, .store 1 (.t 42) (.t 41), none⟩] [3, 37, 41, 42]) (.seq /-18-/ (.region [ ⟨(some 43), .load true 5 (.t 1), none⟩, ⟨none, .store 5 (.t 2) (.t 43), none⟩] [1, 43]) (.ret)))

def ac_structure_flat_l2 : ACode :=
  /-live [1, 2, 3, 13, 14, 15]-/ .seq /-22-/ (.region [ ⟨(some 16), .bin .lss (.t 15) (.t 14), none⟩] []) (.seq /-23-/ (.cond (.t 16) (.skip) (.exit 0)) (.seq /-24-/ (.block 1 (.seq /-25-/ (.region [ ⟨(some 17), .mov (.t 15), none⟩, ⟨(some 18), .idx 5 (.t 13) (.t 15), none⟩, ⟨(some 19), .load true 5 (.t 18), none⟩, ⟨(some 5), .alloc [.int .i64 0, .int .i64 0, .int .i64 0, .nilsl, .nilsl], none⟩, ⟨(some 4), .mov (.t 17), none⟩, ⟨none, .store 5 (.t 5) (.t 19), none⟩] [16, 17, 18, 19]) (.seq /-26-/ (.region [ ⟨(some 20), .fldaddr 0 1 (.t 5), none⟩, ⟨(some 21), .load false 1 (.t 20), none⟩, ⟨(some 22), .bin .eql (.t 21) (.c (.int .i64 1)), none⟩] [20, 21]) (.cond (.t 22) (.seq /-27-/ (.draw ( .step ⟨(some 23), .mov (.t 3), none⟩ ( .step ⟨(some 24), .mov (.t 4), none⟩ ( .step ⟨(some 26), .fldaddr 4 1 (.t 5), none⟩ ( .step ⟨(some 28), .mov (.t 3), none⟩ ( .step ⟨(some 29), .mov (.t 4), none⟩ ( .step ⟨(some 30), .bin .add (.t 29) (.c (.int .i64 1)), none⟩ ( .alt ⟨(some 25), .slice 5 (.t 23) none (some (.t 24)), none⟩ ( .alt ⟨(some 27), .load false 1 (.t 26), none⟩ ( .alt ⟨(some 31), .slice 5 (.t 28) (some (.t 30)) none, none⟩ ( .alt ⟨(some 32), .buildSl 1 3 [.nilsl] [(0, (.t 25)), (1, (.t 27)), (2, (.t 31))], none⟩ ( .alt ⟨(some 33), .call f_slices_Concat_api_Node_api_Node [(.t 32)], none⟩ ( .step ⟨(some 3), .mov (.t 33), none⟩ ( .done)) ( .stop)) ( .stop)) ( .stop)) ( .alt ⟨(some 31), .slice 5 (.t 28) (some (.t 30)) none, none⟩ ( .alt ⟨(some 27), .load false 1 (.t 26), none⟩ ( .alt ⟨(some 32), .buildSl 1 3 [.nilsl] [(0, (.t 25)), (1, (.t 27)), (2, (.t 31))], none⟩ ( .alt ⟨(some 33), .call f_slices_Concat_api_Node_api_Node [(.t 32)], none⟩ ( .step ⟨(some 3), .mov (.t 33), none⟩ ( .done)) ( .stop)) ( .stop)) ( .stop)) ( .stop))) ( .alt ⟨(some 27), .load false 1 (.t 26), none⟩ ( .alt ⟨(some 25), .slice 5 (.t 23) none (some (.t 24)), none⟩ ( .alt ⟨(some 31), .slice 5 (.t 28) (some (.t 30)) none, none⟩ ( .alt ⟨(some 32), .buildSl 1 3 [.nilsl] [(0, (.t 25)), (1, (.t 27)), (2, (.t 31))], none⟩ ( .alt ⟨(some 33), .call f_slices_Concat_api_Node_api_Node [(.t 32)], none⟩ ( .step ⟨(some 3), .mov (.t 33), none⟩ ( .done)) ( .stop)) ( .stop)) ( .stop)) ( .alt ⟨(some 31), .slice 5 (.t 28) (some (.t 30)) none, none⟩ ( .alt ⟨(some 25), .slice 5 (.t 23) none (some (.t 24)), none⟩ ( .alt ⟨(some 32), .buildSl 1 3 [.nilsl] [(0, (.t 25)), (1, (.t 27)), (2, (.t 31))], none⟩ ( .alt ⟨(some 33), .call f_slices_Concat_api_Node_api_Node [(.t 32)], none⟩ ( .step ⟨(some 3), .mov (.t 33), none⟩ ( .done)) ( .stop)) ( .stop)) ( .stop)) ( .stop))) ( .alt ⟨(some 31), .slice 5 (.t 28) (some (.t 30)) none, none⟩ ( .alt ⟨(some 25), .slice 5 (.t 23) none (some (.t 24)), none⟩ ( .alt ⟨(some 27), .load false 1 (.t 26), none⟩ ( .alt ⟨(some 32), .buildSl 1 3 [.nilsl] [(0, (.t 25)), (1, (.t 27)), (2, (.t 31))], none⟩ ( .alt ⟨(some 33), .call f_slices_Concat_api_Node_api_Node [(.t 32)], none⟩ ( .step ⟨(some 3), .mov (.t 33), none⟩ ( .done)) ( .stop)) ( .stop)) ( .stop)) ( .alt ⟨(some 27), .load false 1 (.t 26), none⟩ ( .alt ⟨(some 25), .slice 5 (.t 23) none (some (.t 24)), none⟩ ( .alt ⟨(some 32), .buildSl 1 3 [.nilsl] [(0, (.t 25)), (1, (.t 27)), (2, (.t 31))], none⟩ ( .alt ⟨(some 33), .call f_slices_Concat_api_Node_api_Node [(.t 32)], none⟩ ( .step ⟨(some 3), .mov (.t 33), none⟩ ( .done)) ( .stop)) ( .stop)) ( .stop)) ( .stop))) ( .stop)))))))))) [4, 5, 13, 14, 15, 22, 23, 24, 25, 26, 27, 28, 29, 30, 31, 32, 33]) (.goto 0)) (.skip))))) (.region [ ⟨(some 34), .bin .add (.t 15) (.c (.int .i64 1)), none⟩, ⟨(some 15), .mov (.t 34), none⟩] [4, 5, 22, 34])))

def ac_structure_flat_k3 : ACode :=
  /-live [1, 2, 3]-/ .seq /-28-/ (.seq /-29-/ (.region [ ⟨(some 35), .mov (.t 3), none⟩, ⟨(some 36), .len (.t 35), none⟩, ⟨(some 37), .bin .eql (.t 36) (.c (.int .i64 1)), none⟩] [13, 14, 15, 35, 36]) (.cond (.t 37) (.seq /-30-/ (.region [ ⟨(some 38), .mov (.t 3), none⟩, ⟨(some 39), .idx 5 (.t 38) (.c (.int .i64 0)), none⟩, ⟨(some 40), .load true 5 (.t 39), none⟩, ⟨none, .store 5 (.t 2) (.t 40), none⟩] [1, 3, 37, 38, 39, 40]) (.ret)) (.skip))) (.seq /-31-/ (.region [ ⟨(some 41), .mov (.t 3), none⟩, ⟨(some 42), .fldaddr 4 1 (.t 1), none⟩, ⟨none, .store 1 (.t 42) (.t 41), none⟩] [3, 37, 41, 42]) (.seq /-32-/ (.region [ ⟨(some 43), .load true 5 (.t 1), none⟩, ⟨none, .store 5 (.t 2) (.t 43), none⟩] [1, 43]) (.ret)))

def ac_structure_flat_j4 : ACode :=
  /-live [1, 2, 3]-/ .seq /-19-/ (.skip) (.seq /-20-/ (.seq /-21-/ (.region [ ⟨(some 13), .mov (.t 3), none⟩, ⟨(some 14), .len (.t 13), none⟩, ⟨(some 15), .mov (.c (.int .i64 0)), none⟩] []) (.block 0 (.loop ac_structure_flat_l2))) (ac_structure_flat_k3))

/-- decompiler/structure.flat -/
def ac_structure_flat : ACode := .seq /-0-/ (.region [ ⟨(some 1), .box (.t 0), none⟩, ⟨(some 2), .alloc [.int .i64 0, .int .i64 0, .int .i64 0, .nilsl, .nilsl], none⟩] [0]) (.jump 0 (.seq /-1-/ (.seq /-2-/ (.region [ ⟨(some 6), .fldaddr 0 1 (.t 1), none⟩, ⟨(some 7), .load false 1 (.t 6), none⟩, ⟨(some 8), .bin .neq (.t 7) (.c (.int .i64 1)), none⟩] [6, 7]) (.cond (.t 8) (.seq /-3-/ (.region [ ⟨(some 9), .load true 5 (.t 1), none⟩, ⟨none, .store 5 (.t 2) (.t 9), none⟩] [1, 8, 9]) (.ret)) (.skip))) (.seq /-4-/ (.region [ ⟨(some 10), .fldaddr 4 1 (.t 1), none⟩, ⟨(some 11), .load false 1 (.t 10), none⟩, ⟨(some 12), .call f_slices_Clone_api_Node_api_Node [(.t 11)], none⟩, ⟨(some 3), .mov (.t 12), none⟩] [8, 10, 11, 12]) (.seq /-5-/ (.label 0) (.seq /-6-/ (.seq /-7-/ (.region [ ⟨(some 13), .mov (.t 3), none⟩, ⟨(some 14), .len (.t 13), none⟩, ⟨(some 15), .mov (.c (.int .i64 0)), none⟩] []) (.block 0 (.loop ac_structure_flat_l0))) (ac_structure_flat_k1)))))
    ac_structure_flat_j4)

def rs_structure_flat : List ARet := [.cell 2 true 5]

set_option maxRecDepth 100000 in
theorem cf_structure_flat : compF Tryz.prog f_structure_flat (qRoL [] [(8, [0, 1, 2, 3, 4, 5, 6, 7, 8, 9, 11, 12, 13, 14, 15, 16, 17, 18, 19, 20, 21, 22, 23, 24, 25, 26, 27, 28, 29, 30, 31, 32, 33, 34, 35, 36, 37, 38, 39, 40, 41, 42, 43, 44, 45, 46, 47, 48, 49, 50, 51, 52, 53, 54, 55, 56, 57, 58, 59, 60, 61, 62, 63, 64, 65, 66, 67, 68, 69, 70, 71, 72, 73, 74, 75, 76, 77, 78, 79, 80, 81, 82, 83, 84, 85, 86, 87, 88, 89, 90, 91, 92, 93, 94, 95, 96, 97, 98, 99, 100, 101, 102, 103, 104, 105, 106, 107, 108, 109, 110, 111, 112, 113, 114, 115, 116, 117, 118, 119, 120, 121, 122, 123, 124, 125, 126, 127, 128, 129, 130, 131, 132, 133, 134, 135, 136, 137, 138, 139, 140, 141, 142, 143, 144, 145, 146, 147, 148, 149])]) = some (ac_structure_flat.strip, rs_structure_flat, 44) := by kernel_rfl

def ac_R19_Same_l0 : ACode :=
  /-live [2, 3, 5]-/ .seq /-6-/ (.seq /-7-/ (.region [ ⟨(some 41), .mov (.t 5), none⟩, ⟨(some 42), .fldaddr 4 1 (.t 2), none⟩, ⟨(some 43), .load false 1 (.t 42), none⟩, ⟨(some 44), .len (.t 43), none⟩, ⟨(some 45), .bin .lss (.t 41) (.t 44), none⟩] [41, 42, 43, 44]) (.cond (.t 45) (.skip) (.exit 0))) (.seq /-8-/ (.block 1 (.seq /-9-/ (.draw ( .step ⟨(some 48), .fldaddr 4 1 (.t 2), none⟩ ( .step ⟨(some 49), .load false 1 (.t 48), none⟩ ( .step ⟨(some 50), .mov (.t 5), none⟩ ( .step ⟨(some 51), .idx 5 (.t 49) (.t 50), none⟩ ( .step ⟨(some 52), .load true 5 (.t 51), none⟩ ( .step ⟨(some 53), .fldaddr 4 1 (.t 3), none⟩ ( .step ⟨(some 54), .load false 1 (.t 53), none⟩ ( .step ⟨(some 55), .mov (.t 5), none⟩ ( .step ⟨(some 56), .idx 5 (.t 54) (.t 55), none⟩ ( .step ⟨(some 57), .load true 5 (.t 56), none⟩ ( .step ⟨(some 58), .callq f_R19_Same [(.t 52), (.t 57)], none⟩ ( .step ⟨(some 59), .un .not (.t 58), none⟩ ( .done))))))))))))) [45, 48, 49, 50, 51, 52, 53, 54, 55, 56, 57, 58]) (.cond (.t 59) (.seq /-10-/ (.region [ ⟨(some 4), .mov (.c (.bool false)), none⟩] [2, 3, 5, 59]) (.ret)) (.skip)))) (.region [ ⟨(some 46), .mov (.t 5), none⟩, ⟨(some 47), .bin .add (.t 46) (.c (.int .i64 1)), none⟩, ⟨(some 5), .mov (.t 47), none⟩] [4, 46, 47, 59]))

def ac_R19_Same_k1 : ACode :=
  /-live []-/ .seq /-11-/ (.region [ ⟨(some 4), .mov (.c (.bool true)), none⟩] [2, 3, 5]) (.ret)

/-- decompiler/decompilerref19.Same -/
def ac_R19_Same : ACode := .seq /-0-/ (.region [ ⟨(some 2), .rbox (.t 0), none⟩, ⟨(some 3), .rbox (.t 1), none⟩, ⟨(some 4), .mov (.c (.bool false)), none⟩] [0, 1, 4]) (.seq /-1-/ (.seq /-2-/ (.region [ ⟨(some 6), .fldaddr 0 1 (.t 2), none⟩, ⟨(some 7), .load false 1 (.t 6), none⟩, ⟨(some 8), .fldaddr 0 1 (.t 3), none⟩, ⟨(some 9), .load false 1 (.t 8), none⟩, ⟨(some 10), .bin .neq (.t 7) (.t 9), none⟩, ⟨(some 11), .mov (.t 10), none⟩, ⟨(some 12), .fldaddr 1 1 (.t 2), (some (11, false))⟩, ⟨(some 13), .load false 1 (.t 12), (some (11, false))⟩, ⟨(some 14), .fldaddr 1 1 (.t 3), (some (11, false))⟩, ⟨(some 15), .load false 1 (.t 14), (some (11, false))⟩, ⟨(some 16), .bin .neq (.t 13) (.t 15), (some (11, false))⟩, ⟨(some 17), .pick (.t 11) (.c (.bool true)) (.t 16), none⟩, ⟨(some 18), .mov (.t 17), none⟩, ⟨(some 19), .fldaddr 2 1 (.t 2), (some (18, false))⟩, ⟨(some 20), .load false 1 (.t 19), (some (18, false))⟩, ⟨(some 21), .fldaddr 2 1 (.t 3), (some (18, false))⟩, ⟨(some 22), .load false 1 (.t 21), (some (18, false))⟩, ⟨(some 23), .bin .neq (.t 20) (.t 22), (some (18, false))⟩, ⟨(some 24), .pick (.t 18) (.c (.bool true)) (.t 23), none⟩, ⟨(some 25), .mov (.t 24), none⟩, ⟨(some 26), .fldaddr 3 1 (.t 2), (some (25, false))⟩, ⟨(some 27), .load false 1 (.t 26), (some (25, false))⟩, ⟨(some 28), .fldaddr 3 1 (.t 3), (some (25, false))⟩, ⟨(some 29), .load false 1 (.t 28), (some (25, false))⟩, ⟨(some 30), .bin .neq (.t 27) (.t 29), (some (25, false))⟩, ⟨(some 31), .pick (.t 25) (.c (.bool true)) (.t 30), none⟩, ⟨(some 32), .mov (.t 31), none⟩, ⟨(some 33), .fldaddr 4 1 (.t 2), (some (32, false))⟩, ⟨(some 34), .load false 1 (.t 33), (some (32, false))⟩, ⟨(some 35), .len (.t 34), (some (32, false))⟩, ⟨(some 36), .fldaddr 4 1 (.t 3), (some (32, false))⟩, ⟨(some 37), .load false 1 (.t 36), (some (32, false))⟩, ⟨(some 38), .len (.t 37), (some (32, false))⟩, ⟨(some 39), .bin .neq (.t 35) (.t 38), (some (32, false))⟩, ⟨(some 40), .pick (.t 32) (.c (.bool true)) (.t 39), none⟩] [6, 7, 8, 9, 10, 11, 12, 13, 14, 15, 16, 17, 18, 19, 20, 21, 22, 23, 24, 25, 26, 27, 28, 29, 30, 31, 32, 33, 34, 35, 36, 37, 38, 39]) (.cond (.t 40) (.seq /-3-/ (.region [ ⟨(some 4), .mov (.c (.bool false)), none⟩] [2, 3, 40]) (.ret)) (.skip))) (.seq /-4-/ (.seq /-5-/ (.region [ ⟨(some 5), .mov (.c (.int .i64 0)), none⟩] [4, 40]) (.block 0 (.loop ac_R19_Same_l0))) (ac_R19_Same_k1)))

def rs_R19_Same : List ARet := [.tmp 4]

set_option maxRecDepth 100000 in
theorem cf_R19_Same : compF Tryz.prog f_R19_Same (qRo [2, 3]) = some (ac_R19_Same.strip, rs_R19_Same, 60) := by kernel_rfl

def ac_R36_again_l0 : ACode :=
  /-live [1, 2, 3, 4]-/ .seq /-4-/ (.seq /-5-/ (.region [ ⟨(some 5), .mov (.t 4), none⟩, ⟨(some 6), .fldaddr 4 1 (.t 1), none⟩, ⟨(some 7), .load false 1 (.t 6), none⟩, ⟨(some 8), .len (.t 7), none⟩, ⟨(some 9), .bin .lss (.t 5) (.t 8), none⟩] [5, 6, 7, 8]) (.cond (.t 9) (.skip) (.exit 0))) (.seq /-6-/ (.block 1 (.region [ ⟨(some 12), .mov (.t 3), none⟩, ⟨(some 13), .fldaddr 4 1 (.t 1), none⟩, ⟨(some 14), .load false 1 (.t 13), none⟩, ⟨(some 15), .mov (.t 4), none⟩, ⟨(some 16), .idx 5 (.t 14) (.t 15), none⟩, ⟨(some 17), .load true 5 (.t 16), none⟩, ⟨(some 18), .call f_R36_again [(.t 17)], none⟩, ⟨(some 19), .buildSl 5 1 [.int .i64 0, .int .i64 0, .int .i64 0, .nilsl, .nilsl] [(0, (.t 18))], none⟩, ⟨(some 20), .append 5 72 (.t 12) (.t 19), none⟩, ⟨(some 3), .mov (.t 20), none⟩] [9, 12, 13, 14, 15, 16, 17, 18, 19, 20])) (.region [ ⟨(some 10), .mov (.t 4), none⟩, ⟨(some 11), .bin .add (.t 10) (.c (.int .i64 1)), none⟩, ⟨(some 4), .mov (.t 11), none⟩] [10, 11]))

def ac_R36_again_k1 : ACode :=
  /-live [1, 2, 3]-/ .seq /-7-/ (.region [ ⟨(some 21), .mov (.t 3), none⟩, ⟨(some 22), .fldaddr 4 1 (.t 1), none⟩, ⟨none, .store 1 (.t 22) (.t 21), none⟩] [3, 4, 21, 22]) (.mark 0 (.seq /-8-/ (.region [ ⟨(some 23), .load true 5 (.t 1), none⟩, ⟨(some 24), .call f_R36_flat [(.t 23)], none⟩, ⟨none, .store 5 (.t 2) (.t 24), none⟩] [1, 23, 24]) (.ret)))

/-- decompiler/decompilerref36.again -/
def ac_R36_again : ACode := .seq /-0-/ (.region [ ⟨(some 1), .box (.t 0), none⟩, ⟨(some 2), .alloc [.int .i64 0, .int .i64 0, .int .i64 0, .nilsl, .nilsl], none⟩] [0]) (.seq /-1-/ (.region [ ⟨(some 3), .mknil 5, none⟩] []) (.seq /-2-/ (.seq /-3-/ (.region [ ⟨(some 4), .mov (.c (.int .i64 0)), none⟩] []) (.block 0 (.loop ac_R36_again_l0))) (ac_R36_again_k1)))

def rs_R36_again : List ARet := [.cell 2 true 5]

set_option maxRecDepth 100000 in
theorem cf_R36_again : compF Tryz.prog f_R36_again (qRo []) = some (ac_R36_again.strip, rs_R36_again, 25) := by kernel_rfl

def ac_R36_cut_l0 : ACode :=
  /-live [1, 2, 3, 4]-/ .seq /-11-/ (.seq /-12-/ (.region [ ⟨(some 34), .mov (.t 4), none⟩, ⟨(some 35), .mov (.t 3), none⟩, ⟨(some 36), .len (.t 35), none⟩, ⟨(some 37), .bin .lss (.t 34) (.t 36), none⟩] [34, 35, 36]) (.cond (.t 37) (.skip) (.exit 1))) (.seq /-13-/ (.block 2 (.region [ ⟨(some 40), .mov (.t 3), none⟩, ⟨(some 41), .mov (.t 4), none⟩, ⟨(some 42), .mov (.t 3), none⟩, ⟨(some 43), .mov (.t 4), none⟩, ⟨(some 44), .idx 5 (.t 42) (.t 43), none⟩, ⟨(some 45), .load true 5 (.t 44), none⟩, ⟨(some 46), .call f_R36_cut [(.t 45)], none⟩, ⟨(some 47), .idx 5 (.t 40) (.t 41), none⟩, ⟨none, .store 5 (.t 47) (.t 46), none⟩] [37, 40, 41, 42, 43, 44, 45, 46, 47])) (.region [ ⟨(some 38), .mov (.t 4), none⟩, ⟨(some 39), .bin .add (.t 38) (.c (.int .i64 1)), none⟩, ⟨(some 4), .mov (.t 39), none⟩] [38, 39]))

def ac_R36_cut_k1 : ACode :=
  /-live [1, 2, 3]-/ .seq /-14-/ (.region [ ⟨(some 48), .mov (.t 3), none⟩, ⟨(some 49), .fldaddr 4 1 (.t 1), none⟩, ⟨none, .store 1 (.t 49) (.t 48), none⟩] [3, 4, 10, 18, 31, 48, 49]) (.seq /-15-/ (.region [ ⟨(some 50), .load true 5 (.t 1), none⟩, ⟨none, .store 5 (.t 2) (.t 50), none⟩] [1, 50]) (.ret))

/-- decompiler/decompilerref36.cut -/
def ac_R36_cut : ACode := .seq /-0-/ (.region [ ⟨(some 1), .box (.t 0), none⟩, ⟨(some 2), .alloc [.int .i64 0, .int .i64 0, .int .i64 0, .nilsl, .nilsl], none⟩] [0]) (.seq /-1-/ (.region [ ⟨(some 5), .buildSl 5 0 [.int .i64 0, .int .i64 0, .int .i64 0, .nilsl, .nilsl] [], none⟩, ⟨(some 6), .fldaddr 4 1 (.t 1), none⟩, ⟨(some 7), .load false 1 (.t 6), none⟩, ⟨(some 8), .append 5 72 (.t 5) (.t 7), none⟩, ⟨(some 3), .mov (.t 8), none⟩] [5, 6, 7, 8]) (.seq /-2-/ (.seq /-3-/ (.region [ ⟨(some 9), .fldaddr 0 1 (.t 1), none⟩, ⟨(some 10), .load false 1 (.t 9), none⟩] [9]) (.block 0 (.seq /-4-/ (.region [ ⟨(some 12), .bin .eql (.t 10) (.c (.int .i64 8)), none⟩, ⟨(some 11), .mov (.t 12), none⟩] [12]) (.cond (.t 11) (.seq /-5-/ (.region [ ⟨(some 13), .call f_R36_seq [(.c (.nilsl))], none⟩, ⟨none, .store 5 (.t 2) (.t 13), none⟩] [1, 3, 10, 11, 13]) (.ret)) (.seq /-6-/ (.region [ ⟨(some 15), .bin .eql (.t 10) (.c (.int .i64 1)), none⟩, ⟨(some 14), .mov (.t 15), none⟩] [11, 15]) (.cond (.t 14) (.seq /-7-/ (.region [ ⟨(some 16), .mov (.t 3), none⟩, ⟨(some 17), .len (.t 16), none⟩, ⟨(some 18), .bin .gtr (.t 17) (.c (.int .i64 0)), none⟩] [10, 14, 16, 17]) (.cond (.t 18) (.region [ ⟨(some 19), .mov (.t 3), none⟩, ⟨(some 20), .mov (.t 3), none⟩, ⟨(some 21), .len (.t 20), none⟩, ⟨(some 22), .bin .sub (.t 21) (.c (.int .i64 1)), none⟩, ⟨(some 23), .mov (.t 3), none⟩, ⟨(some 24), .mov (.t 3), none⟩, ⟨(some 25), .len (.t 24), none⟩, ⟨(some 26), .bin .sub (.t 25) (.c (.int .i64 1)), none⟩, ⟨(some 27), .idx 5 (.t 23) (.t 26), none⟩, ⟨(some 28), .load true 5 (.t 27), none⟩, ⟨(some 29), .call f_R36_cut [(.t 28)], none⟩, ⟨(some 30), .idx 5 (.t 19) (.t 22), none⟩, ⟨none, .store 5 (.t 30) (.t 29), none⟩] [18, 19, 20, 21, 22, 23, 24, 25, 26, 27, 28, 29, 30]) (.skip))) (.seq /-8-/ (.seq /-9-/ (.region [ ⟨(some 32), .bin .eql (.t 10) (.c (.int .i64 3)), none⟩, ⟨(some 31), .mov (.t 32), none⟩] [14, 32]) (.cond (.t 31) (.skip) (.region [ ⟨(some 33), .bin .eql (.t 10) (.c (.int .i64 6)), none⟩, ⟨(some 31), .mov (.t 33), none⟩] [10, 33]))) (.cond (.t 31) (.seq /-10-/ (.region [ ⟨(some 4), .mov (.c (.int .i64 0)), none⟩] [10, 31]) (.block 1 (.loop ac_R36_cut_l0))) (.skip))))))))) (ac_R36_cut_k1)))

def rs_R36_cut : List ARet := [.cell 2 true 5]

set_option maxRecDepth 100000 in
theorem cf_R36_cut : compF Tryz.prog f_R36_cut (qRo []) = some (ac_R36_cut.strip, rs_R36_cut, 51) := by kernel_rfl

def ac_R36_flat_l0 : ACode :=
  /-live [1, 2, 3, 4]-/ .seq /-7-/ (.seq /-8-/ (.region [ ⟨(some 9), .mov (.t 4), none⟩, ⟨(some 10), .fldaddr 4 1 (.t 1), none⟩, ⟨(some 11), .load false 1 (.t 10), none⟩, ⟨(some 12), .len (.t 11), none⟩, ⟨(some 13), .bin .lss (.t 9) (.t 12), none⟩] [9, 10, 11, 12]) (.cond (.t 13) (.skip) (.exit 0))) (.seq /-9-/ (.block 1 (.seq /-10-/ (.region [ ⟨(some 16), .fldaddr 4 1 (.t 1), none⟩, ⟨(some 17), .load false 1 (.t 16), none⟩, ⟨(some 18), .mov (.t 4), none⟩, ⟨(some 19), .idx 5 (.t 17) (.t 18), none⟩, ⟨(some 20), .fldaddr 0 1 (.t 19), none⟩, ⟨(some 21), .load false 1 (.t 20), none⟩, ⟨(some 22), .bin .eql (.t 21) (.c (.int .i64 1)), none⟩] [13, 16, 17, 18, 19, 20, 21]) (.cond (.t 22) (.region [ ⟨(some 23), .mov (.t 3), none⟩, ⟨(some 24), .fldaddr 4 1 (.t 1), none⟩, ⟨(some 25), .load false 1 (.t 24), none⟩, ⟨(some 26), .mov (.t 4), none⟩, ⟨(some 27), .idx 5 (.t 25) (.t 26), none⟩, ⟨(some 28), .fldaddr 4 1 (.t 27), none⟩, ⟨(some 29), .load false 1 (.t 28), none⟩, ⟨(some 30), .append 5 72 (.t 23) (.t 29), none⟩, ⟨(some 3), .mov (.t 30), none⟩] [22, 23, 24, 25, 26, 27, 28, 29, 30]) (.region [ ⟨(some 31), .mov (.t 3), none⟩, ⟨(some 32), .fldaddr 4 1 (.t 1), none⟩, ⟨(some 33), .load false 1 (.t 32), none⟩, ⟨(some 34), .mov (.t 4), none⟩, ⟨(some 35), .idx 5 (.t 33) (.t 34), none⟩, ⟨(some 36), .load true 5 (.t 35), none⟩, ⟨(some 37), .buildSl 5 1 [.int .i64 0, .int .i64 0, .int .i64 0, .nilsl, .nilsl] [(0, (.t 36))], none⟩, ⟨(some 38), .append 5 72 (.t 31) (.t 37), none⟩, ⟨(some 3), .mov (.t 38), none⟩] [22, 31, 32, 33, 34, 35, 36, 37, 38])))) (.region [ ⟨(some 14), .mov (.t 4), none⟩, ⟨(some 15), .bin .add (.t 14) (.c (.int .i64 1)), none⟩, ⟨(some 4), .mov (.t 15), none⟩] [14, 15]))

def ac_R36_flat_k1 : ACode :=
  /-live [1, 2, 3]-/ .seq /-11-/ (.seq /-12-/ (.region [ ⟨(some 39), .mov (.t 3), none⟩, ⟨(some 40), .len (.t 39), none⟩, ⟨(some 41), .bin .eql (.t 40) (.c (.int .i64 1)), none⟩] [4, 39, 40]) (.cond (.t 41) (.seq /-13-/ (.region [ ⟨(some 42), .mov (.t 3), none⟩, ⟨(some 43), .idx 5 (.t 42) (.c (.int .i64 0)), none⟩, ⟨(some 44), .load true 5 (.t 43), none⟩, ⟨none, .store 5 (.t 2) (.t 44), none⟩] [1, 3, 41, 42, 43, 44]) (.ret)) (.skip))) (.seq /-14-/ (.region [ ⟨(some 45), .mov (.t 3), none⟩, ⟨(some 46), .fldaddr 4 1 (.t 1), none⟩, ⟨none, .store 1 (.t 46) (.t 45), none⟩] [3, 41, 45, 46]) (.seq /-15-/ (.region [ ⟨(some 47), .load true 5 (.t 1), none⟩, ⟨none, .store 5 (.t 2) (.t 47), none⟩] [1, 47]) (.ret)))

/-- decompiler/decompilerref36.flat -/
def ac_R36_flat : ACode := .seq /-0-/ (.region [ ⟨(some 1), .box (.t 0), none⟩, ⟨(some 2), .alloc [.int .i64 0, .int .i64 0, .int .i64 0, .nilsl, .nilsl], none⟩] [0]) (.seq /-1-/ (.seq /-2-/ (.region [ ⟨(some 5), .fldaddr 0 1 (.t 1), none⟩, ⟨(some 6), .load false 1 (.t 5), none⟩, ⟨(some 7), .bin .neq (.t 6) (.c (.int .i64 1)), none⟩] [5, 6]) (.cond (.t 7) (.seq /-3-/ (.region [ ⟨(some 8), .load true 5 (.t 1), none⟩, ⟨none, .store 5 (.t 2) (.t 8), none⟩] [1, 7, 8]) (.ret)) (.skip))) (.seq /-4-/ (.region [ ⟨(some 3), .mknil 5, none⟩] [7]) (.seq /-5-/ (.seq /-6-/ (.region [ ⟨(some 4), .mov (.c (.int .i64 0)), none⟩] []) (.block 0 (.loop ac_R36_flat_l0))) (ac_R36_flat_k1))))

def rs_R36_flat : List ARet := [.cell 2 true 5]

set_option maxRecDepth 100000 in
theorem cf_R36_flat : compF Tryz.prog f_R36_flat (qRo []) = some (ac_R36_flat.strip, rs_R36_flat, 48) := by kernel_rfl


/-- decompiler/structure.seq -/
def ac_structure_seq : ACode := .seq /-0-/ (.region [ ⟨(some 2), .alloc [.int .i64 0, .int .i64 0, .int .i64 0, .nilsl, .nilsl], none⟩] []) (.seq /-1-/ (.region [ ⟨(some 3), .mov (.t 0), none⟩, ⟨(some 4), .build [.int .i64 0, .int .i64 0, .int .i64 0, .nilsl, .nilsl] [(0, 1, (.c (.int .i64 1))), (4, 1, (.t 3))], none⟩, ⟨none, .store 5 (.t 2) (.t 4), none⟩] [0, 3, 4]) (.ret))

def rs_structure_seq : List ARet := [.cell 2 true 5]

set_option maxRecDepth 100000 in
theorem cf_structure_seq : compF Tryz.prog f_structure_seq (qRo []) = some (ac_structure_seq.strip, rs_structure_seq, 5) := by kernel_rfl

def ac_slices_Concat_api_Node_api_Node_l0 : ACode :=
  /-live [0, 3, 9, 10, 11]-/ .seq /-4-/ (.region [ ⟨(some 12), .bin .lss (.t 11) (.t 10), none⟩] []) (.seq /-5-/ (.cond (.t 12) (.skip) (.exit 0)) (.seq /-6-/ (.block 1 (.seq /-7-/ (.region [ ⟨(some 13), .idx 1 (.t 9) (.t 11), none⟩, ⟨(some 14), .load false 1 (.t 13), none⟩, ⟨(some 5), .mov (.t 14), none⟩] [12, 13, 14]) (.seq /-8-/ (.region [ ⟨(some 15), .mov (.t 3), none⟩, ⟨(some 16), .mov (.t 5), none⟩, ⟨(some 17), .len (.t 16), none⟩, ⟨(some 18), .bin .add (.t 15) (.t 17), none⟩, ⟨(some 3), .mov (.t 18), none⟩] [5, 15, 16, 17, 18]) (.seq /-9-/ (.region [ ⟨(some 19), .mov (.t 3), none⟩, ⟨(some 20), .bin .lss (.t 19) (.c (.int .i64 0)), none⟩] [19]) (.cond (.t 20) (.region [ ⟨(some 21), .xop .nope [], none⟩, ⟨none, .xop .nope [], none⟩] [20, 21]) (.skip)))))) (.region [ ⟨(some 22), .bin .add (.t 11) (.c (.int .i64 1)), none⟩, ⟨(some 11), .mov (.t 22), none⟩] [20, 22])))

def ac_slices_Concat_api_Node_api_Node_l1 : ACode :=
  /-live [6, 25, 26, 27]-/ .seq /-13-/ (.region [ ⟨(some 28), .bin .lss (.t 27) (.t 26), none⟩] []) (.seq /-14-/ (.cond (.t 28) (.skip) (.exit 2)) (.seq /-15-/ (.block 3 (.seq /-16-/ (.region [ ⟨(some 29), .idx 1 (.t 25) (.t 27), none⟩, ⟨(some 30), .load false 1 (.t 29), none⟩, ⟨(some 8), .mov (.t 30), none⟩] [28, 29, 30]) (.region [ ⟨(some 31), .mov (.t 6), none⟩, ⟨(some 32), .mov (.t 8), none⟩, ⟨(some 33), .append 5 72 (.t 31) (.t 32), none⟩, ⟨(some 6), .mov (.t 33), none⟩] [8, 31, 32, 33]))) (.region [ ⟨(some 34), .bin .add (.t 27) (.c (.int .i64 1)), none⟩, ⟨(some 27), .mov (.t 34), none⟩] [34])))

def ac_slices_Concat_api_Node_api_Node_k2 : ACode :=
  /-live [6]-/ .seq /-17-/ (.region [ ⟨(some 35), .mov (.t 6), none⟩, ⟨(some 2), .mov (.t 35), none⟩] [6, 25, 26, 27, 35]) (.ret)

def ac_slices_Concat_api_Node_api_Node_k3 : ACode :=
  /-live [0, 3]-/ .seq /-10-/ (.region [ ⟨(some 23), .mov (.t 3), none⟩, ⟨(some 24), .call f_slices_Grow_api_Node_api_Node [(.c (.nilsl)), (.t 23)], none⟩, ⟨(some 6), .mov (.t 24), none⟩] [3, 9, 10, 11, 23, 24]) (.seq /-11-/ (.seq /-12-/ (.region [ ⟨(some 25), .mov (.t 0), none⟩, ⟨(some 26), .len (.t 25), none⟩, ⟨(some 27), .mov (.c (.int .i64 0)), none⟩] [0]) (.block 2 (.loop ac_slices_Concat_api_Node_api_Node_l1))) (ac_slices_Concat_api_Node_api_Node_k2))

/-- slices.Concat[[]decompiler/api.Node,decompiler/api.Node] -/
def ac_slices_Concat_api_Node_api_Node : ACode := .seq /-0-/ (.region [ ⟨(some 2), .mknil 5, none⟩] [2]) (.seq /-1-/ (.region [ ⟨(some 3), .mov (.c (.int .i64 0)), none⟩] []) (.seq /-2-/ (.seq /-3-/ (.region [ ⟨(some 9), .mov (.t 0), none⟩, ⟨(some 10), .len (.t 9), none⟩, ⟨(some 11), .mov (.c (.int .i64 0)), none⟩] []) (.block 0 (.loop ac_slices_Concat_api_Node_api_Node_l0))) (ac_slices_Concat_api_Node_api_Node_k3)))

def rs_slices_Concat_api_Node_api_Node : List ARet := [.tmp 2]

set_option maxRecDepth 100000 in
theorem cf_slices_Concat_api_Node_api_Node : compF Tryz.prog f_slices_Concat_api_Node_api_Node (qRo []) = some (ac_slices_Concat_api_Node_api_Node.strip, rs_slices_Concat_api_Node_api_Node, 36) := by kernel_rfl


/-- decompiler/decompilerref36.seq -/
def ac_R36_seq : ACode := .seq /-0-/ (.region [ ⟨(some 2), .alloc [.int .i64 0, .int .i64 0, .int .i64 0, .nilsl, .nilsl], none⟩] []) (.seq /-1-/ (.region [ ⟨(some 3), .mov (.t 0), none⟩, ⟨(some 4), .build [.int .i64 0, .int .i64 0, .int .i64 0, .nilsl, .nilsl] [(0, 1, (.c (.int .i64 1))), (4, 1, (.t 3))], none⟩, ⟨none, .store 5 (.t 2) (.t 4), none⟩] [0, 3, 4]) (.ret))

def rs_R36_seq : List ARet := [.cell 2 true 5]

set_option maxRecDepth 100000 in
theorem cf_R36_seq : compF Tryz.prog f_R36_seq (qRo []) = some (ac_R36_seq.strip, rs_R36_seq, 5) := by kernel_rfl


/-- slices.Grow[[]decompiler/api.Node,decompiler/api.Node] -/
def ac_slices_Grow_api_Node_api_Node : ACode := .seq /-0-/ (.region [ ⟨(some 4), .mknil 5, none⟩] [4]) (.seq /-1-/ (.seq /-2-/ (.region [ ⟨(some 5), .mov (.t 1), none⟩, ⟨(some 6), .bin .lss (.t 5) (.c (.int .i64 0)), none⟩] [5]) (.cond (.t 6) (.region [ ⟨(some 7), .xop .nope [], none⟩, ⟨none, .xop .nope [], none⟩] [6, 7]) (.skip))) (.seq /-3-/ (.seq /-4-/ (.region [ ⟨(some 8), .mov (.t 1), none⟩, ⟨(some 9), .mov (.t 0), none⟩, ⟨(some 10), .xop .capn [(.t 9)], none⟩, ⟨(some 11), .mov (.t 0), none⟩, ⟨(some 12), .len (.t 11), none⟩, ⟨(some 13), .bin .sub (.t 10) (.t 12), none⟩, ⟨(some 14), .bin .sub (.t 8) (.t 13), none⟩, ⟨(some 1), .mov (.t 14), none⟩] [6, 8, 9, 10, 11, 12, 13, 14]) (.seq /-5-/ (.region [ ⟨(some 15), .mov (.t 1), none⟩, ⟨(some 16), .bin .gtr (.t 15) (.c (.int .i64 0)), none⟩] [15]) (.cond (.t 16) (.region [ ⟨(some 17), .mov (.t 0), none⟩, ⟨(some 18), .mov (.t 0), none⟩, ⟨(some 19), .xop .capn [(.t 18)], none⟩, ⟨(some 20), .slice 5 (.t 17) none (some (.t 19)), none⟩, ⟨(some 21), .mov (.t 1), none⟩, ⟨(some 22), .xop (.apz 5 72 [.int .i64 0, .int .i64 0, .int .i64 0, .nilsl, .nilsl]) [(.t 20), (.t 21)], none⟩, ⟨(some 23), .mov (.t 0), none⟩, ⟨(some 24), .len (.t 23), none⟩, ⟨(some 25), .slice 5 (.t 22) none (some (.t 24)), none⟩, ⟨(some 0), .mov (.t 25), none⟩] [1, 16, 17, 18, 19, 20, 21, 22, 23, 24, 25]) (.skip)))) (.seq /-6-/ (.region [ ⟨(some 26), .mov (.t 0), none⟩, ⟨(some 4), .mov (.t 26), none⟩] [0, 1, 16, 26]) (.ret))))

def rs_slices_Grow_api_Node_api_Node : List ARet := [.tmp 4]

set_option maxRecDepth 100000 in
theorem cf_slices_Grow_api_Node_api_Node : compF Tryz.prog f_slices_Grow_api_Node_api_Node (qRo []) = some (ac_slices_Grow_api_Node_api_Node.strip, rs_slices_Grow_api_Node_api_Node, 27) := by kernel_rfl

end Go.Ab

namespace Go.Ab

def seqF : NdF := ⟨1, 0, 0⟩

/-- A sequence whose elements are no sequences, or its only element. -/
def flatL (l : List Nd) : List Nd := l.flatMap fun x => if x.f.kind = 1 then x.l else [x]
def oneOr (f : NdF) (c : List Ex) : List Nd → Nd
  | [a] => a
  | l => .mk f c l
def flatN : Nd → Nd
  | .mk f c l => if f.kind = 1 then oneOr f c (flatL l) else .mk f c l

theorem flatN_mk {f : NdF} {c : List Ex} {l : List Nd} : flatN (.mk f c l) = if f.kind = 1 then oneOr f c (flatL l) else .mk f c l := rfl

mutual
def cutN : Nd → Nd
  | .mk f c l => if f.kind = 8 then .mk seqF [] [] else if f.kind = 1 then .mk f c (cutLast l) else if f.kind = 3 ∨ f.kind = 6 then .mk f c (cutAll l) else .mk f c l
def cutLast : List Nd → List Nd
  | [] => []
  | [x] => [cutN x]
  | x :: y :: l => x :: cutLast (y :: l)
def cutAll : List Nd → List Nd
  | [] => []
  | x :: l => cutN x :: cutAll l
end

mutual
def againN : Nd → Nd
  | .mk f c l => flatN (.mk f c (againNs l))
def againNs : List Nd → List Nd
  | [] => []
  | x :: l => againN x :: againNs l
end

def isLoopK (k : Int) : Bool := decide (k = 4 ∨ k = 5)

mutual
def simpN : Nd → Nd
  | .mk f c l => flatN (.mk f c (simpNs (isLoopK f.kind) l))
def simpNs : Bool → List Nd → List Nd
  | _, [] => []
  | b, x :: l => (if b = true then againN (cutN (simpN x)) else simpN x) :: simpNs b l
end

theorem againNs_map : ∀ l : List Nd, againNs l = l.map againN
  | [] => by rw [againNs]; rfl
  | x :: l => by rw [againNs, againNs_map l]; rfl
theorem simpNs_map (b : Bool) : ∀ l : List Nd, simpNs b l = l.map fun x => if b = true then againN (cutN (simpN x)) else simpN x
  | [] => by rw [simpNs]; rfl
  | x :: l => by rw [simpNs, simpNs_map b l]; rfl
theorem cutAll_map : ∀ l : List Nd, cutAll l = l.map cutN
  | [] => by rw [cutAll]; rfl
  | x :: l => by rw [cutAll, cutAll_map l]; rfl

/-! What is collected from the nodes. -/

mutual
def coll (p : NdF → List Int) : Nd → List Int
  | .mk f _ l => p f ++ colls p l
def colls (p : NdF → List Int) : List Nd → List Int
  | [] => []
  | x :: l => coll p x ++ colls p l
end

def labP (f : NdF) : List Int := if f.kind = 10 then [f.label] else []
def blkP (f : NdF) : List Int := if f.kind = 2 ∨ f.kind = 5 then [f.block] else []
def gotoP (f : NdF) : List Int := if f.kind = 9 then [f.label] else []

theorem colls_append (p : NdF → List Int) : ∀ l m : List Nd, colls p (l ++ m) = colls p l ++ colls p m
  | [], m => by rw [colls]; rfl
  | x :: l, m => by rw [List.cons_append, colls, colls, colls_append p l m, List.append_assoc]

/-- A collection that takes nothing from sequences and continues. -/
def Quiet (p : NdF → List Int) : Prop := ∀ f : NdF, f.kind = 1 ∨ f.kind = 8 → p f = []

theorem labP_quiet : Quiet labP := fun f h => by unfold labP; rw [if_neg (by omega)]
theorem blkP_quiet : Quiet blkP := fun f h => by unfold blkP; rw [if_neg (by omega)]
theorem gotoP_quiet : Quiet gotoP := fun f h => by unfold gotoP; rw [if_neg (by omega)]

section
variable {p : NdF → List Int} (hp : Quiet p)
include hp

theorem colls_flatL : ∀ l : List Nd, colls p (flatL l) = colls p l
  | [] => rfl
  | x :: l => by
    have ih := colls_flatL l
    unfold flatL at ih ⊢
    rw [List.flatMap_cons, colls_append, ih, colls]
    congr 1
    obtain ⟨f, c, m⟩ := x
    by_cases h : f.kind = 1
    · simp only [Nd.f, h, if_true, Nd.l]
      rw [coll, hp f (.inl h)]
      rfl
    · simp only [Nd.f, h, if_false]
      rw [colls, colls, List.append_nil]

theorem coll_flatN (n : Nd) : coll p (flatN n) = coll p n := by
  obtain ⟨f, c, l⟩ := n
  rw [flatN_mk]
  split
  · rename_i h
    have e := colls_flatL hp l
    rw [coll, hp f (.inl h), List.nil_append, ← e]
    unfold oneOr
    split
    · rename_i a ha
      rw [ha, colls, colls, List.append_nil]
    · rw [coll, hp f (.inl h), List.nil_append]
  · rfl

mutual
theorem coll_againN : ∀ n : Nd, coll p (againN n) = coll p n
  | .mk f c l => by rw [againN, coll_flatN hp, coll, coll, colls_againNs l]
theorem colls_againNs : ∀ l : List Nd, colls p (againNs l) = colls p l
  | [] => by rw [againNs]
  | x :: l => by rw [againNs, colls, colls, coll_againN x, colls_againNs l]
end
end

/-! Nodes in which no continue has nodes. -/

mutual
def leavesN : Nd → Bool
  | .mk f _ l => bif decide (f.kind = 8) && !l.isEmpty then false else leavesNs l
def leavesNs : List Nd → Bool
  | [] => true
  | x :: l => leavesN x && leavesNs l
end

theorem leavesNs_append : ∀ l m : List Nd, leavesNs (l ++ m) = (leavesNs l && leavesNs m)
  | [], m => by rw [leavesNs]; rfl
  | x :: l, m => by rw [List.cons_append, leavesNs, leavesNs, leavesNs_append l m, Bool.and_assoc]

theorem leavesN_mk {f : NdF} {c : List Ex} {l : List Nd} (h : leavesN (.mk f c l) = true) : leavesNs l = true ∧ (f.kind = 8 → l = []) := by
  rw [leavesN] at h
  cases hb : decide (f.kind = 8) && !l.isEmpty with
  | true => rw [hb] at h; cases h
  | false =>
    rw [hb] at h
    refine ⟨h, fun hk => ?_⟩
    rw [hk] at hb
    cases l with
    | nil => rfl
    | cons a l => simp at hb
theorem leavesN_of {f : NdF} {c : List Ex} {l : List Nd} (h : leavesNs l = true) (hk : f.kind ≠ 8) : leavesN (.mk f c l) = true := by
  rw [leavesN]
  simp [hk, h]

theorem leaves_flatL : ∀ l : List Nd, leavesNs l = true → leavesNs (flatL l) = true
  | [], _ => rfl
  | x :: l, h => by
    rw [leavesNs, Bool.and_eq_true] at h
    have ih := leaves_flatL l h.2
    unfold flatL at ih ⊢
    rw [List.flatMap_cons, leavesNs_append, ih, Bool.and_true]
    obtain ⟨f, c, m⟩ := x
    by_cases hk : f.kind = 1
    · simp only [Nd.f, hk, if_true, Nd.l]
      exact (leavesN_mk h.1).1
    · simp only [Nd.f, hk, if_false]
      rw [leavesNs, leavesNs, h.1]
      rfl

theorem leaves_flatN {n : Nd} (h : leavesN n = true) : leavesN (flatN n) = true := by
  obtain ⟨f, c, l⟩ := n
  rw [flatN_mk]
  split
  · rename_i hk
    have := leaves_flatL l (leavesN_mk h).1
    unfold oneOr
    split
    · rename_i a ha
      rw [ha, leavesNs, leavesNs, Bool.and_true] at this
      exact this
    · exact leavesN_of this (by omega)
  · exact h

mutual
theorem leaves_againN : ∀ n : Nd, leavesN n = true → leavesN (againN n) = true
  | .mk f c l, h => by
    obtain ⟨h1, h2⟩ := leavesN_mk h
    rw [againN]
    apply leaves_flatN
    by_cases hk : f.kind = 8
    · rw [h2 hk, againNs, leavesN, leavesNs]
      simp
    · exact leavesN_of (leaves_againNs l h1) hk
theorem leaves_againNs : ∀ l : List Nd, leavesNs l = true → leavesNs (againNs l) = true
  | [], _ => by rw [againNs, leavesNs]
  | x :: l, h => by
    rw [leavesNs, Bool.and_eq_true] at h
    rw [againNs, leavesNs, leaves_againN x h.1, leaves_againNs l h.2]
    rfl
end

mutual
theorem leaves_cutN : ∀ n : Nd, leavesN n = true → leavesN (cutN n) = true
  | .mk f c l, h => by
    obtain ⟨h1, h2⟩ := leavesN_mk h
    rw [cutN]
    split
    · rw [leavesN, leavesNs]
      rfl
    · rename_i hk
      split
      · exact leavesN_of (leaves_cutLast l h1) hk
      · split
        · exact leavesN_of (leaves_cutAll l h1) hk
        · exact h
theorem leaves_cutLast : ∀ l : List Nd, leavesNs l = true → leavesNs (cutLast l) = true
  | [], _ => by rw [cutLast, leavesNs]
  | [x], h => by
    rw [leavesNs, leavesNs, Bool.and_true] at h
    rw [cutLast, leavesNs, leavesNs, leaves_cutN x h]
    rfl
  | x :: y :: l, h => by
    rw [leavesNs, Bool.and_eq_true] at h
    rw [cutLast, leavesNs, h.1, leaves_cutLast (y :: l) h.2]
    rfl
theorem leaves_cutAll : ∀ l : List Nd, leavesNs l = true → leavesNs (cutAll l) = true
  | [], _ => by rw [cutAll, leavesNs]
  | x :: l, h => by
    rw [leavesNs, Bool.and_eq_true] at h
    rw [cutAll, leavesNs, leaves_cutN x h.1, leaves_cutAll l h.2]
    rfl
end

mutual
theorem leaves_simpN : ∀ n : Nd, leavesN n = true → leavesN (simpN n) = true
  | .mk f c l, h => by
    obtain ⟨h1, h2⟩ := leavesN_mk h
    rw [simpN]
    apply leaves_flatN
    by_cases hk : f.kind = 8
    · rw [h2 hk, simpNs, leavesN, leavesNs]
      simp
    · exact leavesN_of (leaves_simpNs _ l h1) hk
theorem leaves_simpNs : ∀ (b : Bool) (l : List Nd), leavesNs l = true → leavesNs (simpNs b l) = true
  | b, [], _ => by rw [simpNs, leavesNs]
  | b, x :: l, h => by
    rw [leavesNs, Bool.and_eq_true] at h
    rw [simpNs, leavesNs, leaves_simpNs b l h.2, Bool.and_true]
    have := leaves_simpN x h.1
    split
    · exact leaves_againN _ (leaves_cutN _ this)
    · exact this
end

section
variable {p : NdF → List Int} (hp : Quiet p)
include hp

mutual
theorem coll_cutN : ∀ n : Nd, leavesN n = true → coll p (cutN n) = coll p n
  | .mk f c l, h => by
    obtain ⟨h1, h2⟩ := leavesN_mk h
    rw [cutN]
    split
    · rename_i hk
      rw [h2 hk, coll, coll, hp f (.inr hk), hp seqF (.inl rfl)]
    · split
      · rw [coll, coll, colls_cutLast l h1]
      · split
        · rw [coll, coll, colls_cutAll l h1]
        · rfl
theorem colls_cutLast : ∀ l : List Nd, leavesNs l = true → colls p (cutLast l) = colls p l
  | [], _ => by rw [cutLast]
  | [x], h => by
    rw [leavesNs, leavesNs, Bool.and_true] at h
    rw [cutLast]
    simp only [colls]
    rw [coll_cutN x h]
  | x :: y :: l, h => by
    rw [leavesNs, Bool.and_eq_true] at h
    rw [cutLast, colls, colls_cutLast (y :: l) h.2]
    simp only [colls]
theorem colls_cutAll : ∀ l : List Nd, leavesNs l = true → colls p (cutAll l) = colls p l
  | [], _ => by rw [cutAll]
  | x :: l, h => by
    rw [leavesNs, Bool.and_eq_true] at h
    rw [cutAll, colls, colls, coll_cutN x h.1, colls_cutAll l h.2]
end

mutual
theorem coll_simpN : ∀ n : Nd, leavesN n = true → coll p (simpN n) = coll p n
  | .mk f c l, h => by
    rw [simpN, coll_flatN hp, coll, coll, colls_simpNs _ l (leavesN_mk h).1]
theorem colls_simpNs : ∀ (b : Bool) (l : List Nd), leavesNs l = true → colls p (simpNs b l) = colls p l
  | b, [], _ => by rw [simpNs]
  | b, x :: l, h => by
    rw [leavesNs, Bool.and_eq_true] at h
    rw [simpNs, colls, colls, colls_simpNs b l h.2]
    congr 1
    have ih := coll_simpN x h.1
    split
    · rw [coll_againN hp, coll_cutN hp _ (leaves_simpN x h.1), ih]
    · exact ih
end
end

/-! All nodes, each before those in it: what the program collects. -/

mutual
theorem coll_all (p : NdF → List Int) : ∀ n : Nd, coll p n = (allN n).flatMap fun x => p x.f
  | .mk f c l => by rw [coll, allN, List.flatMap_cons, colls_all p l]; rfl
theorem colls_all (p : NdF → List Int) : ∀ l : List Nd, colls p l = (allNs l).flatMap fun x => p x.f
  | [] => by rw [colls, allNs]; rfl
  | x :: l => by rw [colls, allNs, List.flatMap_append, coll_all p x, colls_all p l]
end

/-! A node that 'flatN' has made: it is no sequence, or its elements are none. -/
def flatOk : Nd → Prop
  | .mk f _ l => f.kind = 1 → ∀ x ∈ l, x.f.kind ≠ 1

theorem flatL_no {l : List Nd} (h : ∀ x ∈ l, flatOk x) : ∀ x ∈ flatL l, x.f.kind ≠ 1 := by
  intro x hx
  unfold flatL at hx
  obtain ⟨y, hy, hxy⟩ := List.mem_flatMap.1 hx
  obtain ⟨f, c, m⟩ := y
  have := h _ hy
  simp only [Nd.f, Nd.l] at hxy
  by_cases hk : f.kind = 1
  · simp only [hk, if_true] at hxy
    exact this hk x hxy
  · simp only [hk, if_false, List.mem_singleton] at hxy
    subst hxy
    exact hk

theorem flatOk_flatN {f : NdF} {c : List Ex} {l : List Nd} (h : ∀ x ∈ l, flatOk x) : flatOk (flatN (.mk f c l)) := by
  rw [flatN_mk]
  split
  · rename_i hk
    have := flatL_no h
    unfold oneOr
    split
    · rename_i a ha
      rw [ha] at this
      have := this a (by simp)
      obtain ⟨f', c', l'⟩ := a
      exact fun hk => absurd hk this
    · exact fun _ => this
  · rename_i hk
    exact fun hk' => absurd hk' hk

theorem flatOk_againN : ∀ n : Nd, flatOk (againN n) := by
  have key : ∀ (k : Nat) (n : Nd), sizeN n ≤ k → flatOk (againN n) := by
    intro k
    induction k with
    | zero => intro n h; obtain ⟨f, c, l⟩ := n; rw [sizeN] at h; omega
    | succ k ih =>
      intro n h
      obtain ⟨f, c, l⟩ := n
      rw [againN]
      apply flatOk_flatN
      rw [againNs_map]
      intro x hx
      obtain ⟨y, hy, rfl⟩ := List.mem_map.1 hx
      have hs : ∀ (l : List Nd) (y : Nd), y ∈ l → sizeN y ≤ sizeNs l := by
        intro l
        induction l with
        | nil => intro y hy; simp at hy
        | cons a l ih =>
          intro y hy
          rw [sizeNs]
          rcases List.mem_cons.1 hy with rfl | hy
          · omega
          · have := ih y hy; omega
      have := hs l y hy
      rw [sizeN] at h
      exact ih y (by omega)
  exact fun n => key _ n (Nat.le_refl _)

theorem sizeN_mem : ∀ {l : List Nd} {y : Nd}, y ∈ l → sizeN y ≤ sizeNs l
  | [], y, hy => by simp at hy
  | a :: l, y, hy => by
    rw [sizeNs]
    rcases List.mem_cons.1 hy with rfl | hy
    · omega
    · have := sizeN_mem hy; omega

theorem flatOk_simpN : ∀ n : Nd, flatOk (simpN n) := by
  have key : ∀ (k : Nat) (n : Nd), sizeN n ≤ k → flatOk (simpN n) := by
    intro k
    induction k with
    | zero => intro n h; obtain ⟨f, c, l⟩ := n; rw [sizeN] at h; omega
    | succ k ih =>
      intro n h
      obtain ⟨f, c, l⟩ := n
      rw [simpN]
      apply flatOk_flatN
      rw [simpNs_map]
      intro x hx
      obtain ⟨y, hy, rfl⟩ := List.mem_map.1 hx
      have := sizeN_mem hy
      rw [sizeN] at h
      split
      · exact flatOk_againN _
      · exact ih y (by omega)
  exact fun n => key _ n (Nat.le_refl _)

end Go.Ab

namespace Go.Ab
open Go.RowKit Go.Proofs

theorem fldP {off n m : Nat} {c : List AV} {H : AH} {nx : Nat} : fldaddrR off n (encP m c) H nx = ⟨off + n ≤ m, True, .iptr n (fun j => c.getD (off + j) .undef), H, nx⟩ := rfl
theorem encX_len : ∀ {e : Ex}, (encX e).length = 5
  | .mk _ _ _ _ _ => by rw [encX_eq]; rfl
theorem encN_len : ∀ {e : Nd}, (encN e).length = 5
  | .mk _ _ _ => by rw [encN_eq]; rfl
theorem encX_five : ∀ {e : Ex}, [(encX e).getD 0 .undef, (encX e).getD 1 .undef, (encX e).getD 2 .undef, (encX e).getD 3 .undef, (encX e).getD 4 .undef] = encX e
  | .mk _ _ _ _ _ => by rw [encX_eq]; rfl
theorem encN_five : ∀ {e : Nd}, [(encN e).getD 0 .undef, (encN e).getD 1 .undef, (encN e).getD 2 .undef, (encN e).getD 3 .undef, (encN e).getD 4 .undef] = encN e
  | .mk _ _ _ => by rw [encN_eq]; rfl
theorem encX_flat : ∀ {e : Ex}, allFlat (encX e) = true
  | .mk _ _ _ _ _ => by rw [encX_eq]; rfl
theorem encN_flat : ∀ {e : Nd}, allFlat (encN e) = true
  | .mk _ _ _ => by rw [encN_eq]; rfl

theorem flX {r : List AV} (h : r.all AV.flat = true) : ∀ {e : Ex}, (AV.agg (encX e) :: r).all AV.flat = true
  | .mk _ _ _ _ _ => by rw [encX_eq, List.all_cons, h]; rfl
theorem flN {r : List AV} (h : r.all AV.flat = true) : ∀ {e : Nd}, (AV.agg (encN e) :: r).all AV.flat = true
  | .mk _ _ _ => by rw [encN_eq, List.all_cons, h]; rfl

mutual
def sizeX : Ex → Nat
  | .mk _ _ _ _ l => 1 + sizeXs l
def sizeXs : List Ex → Nat
  | [] => 0
  | e :: l => sizeX e + sizeXs l
end
theorem sizeX_mem : ∀ {l : List Ex} {y : Ex}, y ∈ l → sizeX y ≤ sizeXs l
  | [], y, hy => by simp at hy
  | a :: l, y, hy => by
    rw [sizeXs]
    rcases List.mem_cons.1 hy with rfl | hy
    · omega
    · have := sizeX_mem hy; omega

mutual
theorem nodesX_range : ∀ (e : Ex) (m n : Int), -1 ≤ n → -1 ≤ nodesX e m n ∧ (nodesX e m n ≤ n)
  | .mk _ _ _ _ l, m, n, h => by
    rw [nodesX]
    split
    · omega
    · rename_i hc
      have := nodesXs_range l (m - 1) (n - 1) (by omega)
      omega
theorem nodesXs_range : ∀ (l : List Ex) (m n : Int), -1 ≤ n → -1 ≤ nodesXs l m n ∧ nodesXs l m n ≤ n
  | [], m, n, h => by rw [nodesXs]; omega
  | e :: l, m, n, h => by
    rw [nodesXs]
    split
    · omega
    · have h1 := nodesX_range e m n h
      have := nodesXs_range l m _ h1.1
      omega
end

theorem nodesXs_step {l : List Ex} {i : Nat} {m n : Int} (h : i < l.length) (hn : 0 ≤ n) : nodesXs (l.drop i) m n = nodesXs (l.drop (i + 1)) m (nodesX l[i] m n) := by
  rw [List.drop_eq_getElem_cons h, nodesXs, if_neg (by omega)]
theorem nodesXs_neg {l : List Ex} {m n : Int} (hn : n < 0) : nodesXs l m n = n := by
  cases l with
  | nil => rw [nodesXs]
  | cons a l => rw [nodesXs, if_pos hn]

theorem L19_Nodes_ok : ∀ (k : Nat) (e : Ex) (m n : Int), sizeX e ≤ k → -1000 ≤ m → m ≤ 1000 → -1 ≤ n → n ≤ 1000 → PureFn Tryz.prog f_L19_Nodes [.agg (encX e), .int .i64 m, .int .i64 n] (· = .int .i64 (nodesX e m n)) := by
  intro k
  induction k with
  | zero => intro e m n h; obtain ⟨_, _, _, _, l⟩ := e; rw [sizeX] at h; omega
  | succ k ih =>
  intro e m n hk h1 h2 h3 h4
  obtain ⟨op, nn, v, w, l⟩ := e
  refine fn_x cf_L19_Nodes rfl ?_
  unfold ac_L19_Nodes
  have hB : big = 9223372036854775807 := rfl
  rw [sizeX] at hk
  have hR := nodesX_range (.mk op nn v w l) m n h3
  rw [nodesX] at hR ⊢
  generalize hE : encX (.mk op nn v w l) = E
  rw [encX_eq] at hE
  subst hE
  by_cases c1 : m < 1
  · rw [if_pos (.inl c1)]
    (repeat (first | (simp (disch := first | exact dis1 | fail) only [evA, Nat.reduceBEq, Nat.reduceAdd, Nat.reduceLeDiff, boxR, rboxR, allocR, fldR, binI, unR, pickR, mknilR, mkslR, buildSlR, buildR, extR, convI, eqB, evU, wrap64, dT, rs_L19_Nodes]) | (with_reducible intro _) | ((with_reducible apply And.intro); omega)))
    exact ⟨_, .int _ _ _, rfl⟩
  by_cases c2 : n < 1
  · rw [if_pos (.inr (.inl c2))]
    (repeat (first | (simp (disch := first | exact dis1 | fail) only [evA, Nat.reduceBEq, Nat.reduceAdd, Nat.reduceLeDiff, boxR, rboxR, allocR, fldR, binI, unR, pickR, mknilR, mkslR, buildSlR, buildR, extR, convI, eqB, evU, wrap64, dT, dF, rs_L19_Nodes]) | (with_reducible intro _) | ((with_reducible apply And.intro); omega)))
    exact ⟨_, .int _ _ _, rfl⟩
  by_cases c3 : 4 < l.length
  · rw [if_pos (.inr (.inr c3))]
    (repeat (first | (simp (disch := first | exact dis1 | fail) only [evA, Nat.reduceBEq, Nat.reduceAdd, Nat.reduceLeDiff, boxR, rboxR, allocR, fldR, binI, unR, pickR, mknilR, mkslR, buildSlR, buildR, extR, convI, eqB, evU, wrap64, dT, dF, rs_L19_Nodes]) | (with_reducible intro _) | ((with_reducible apply And.intro); omega)))
    exact ⟨_, .int _ _ _, rfl⟩
  rw [if_neg (by omega)] at hR ⊢
  (repeat (first | (simp (disch := first | exact dis1 | fail) only [evA, Nat.reduceBEq, Nat.reduceAdd, Nat.reduceLeDiff, boxR, rboxR, allocR, fldR, binI, unR, pickR, mknilR, mkslR, buildSlR, buildR, extR, convI, eqB, evU, wrap64, dF]) | (with_reducible intro _) | ((with_reducible apply And.intro); omega)))
  generalize hG : nodesXs l (m - 1) (n - 1) = R at hR ⊢
  refine loopX_intro (fun s : Nat × Int => ([(1, .int .i64 m), (3, encP 5 [.int .i64 op, .int .u32 nn, .int .i64 v, .int .i64 w, encL 5 encX l]), (7, .int .i64 s.2), (8, .int .i64 s.1)], [])) 0 (fun s => s.1 ≤ l.length ∧ -1 ≤ s.2 ∧ s.2 ≤ n ∧ nodesXs (l.drop s.1) (m - 1) s.2 = R) (fun s => l.length - s.1) (0, n - 1) ⟨Nat.zero_le _, by simp only; omega, by simp only; omega, hG⟩ (Ent.keep rfl (by (try simp [subK, Kn.get, beq_eq]) <;> (repeat' with_reducible apply And.intro) <;> first | rfl | omega | (simp; done))) ?_
  rintro ⟨i, x⟩ ⟨hi, hx1, hx2, hgo⟩ wf
  simp only at hi hx1 hx2 hgo
  unfold ac_L19_Nodes_l0
  by_cases hl : i < l.length
  · by_cases hx : 0 ≤ x
    · rw [nodesXs_step hl hx] at hgo
      have hm := sizeX_mem (List.getElem_mem hl)
      have hr := nodesX_range l[i] (m - 1) x hx1
      (repeat (first | (simp (disch := first | exact dis1 | fail) only [evA, Nat.reduceBEq, Nat.reduceAdd, Nat.reduceLeDiff, boxR, rboxR, allocR, fldR, binI, unR, pickR, mknilR, mkslR, buildSlR, buildR, extR, convI, eqB, evU, wrap64, fldP, dT, dF, getD_map hl, encX_len, encX_five]) | (with_reducible intro _) | ((with_reducible apply And.intro); omega)))
      refine callX_fix (call_flat (ih l[i] (m - 1) x (by omega) (by omega) (by omega) (by omega) (by omega)) (flX rfl)) ?_
      (repeat (first | (simp (disch := first | exact dis1 | fail) only [evA, Nat.reduceBEq, Nat.reduceAdd, Nat.reduceLeDiff, boxR, rboxR, allocR, fldR, binI, unR, pickR, mknilR, mkslR, buildSlR, buildR, extR, convI, eqB, evU, wrap64]) | (with_reducible intro _) | ((with_reducible apply And.intro); omega)))
      exact ⟨(i + 1, nodesX l[i] (m - 1) x), ⟨by simp only; omega, by simp only; omega, by simp only; omega, hgo⟩, by simp only; omega, Ent.keep rfl (by (try simp [subK, Kn.get, beq_eq]) <;> (repeat' with_reducible apply And.intro) <;> first | rfl | omega | (simp; done))⟩
    · rw [nodesXs_neg (by omega)] at hgo
      subst hgo
      (repeat (first | (simp (disch := first | exact dis1 | fail) only [evA, Nat.reduceBEq, Nat.reduceAdd, Nat.reduceLeDiff, boxR, rboxR, allocR, fldR, binI, unR, pickR, mknilR, mkslR, buildSlR, buildR, extR, convI, eqB, evU, wrap64, fldP, dT, dF]) | (with_reducible intro _) | ((with_reducible apply And.intro); omega)))
      unfold ac_L19_Nodes_k1
      (repeat (first | (simp (disch := first | exact dis1 | fail) only [evA, Nat.reduceBEq, Nat.reduceAdd, Nat.reduceLeDiff, boxR, rboxR, allocR, fldR, binI, unR, pickR, mknilR, mkslR, buildSlR, buildR, extR, convI, eqB, evU, wrap64, rs_L19_Nodes]) | (with_reducible intro _) | ((with_reducible apply And.intro); omega)))
      exact ⟨_, .int _ _ _, rfl⟩
  · rw [List.drop_of_length_le (by omega), nodesXs] at hgo
    subst hgo
    (repeat (first | (simp (disch := first | exact dis1 | fail) only [evA, Nat.reduceBEq, Nat.reduceAdd, Nat.reduceLeDiff, boxR, rboxR, allocR, fldR, binI, unR, pickR, mknilR, mkslR, buildSlR, buildR, extR, convI, eqB, evU, wrap64, fldP, dT, dF]) | (with_reducible intro _) | ((with_reducible apply And.intro); omega)))
    unfold ac_L19_Nodes_k1
    (repeat (first | (simp (disch := first | exact dis1 | fail) only [evA, Nat.reduceBEq, Nat.reduceAdd, Nat.reduceLeDiff, boxR, rboxR, allocR, fldR, binI, unR, pickR, mknilR, mkslR, buildSlR, buildR, extR, convI, eqB, evU, wrap64, rs_L19_Nodes]) | (with_reducible intro _) | ((with_reducible apply And.intro); omega)))
    exact ⟨_, .int _ _ _, rfl⟩

theorem condsOk_step {l : List Ex} {i : Nat} (h : i < l.length) : condsOk (l.drop i) = if nodesX l[i] 70 200 < 0 then false else condsOk (l.drop (i + 1)) := by
  rw [List.drop_eq_getElem_cons h, condsOk]

mutual
theorem weightN_range : ∀ (e : Nd) (n : Int), -1 ≤ n → -2 ≤ weightN e n ∧ weightN e n ≤ max n (-1)
  | .mk _ _ l, n, h => by
    rw [weightN]
    split
    · omega
    · have := weightNs_range l (n - 1) (by omega)
      omega
theorem weightNs_range : ∀ (l : List Nd) (n : Int), -2 ≤ n → -2 ≤ weightNs l n ∧ weightNs l n ≤ max n (-1)
  | [], n, h => by rw [weightNs]; omega
  | e :: l, n, h => by
    rw [weightNs]
    split
    · omega
    · have h1 := weightN_range e n (by omega)
      have := weightNs_range l _ h1.1
      omega
end
theorem weightNs_step {l : List Nd} {i : Nat} {n : Int} (h : i < l.length) (hn : 0 ≤ n) : weightNs (l.drop i) n = weightNs (l.drop (i + 1)) (weightN l[i] n) := by
  rw [List.drop_eq_getElem_cons h, weightNs, if_neg (by omega)]
theorem weightNs_neg {l : List Nd} {n : Int} (hn : n < 0) : weightNs l n = n := by
  cases l with
  | nil => rw [weightNs]
  | cons a l => rw [weightNs, if_pos hn]

theorem L36_weight_ok : ∀ (k : Nat) (e : Nd) (n : Int), sizeN e ≤ k → -1 ≤ n → n ≤ 1000 → PureFn Tryz.prog f_L36_weight [.agg (encN e), .int .i64 n] (· = .int .i64 (weightN e n)) := by
  intro k
  induction k with
  | zero => intro e n h; obtain ⟨_, _, l⟩ := e; rw [sizeN] at h; omega
  | succ k ih =>
  intro e n hk h3 h4
  obtain ⟨⟨kd, bl, lb⟩, c, l⟩ := e
  refine fn_x cf_L36_weight rfl ?_
  unfold ac_L36_weight
  have hB : big = 9223372036854775807 := rfl
  rw [sizeN] at hk
  rw [weightN]
  generalize hE : encN (.mk ⟨kd, bl, lb⟩ c l) = E
  rw [encN_eq] at hE
  simp only at hE
  subst hE
  by_cases c1 : 3 < c.length
  · rw [if_pos (.inl c1)]
    (repeat (first | (simp (disch := first | exact dis1 | fail) only [evA, Nat.reduceBEq, Nat.reduceAdd, Nat.reduceLeDiff, boxR, rboxR, allocR, fldR, binI, unR, pickR, mknilR, mkslR, buildSlR, buildR, extR, convI, eqB, evU, wrap64, dT, rs_L36_weight]) | (with_reducible intro _) | ((with_reducible apply And.intro); omega)))
    exact ⟨_, .int _ _ _, rfl⟩
  (repeat (first | (simp (disch := first | exact dis1 | fail) only [evA, Nat.reduceBEq, Nat.reduceAdd, Nat.reduceLeDiff, boxR, rboxR, allocR, fldR, binI, unR, pickR, mknilR, mkslR, buildSlR, buildR, extR, convI, eqB, evU, wrap64, dF]) | (with_reducible intro _) | ((with_reducible apply And.intro); omega)))
  generalize hR : (if 3 < c.length ∨ condsOk c = false then -1 else weightNs l (n - 1)) = R
  refine loopX_intro (fun i : Nat => ([(1, .int .i64 (n - 1)), (2, encP 5 [.int .i64 kd, .int .i64 bl, .int .i64 lb, encL 5 encX c, encL 5 encN l]), (5, .int .i64 i)], [])) 0 (fun i => i ≤ c.length ∧ condsOk (c.drop i) = condsOk c) (fun i => c.length - i) 0 ⟨Nat.zero_le _, rfl⟩ (Ent.keep rfl (by (try simp [subK, Kn.get, beq_eq]) <;> (repeat' with_reducible apply And.intro) <;> first | rfl | omega | (simp; done))) ?_
  rintro i ⟨hi, hgo⟩ wf
  unfold ac_L36_weight_l0
  by_cases hl : i < c.length
  · rw [condsOk_step hl] at hgo
    (repeat (first | (simp (disch := first | exact dis1 | fail) only [evA, Nat.reduceBEq, Nat.reduceAdd, Nat.reduceLeDiff, boxR, rboxR, allocR, fldR, binI, unR, pickR, mknilR, mkslR, buildSlR, buildR, extR, convI, eqB, evU, wrap64, fldP, dT, dF, getD_map hl, encX_len, encX_five]) | (with_reducible intro _) | ((with_reducible apply And.intro); omega)))
    refine callX_fix (call_flat (L19_Nodes_ok _ c[i] 70 200 (Nat.le_refl _) (by omega) (by omega) (by omega) (by omega)) (flX rfl)) ?_
    (repeat (first | (simp (disch := first | exact dis1 | fail) only [evA, Nat.reduceBEq, Nat.reduceAdd, Nat.reduceLeDiff, boxR, rboxR, allocR, fldR, binI, unR, pickR, mknilR, mkslR, buildSlR, buildR, extR, convI, eqB, evU, wrap64]) | (with_reducible intro _) | ((with_reducible apply And.intro); omega)))
    (refine condX_intro (fun h => ?_) (fun h => ?_)) <;> (try simp only [decide_eq_true_eq, decide_eq_false_iff_not, Bool.not_eq_true', Bool.not_eq_false', Bool.and_eq_true, Bool.or_eq_true, not_true_eq_false, not_false_eq_true] at h)
    · rw [if_pos h] at hgo
      rw [if_pos (.inr hgo.symm)] at hR
      rw [← hR]
      (repeat (first | (simp (disch := first | exact dis1 | fail) only [evA, Nat.reduceBEq, Nat.reduceAdd, Nat.reduceLeDiff, boxR, rboxR, allocR, fldR, binI, unR, pickR, mknilR, mkslR, buildSlR, buildR, extR, convI, eqB, evU, wrap64, rs_L36_weight]) | (with_reducible intro _) | ((with_reducible apply And.intro); omega)))
      exact ⟨_, .int _ _ _, rfl⟩
    · rw [if_neg (by omega)] at hgo
      (repeat (first | (simp (disch := first | exact dis1 | fail) only [evA, Nat.reduceBEq, Nat.reduceAdd, Nat.reduceLeDiff, boxR, rboxR, allocR, fldR, binI, unR, pickR, mknilR, mkslR, buildSlR, buildR, extR, convI, eqB, evU, wrap64]) | (with_reducible intro _) | ((with_reducible apply And.intro); omega)))
      exact ⟨i + 1, ⟨by omega, hgo⟩, by omega, Ent.keep rfl (by (try simp [subK, Kn.get, beq_eq]) <;> (repeat' with_reducible apply And.intro) <;> first | rfl | omega | (simp; done))⟩
  · rw [List.drop_of_length_le (by omega), condsOk] at hgo
    rw [if_neg (by rw [← hgo]; simp [c1])] at hR
    (repeat (first | (simp (disch := first | exact dis1 | fail) only [evA, Nat.reduceBEq, Nat.reduceAdd, Nat.reduceLeDiff, boxR, rboxR, allocR, fldR, binI, unR, pickR, mknilR, mkslR, buildSlR, buildR, extR, convI, eqB, evU, wrap64, fldP, dT, dF]) | (with_reducible intro _) | ((with_reducible apply And.intro); omega)))
    unfold ac_L36_weight_k3
    (repeat (first | (simp (disch := first | exact dis1 | fail) only [evA, Nat.reduceBEq, Nat.reduceAdd, Nat.reduceLeDiff, boxR, rboxR, allocR, fldR, binI, unR, pickR, mknilR, mkslR, buildSlR, buildR, extR, convI, eqB, evU, wrap64]) | (with_reducible intro _) | ((with_reducible apply And.intro); omega)))
    have hwr : R = weightNs l (n - 1) := hR.symm
    refine loopX_intro (fun s : Nat × Int => ([(1, .int .i64 s.2), (2, encP 5 [.int .i64 kd, .int .i64 bl, .int .i64 lb, encL 5 encX c, encL 5 encN l]), (6, .int .i64 s.1)], [])) 0 (fun s => s.1 ≤ l.length ∧ -2 ≤ s.2 ∧ s.2 ≤ 1000 ∧ weightNs (l.drop s.1) s.2 = R) (fun s => l.length - s.1) (0, n - 1) ⟨Nat.zero_le _, by simp only; omega, by simp only; omega, hR⟩ (Ent.keep rfl (by (try simp [subK, Kn.get, beq_eq]) <;> (repeat' with_reducible apply And.intro) <;> first | rfl | omega | (simp; done))) ?_
    rintro ⟨j, x⟩ ⟨hj, hx1, hx2, hgo2⟩ wf2
    simp only at hj hx1 hx2 hgo2
    unfold ac_L36_weight_l1
    by_cases hjl : j < l.length
    · by_cases hx : 0 ≤ x
      · rw [weightNs_step hjl hx] at hgo2
        have hm := sizeN_mem (List.getElem_mem hjl)
        have hr := weightN_range l[j] x (by omega)
        (repeat (first | (simp (disch := first | exact dis1 | fail) only [evA, Nat.reduceBEq, Nat.reduceAdd, Nat.reduceLeDiff, boxR, rboxR, allocR, fldR, binI, unR, pickR, mknilR, mkslR, buildSlR, buildR, extR, convI, eqB, evU, wrap64, fldP, dT, dF, getD_map hjl, encN_len, encN_five]) | (with_reducible intro _) | ((with_reducible apply And.intro); omega)))
        refine callX_fix (call_flat (ih l[j] x (by omega) (by omega) (by omega)) (flN rfl)) ?_
        (repeat (first | (simp (disch := first | exact dis1 | fail) only [evA, Nat.reduceBEq, Nat.reduceAdd, Nat.reduceLeDiff, boxR, rboxR, allocR, fldR, binI, unR, pickR, mknilR, mkslR, buildSlR, buildR, extR, convI, eqB, evU, wrap64]) | (with_reducible intro _) | ((with_reducible apply And.intro); omega)))
        exact ⟨(j + 1, weightN l[j] x), ⟨by simp only; omega, by simp only; omega, by simp only; omega, hgo2⟩, by simp only; omega, Ent.keep rfl (by (try simp [subK, Kn.get, beq_eq]) <;> (repeat' with_reducible apply And.intro) <;> first | rfl | omega | (simp; done))⟩
      · rw [weightNs_neg (by omega)] at hgo2
        subst hgo2
        (repeat (first | (simp (disch := first | exact dis1 | fail) only [evA, Nat.reduceBEq, Nat.reduceAdd, Nat.reduceLeDiff, boxR, rboxR, allocR, fldR, binI, unR, pickR, mknilR, mkslR, buildSlR, buildR, extR, convI, eqB, evU, wrap64, fldP, dT, dF]) | (with_reducible intro _) | ((with_reducible apply And.intro); omega)))
        unfold ac_L36_weight_k2
        (repeat (first | (simp (disch := first | exact dis1 | fail) only [evA, Nat.reduceBEq, Nat.reduceAdd, Nat.reduceLeDiff, boxR, rboxR, allocR, fldR, binI, unR, pickR, mknilR, mkslR, buildSlR, buildR, extR, convI, eqB, evU, wrap64, rs_L36_weight]) | (with_reducible intro _) | ((with_reducible apply And.intro); omega)))
        exact ⟨_, .int _ _ _, rfl⟩
    · rw [List.drop_of_length_le (by omega), weightNs] at hgo2
      subst hgo2
      (repeat (first | (simp (disch := first | exact dis1 | fail) only [evA, Nat.reduceBEq, Nat.reduceAdd, Nat.reduceLeDiff, boxR, rboxR, allocR, fldR, binI, unR, pickR, mknilR, mkslR, buildSlR, buildR, extR, convI, eqB, evU, wrap64, fldP, dT, dF]) | (with_reducible intro _) | ((with_reducible apply And.intro); omega)))
      unfold ac_L36_weight_k2
      (repeat (first | (simp (disch := first | exact dis1 | fail) only [evA, Nat.reduceBEq, Nat.reduceAdd, Nat.reduceLeDiff, boxR, rboxR, allocR, fldR, binI, unR, pickR, mknilR, mkslR, buildSlR, buildR, extR, convI, eqB, evU, wrap64, rs_L36_weight]) | (with_reducible intro _) | ((with_reducible apply And.intro); omega)))
      exact ⟨_, .int _ _ _, rfl⟩

def smallN (e : Nd) : Bool := decide (weightN e 300 ≥ 0)

theorem L36_small_ok (e : Nd) : PureFn Tryz.prog f_L36_small [.agg (encN e)] (· = .bool (smallN e)) := by
  refine fn_x cf_L36_small rfl ?_
  unfold ac_L36_small
  have hB : big = 9223372036854775807 := rfl
  have h1 := encN_len (e := e)
  (repeat (first | (simp (disch := first | exact dis1 | fail) only [evA, Nat.reduceBEq, Nat.reduceAdd, Nat.reduceLeDiff, boxR, rboxR, allocR, fldR, binI, unR, pickR, mknilR, mkslR, buildSlR, buildR, extR, convI, eqB, evU, wrap64, encN_len, encN_flat, encN_five]) | (with_reducible intro _) | ((with_reducible apply And.intro); omega)))
  refine callX_fix (call_flat (L36_weight_ok _ e 300 (Nat.le_refl _) (by omega) (by omega)) (flN rfl)) ?_
  (repeat (first | (simp (disch := first | exact dis1 | fail) only [evA, Nat.reduceBEq, Nat.reduceAdd, Nat.reduceLeDiff, boxR, rboxR, allocR, fldR, binI, unR, pickR, mknilR, mkslR, buildSlR, buildR, extR, convI, eqB, evU, wrap64, rs_L36_small]) | (with_reducible intro _) | ((with_reducible apply And.intro); omega)))
  exact ⟨_, .bool _ _, rfl⟩

end Go.Ab

namespace Go.Ab
open Go.RowKit Go.Proofs

def One (p : NdF → List Int) : Prop := ∀ f, (p f).length ≤ 1
theorem labP_one : One labP := fun f => by unfold labP; split <;> simp
theorem blkP_one : One blkP := fun f => by unfold blkP; split <;> simp
theorem gotoP_one : One gotoP := fun f => by unfold gotoP; split <;> simp

mutual
theorem coll_len {p : NdF → List Int} (h : One p) : ∀ n : Nd, (coll p n).length ≤ sizeN n
  | .mk f _ l => by rw [coll, List.length_append, sizeN]; have := h f; have := colls_len h l; omega
theorem colls_len {p : NdF → List Int} (h : One p) : ∀ l : List Nd, (colls p l).length ≤ sizeNs l
  | [] => by rw [colls]; simp
  | x :: l => by rw [colls, List.length_append, sizeNs]; have := coll_len h x; have := colls_len h l; omega
end

theorem elsOf_ints {l : List Int} {H : AH} : elsOf 1 (encL 1 (fun n => [.int .i64 n]) l) H = some (l.map cI) := elsOf_encL (fun _ _ => rfl)

theorem colls_step {p : NdF → List Int} {l : List Nd} {i : Nat} (h : i < l.length) : colls p (l.drop i) = coll p l[i] ++ colls p (l.drop (i + 1)) := by
  rw [List.drop_eq_getElem_cons h, colls]

theorem R36_Gotos_ok : ∀ (k : Nat) (e : Nd), sizeN e ≤ k → k ≤ 1000 → PureFn Tryz.prog f_R36_Gotos [.agg (encN e)] (· = .int .i64 (coll gotoP e).length) := by
  intro k
  induction k with
  | zero => intro e h; obtain ⟨_, _, l⟩ := e; rw [sizeN] at h; omega
  | succ k ih =>
  intro e hk hk2
  have hlen := coll_len gotoP_one e
  obtain ⟨⟨kd, bl, lb⟩, c, l⟩ := e
  refine fn_x cf_R36_Gotos rfl ?_
  unfold ac_R36_Gotos
  have hB : big = 9223372036854775807 := rfl
  rw [sizeN] at hk hlen
  rw [coll] at hlen ⊢
  generalize hE : encN (.mk ⟨kd, bl, lb⟩ c l) = E
  rw [encN_eq] at hE
  simp only at hE
  subst hE
  generalize hR : (((gotoP ⟨kd, bl, lb⟩ ++ colls gotoP l).length : Nat) : Int) = R
  rw [List.length_append] at hR hlen
  have body : ∀ n0 : Nat, (gotoP ⟨kd, bl, lb⟩).length = n0 → n0 ≤ 1 → loopX Tryz.prog 0 ac_R36_Gotos_l0 (blockQ 0 (seqQ Tryz.prog 0 ac_R36_Gotos_k1 (retK rs_R36_Gotos fun v H' x => ∃ a, Frz H' v a ∧ a = .int .i64 R))) [(1, encP 5 [.int .i64 kd, .int .i64 bl, .int .i64 lb, encL 5 encX c, encL 5 encN l]), (3, .int .i64 n0), (4, .int .i64 0)] [] 0 := by
    intro n0 hn0 hn1
    refine loopX_intro (fun s : Nat × Nat => ([(1, encP 5 [.int .i64 kd, .int .i64 bl, .int .i64 lb, encL 5 encX c, encL 5 encN l]), (3, .int .i64 s.2), (4, .int .i64 s.1)], [])) 0 (fun s => s.1 ≤ l.length ∧ ((s.2 + (colls gotoP (l.drop s.1)).length : Nat) : Int) = R) (fun s => l.length - s.1) (0, n0) ⟨Nat.zero_le _, by simp only [List.drop_zero]; omega⟩ (Ent.keep rfl (by (try simp [subK, Kn.get, beq_eq]) <;> (repeat' with_reducible apply And.intro) <;> first | rfl | omega | (simp; done))) ?_
    rintro ⟨i, x⟩ ⟨hi, hgo⟩ wf
    simp only at hi hgo
    unfold ac_R36_Gotos_l0
    by_cases hl : i < l.length
    · have hm := sizeN_mem (List.getElem_mem hl)
      rw [colls_step hl, List.length_append] at hgo
      (repeat (first | (simp (disch := first | exact dis1 | fail) only [evA, Nat.reduceBEq, Nat.reduceAdd, Nat.reduceLeDiff, boxR, rboxR, allocR, fldR, binI, unR, pickR, mknilR, mkslR, buildSlR, buildR, extR, convI, eqB, evU, wrap64, fldP, dT, getD_map hl, encN_len, encN_five]) | (with_reducible intro _) | ((with_reducible apply And.intro); omega)))
      refine callX_fix (call_flat (ih l[i] (by omega) (by omega)) (flN rfl)) ?_
      (repeat (first | (simp (disch := first | exact dis1 | fail) only [evA, Nat.reduceBEq, Nat.reduceAdd, Nat.reduceLeDiff, boxR, rboxR, allocR, fldR, binI, unR, pickR, mknilR, mkslR, buildSlR, buildR, extR, convI, eqB, evU, wrap64]) | (with_reducible intro _) | ((with_reducible apply And.intro); omega)))
      exact ⟨(i + 1, x + (coll gotoP l[i]).length), ⟨by simp only; omega, by simp only; omega⟩, by simp only; omega, Ent.keep rfl (by (try simp [subK, Kn.get, beq_eq]) <;> (repeat' with_reducible apply And.intro) <;> first | rfl | omega | (simp; done))⟩
    · rw [List.drop_of_length_le (by omega), colls] at hgo
      simp only [List.length_nil, Nat.add_zero] at hgo
      subst hgo
      (repeat (first | (simp (disch := first | exact dis1 | fail) only [evA, Nat.reduceBEq, Nat.reduceAdd, Nat.reduceLeDiff, boxR, rboxR, allocR, fldR, binI, unR, pickR, mknilR, mkslR, buildSlR, buildR, extR, convI, eqB, evU, wrap64, fldP, dF]) | (with_reducible intro _) | ((with_reducible apply And.intro); omega)))
      unfold ac_R36_Gotos_k1
      (repeat (first | (simp (disch := first | exact dis1 | fail) only [evA, Nat.reduceBEq, Nat.reduceAdd, Nat.reduceLeDiff, boxR, rboxR, allocR, fldR, binI, unR, pickR, mknilR, mkslR, buildSlR, buildR, extR, convI, eqB, evU, wrap64, rs_R36_Gotos]) | (with_reducible intro _) | ((with_reducible apply And.intro); omega)))
      exact ⟨_, .int _ _ _, rfl⟩
  (repeat (first | (simp (disch := first | exact dis1 | fail) only [evA, Nat.reduceBEq, Nat.reduceAdd, Nat.reduceLeDiff, boxR, rboxR, allocR, fldR, binI, unR, pickR, mknilR, mkslR, buildSlR, buildR, extR, convI, eqB, evU, wrap64, fldP]) | (with_reducible intro _) | ((with_reducible apply And.intro); omega)))
  have hg : gotoP ⟨kd, bl, lb⟩ = if kd = 9 then [lb] else [] := rfl
  by_cases h9 : kd = 9
  · (repeat (first | (simp (disch := first | exact dis1 | fail) only [evA, Nat.reduceBEq, Nat.reduceAdd, Nat.reduceLeDiff, boxR, rboxR, allocR, fldR, binI, unR, pickR, mknilR, mkslR, buildSlR, buildR, extR, convI, eqB, evU, wrap64, dT]) | (with_reducible intro _) | ((with_reducible apply And.intro); omega)))
    rw [if_pos h9] at hg
    exact body 1 (by rw [hg]; rfl) (Nat.le_refl _)
  · (repeat (first | (simp (disch := first | exact dis1 | fail) only [evA, Nat.reduceBEq, Nat.reduceAdd, Nat.reduceLeDiff, boxR, rboxR, allocR, fldR, binI, unR, pickR, mknilR, mkslR, buildSlR, buildR, extR, convI, eqB, evU, wrap64, dF]) | (with_reducible intro _) | ((with_reducible apply And.intro); omega)))
    rw [if_neg h9] at hg
    exact body 0 (by rw [hg]; rfl) (Nat.zero_le _)

theorem R36_Labels_ok : ∀ (k : Nat) (e : Nd), sizeN e ≤ k → k ≤ 1000 → PureFn Tryz.prog f_R36_Labels [.agg (encN e)] (· = encInts (coll labP e)) := by
  intro k
  induction k with
  | zero => intro e h; obtain ⟨_, _, l⟩ := e; rw [sizeN] at h; omega
  | succ k ih =>
  intro e hk hk2
  have hlen := coll_len labP_one e
  obtain ⟨⟨kd, bl, lb⟩, c, l⟩ := e
  refine fn_x cf_R36_Labels rfl ?_
  unfold ac_R36_Labels
  have hB : big = 9223372036854775807 := rfl
  rw [sizeN] at hk hlen
  rw [coll] at hlen ⊢
  generalize hE : encN (.mk ⟨kd, bl, lb⟩ c l) = E
  rw [encN_eq] at hE
  simp only at hE
  subst hE
  generalize hR : labP ⟨kd, bl, lb⟩ ++ colls labP l = R at hlen ⊢
  have body : ∀ (x0 : List Int) (H : AH) (nx : Nat) (K : Kn), labP ⟨kd, bl, lb⟩ = x0 → Ent 0 K H nx [(1, encP 5 [.int .i64 kd, .int .i64 bl, .int .i64 lb, encL 5 encX c, encL 5 encN l]), (3, .own 0 0 0 0 x0.length), (4, .int .i64 0)] [(0, .row 1 (x0.map cI) 0)] 1 → loopX Tryz.prog 0 ac_R36_Labels_l0 (blockQ 0 (seqQ Tryz.prog 0 ac_R36_Labels_k1 (retK rs_R36_Labels fun v H' x => ∃ a, Frz H' v a ∧ a = encInts R))) K H nx := by
    intro x0 H nx K hx0 hent
    refine loopX_intro (fun s : Nat × List Int => ([(1, encP 5 [.int .i64 kd, .int .i64 bl, .int .i64 lb, encL 5 encX c, encL 5 encN l]), (3, .own 0 0 0 0 s.2.length), (4, .int .i64 s.1)], [(0, .row 1 (s.2.map cI) 0)])) 1 (fun s => s.1 ≤ l.length ∧ s.2 ++ colls labP (l.drop s.1) = R) (fun s => l.length - s.1) (0, x0) ⟨Nat.zero_le _, by rw [hx0] at hR; exact hR⟩ hent ?_
    rintro ⟨i, x⟩ ⟨hi, hgo⟩ wf
    simp only at hi hgo
    unfold ac_R36_Labels_l0
    by_cases hl : i < l.length
    · have hm := sizeN_mem (List.getElem_mem hl)
      rw [colls_step hl, ← List.append_assoc] at hgo
      have hlen2 := congrArg List.length hgo
      simp only [List.length_append] at hlen2
      (repeat (first | (simp (disch := first | exact dis1 | fail) only [evA, Nat.reduceBEq, Nat.reduceAdd, Nat.reduceLeDiff, boxR, rboxR, allocR, fldR, binI, unR, pickR, mknilR, mkslR, buildSlR, buildR, extR, convI, eqB, evU, wrap64, fldP, dT, getD_map hl, encN_len, encN_five]) | (with_reducible intro _) | ((with_reducible apply And.intro); omega)))
      refine callX_fix (call_flat (ih l[i] (by omega) (by omega)) (flN rfl)) ?_
      (repeat (first | (simp (disch := first | exact dis1 | fail) only [evA, Nat.reduceBEq, Nat.reduceAdd, Nat.reduceLeDiff, boxR, rboxR, allocR, fldR, binI, unR, pickR, mknilR, mkslR, buildSlR, buildR, extR, convI, eqB, evU, wrap64, encInts, elsOf_ints]) | (with_reducible intro _) | ((with_reducible apply And.intro); omega)))
      exact ⟨(i + 1, x ++ coll labP l[i]), ⟨by simp only; omega, hgo⟩, by simp only; omega, (Ent.tab [(0, 0, 1)] [] rfl (by (try simp only [evWA, Nat.reduceBEq, Nat.reduceAdd, Nat.reduceSub, Nat.reduceLeDiff, Nat.reduceLT, implies_true, and_self, Int.natCast_zero, Int.natCast_one, Int.cast_ofNat_Int, evV, encInts, encNats, encBools, encP, List.length_append, List.map_append]) <;> exact fin1) (by (try simp only [evWA, Nat.reduceBEq, Nat.reduceAdd, Nat.reduceSub, Nat.reduceLeDiff, Nat.reduceLT, implies_true, and_self, Int.natCast_zero, Int.natCast_one, Int.cast_ofNat_Int, evV, encInts, encNats, encBools, encP, List.length_append, List.map_append]) <;> exact fin1))⟩
    · rw [List.drop_of_length_le (by omega), colls, List.append_nil] at hgo
      subst hgo
      (repeat (first | (simp (disch := first | exact dis1 | fail) only [evA, Nat.reduceBEq, Nat.reduceAdd, Nat.reduceLeDiff, boxR, rboxR, allocR, fldR, binI, unR, pickR, mknilR, mkslR, buildSlR, buildR, extR, convI, eqB, evU, wrap64, fldP, dF]) | (with_reducible intro _) | ((with_reducible apply And.intro); omega)))
      unfold ac_R36_Labels_k1
      (repeat (first | (simp (disch := first | exact dis1 | fail) only [evA, Nat.reduceBEq, Nat.reduceAdd, Nat.reduceLeDiff, boxR, rboxR, allocR, fldR, binI, unR, pickR, mknilR, mkslR, buildSlR, buildR, extR, convI, eqB, evU, wrap64, rs_R36_Labels]) | (with_reducible intro _) | ((with_reducible apply And.intro); omega)))
      exact ⟨_, vw_ints (l := x) trivial rfl (by omega), rfl⟩
  (repeat (first | (simp (disch := first | exact dis1 | fail) only [evA, Nat.reduceBEq, Nat.reduceAdd, Nat.reduceLeDiff, boxR, rboxR, allocR, fldR, binI, unR, pickR, mknilR, mkslR, buildSlR, buildR, extR, convI, eqB, evU, wrap64, fldP]) | (with_reducible intro _) | ((with_reducible apply And.intro); omega)))
  have hg : labP ⟨kd, bl, lb⟩ = if kd = 10 then [lb] else [] := rfl
  by_cases h9 : kd = 10
  · (repeat (first | (simp (disch := first | exact dis1 | fail) only [evA, Nat.reduceBEq, Nat.reduceAdd, Nat.reduceLeDiff, boxR, rboxR, allocR, fldR, binI, unR, pickR, mknilR, mkslR, buildSlR, buildR, extR, convI, eqB, evU, wrap64, dT, fldP]) | (with_reducible intro _) | ((with_reducible apply And.intro); omega)))
    rw [if_pos h9] at hg
    exact body [lb] _ _ _ hg (Ent.tab [(0, 1, 1)] [] rfl (by (try simp only [evWA, Nat.reduceBEq, Nat.reduceAdd, Nat.reduceSub, Nat.reduceLeDiff, Nat.reduceLT, implies_true, and_self, Int.natCast_zero, Int.natCast_one, Int.cast_ofNat_Int, evV, encInts, encNats, encBools, encP]) <;> exact fin1) (by (try simp only [evWA, Nat.reduceBEq, Nat.reduceAdd, Nat.reduceSub, Nat.reduceLeDiff, Nat.reduceLT, implies_true, and_self, Int.natCast_zero, Int.natCast_one, Int.cast_ofNat_Int, evV, encInts, encNats, encBools, encP]) <;> exact fin1))
  · (repeat (first | (simp (disch := first | exact dis1 | fail) only [evA, Nat.reduceBEq, Nat.reduceAdd, Nat.reduceLeDiff, boxR, rboxR, allocR, fldR, binI, unR, pickR, mknilR, mkslR, buildSlR, buildR, extR, convI, eqB, evU, wrap64, dF]) | (with_reducible intro _) | ((with_reducible apply And.intro); omega)))
    rw [if_neg h9] at hg
    exact body [] _ _ _ hg (Ent.tab [(0, 1, 0)] [] rfl (by (try simp only [evWA, Nat.reduceBEq, Nat.reduceAdd, Nat.reduceSub, Nat.reduceLeDiff, Nat.reduceLT, implies_true, and_self, Int.natCast_zero, Int.natCast_one, Int.cast_ofNat_Int, evV, encInts, encNats, encBools, encP]) <;> exact fin1) (by (try simp only [evWA, Nat.reduceBEq, Nat.reduceAdd, Nat.reduceSub, Nat.reduceLeDiff, Nat.reduceLT, implies_true, and_self, Int.natCast_zero, Int.natCast_one, Int.cast_ofNat_Int, evV, encInts, encNats, encBools, encP]) <;> exact fin1))

theorem R36_Blocks_ok : ∀ (k : Nat) (e : Nd), sizeN e ≤ k → k ≤ 1000 → PureFn Tryz.prog f_R36_Blocks [.agg (encN e)] (· = encInts (coll blkP e)) := by
  intro k
  induction k with
  | zero => intro e h; obtain ⟨_, _, l⟩ := e; rw [sizeN] at h; omega
  | succ k ih =>
  intro e hk hk2
  have hlen := coll_len blkP_one e
  obtain ⟨⟨kd, bl, lb⟩, c, l⟩ := e
  refine fn_x cf_R36_Blocks rfl ?_
  unfold ac_R36_Blocks
  have hB : big = 9223372036854775807 := rfl
  rw [sizeN] at hk hlen
  rw [coll] at hlen ⊢
  generalize hE : encN (.mk ⟨kd, bl, lb⟩ c l) = E
  rw [encN_eq] at hE
  simp only at hE
  subst hE
  generalize hR : blkP ⟨kd, bl, lb⟩ ++ colls blkP l = R at hlen ⊢
  have body : ∀ (x0 : List Int) (H : AH) (nx : Nat) (K : Kn), blkP ⟨kd, bl, lb⟩ = x0 → Ent 0 K H nx [(1, encP 5 [.int .i64 kd, .int .i64 bl, .int .i64 lb, encL 5 encX c, encL 5 encN l]), (3, .own 0 0 0 0 x0.length), (4, .int .i64 0)] [(0, .row 1 (x0.map cI) 0)] 1 → loopX Tryz.prog 0 ac_R36_Blocks_l0 (blockQ 0 (seqQ Tryz.prog 0 ac_R36_Blocks_k1 (retK rs_R36_Blocks fun v H' x => ∃ a, Frz H' v a ∧ a = encInts R))) K H nx := by
    intro x0 H nx K hx0 hent
    refine loopX_intro (fun s : Nat × List Int => ([(1, encP 5 [.int .i64 kd, .int .i64 bl, .int .i64 lb, encL 5 encX c, encL 5 encN l]), (3, .own 0 0 0 0 s.2.length), (4, .int .i64 s.1)], [(0, .row 1 (s.2.map cI) 0)])) 1 (fun s => s.1 ≤ l.length ∧ s.2 ++ colls blkP (l.drop s.1) = R) (fun s => l.length - s.1) (0, x0) ⟨Nat.zero_le _, by rw [hx0] at hR; exact hR⟩ hent ?_
    rintro ⟨i, x⟩ ⟨hi, hgo⟩ wf
    simp only at hi hgo
    unfold ac_R36_Blocks_l0
    by_cases hl : i < l.length
    · have hm := sizeN_mem (List.getElem_mem hl)
      rw [colls_step hl, ← List.append_assoc] at hgo
      have hlen2 := congrArg List.length hgo
      simp only [List.length_append] at hlen2
      (repeat (first | (simp (disch := first | exact dis1 | fail) only [evA, Nat.reduceBEq, Nat.reduceAdd, Nat.reduceLeDiff, boxR, rboxR, allocR, fldR, binI, unR, pickR, mknilR, mkslR, buildSlR, buildR, extR, convI, eqB, evU, wrap64, fldP, dT, getD_map hl, encN_len, encN_five]) | (with_reducible intro _) | ((with_reducible apply And.intro); omega)))
      refine callX_fix (call_flat (ih l[i] (by omega) (by omega)) (flN rfl)) ?_
      (repeat (first | (simp (disch := first | exact dis1 | fail) only [evA, Nat.reduceBEq, Nat.reduceAdd, Nat.reduceLeDiff, boxR, rboxR, allocR, fldR, binI, unR, pickR, mknilR, mkslR, buildSlR, buildR, extR, convI, eqB, evU, wrap64, encInts, elsOf_ints]) | (with_reducible intro _) | ((with_reducible apply And.intro); omega)))
      exact ⟨(i + 1, x ++ coll blkP l[i]), ⟨by simp only; omega, hgo⟩, by simp only; omega, (Ent.tab [(0, 0, 1)] [] rfl (by (try simp only [evWA, Nat.reduceBEq, Nat.reduceAdd, Nat.reduceSub, Nat.reduceLeDiff, Nat.reduceLT, implies_true, and_self, Int.natCast_zero, Int.natCast_one, Int.cast_ofNat_Int, evV, encInts, encNats, encBools, encP, List.length_append, List.map_append]) <;> exact fin1) (by (try simp only [evWA, Nat.reduceBEq, Nat.reduceAdd, Nat.reduceSub, Nat.reduceLeDiff, Nat.reduceLT, implies_true, and_self, Int.natCast_zero, Int.natCast_one, Int.cast_ofNat_Int, evV, encInts, encNats, encBools, encP, List.length_append, List.map_append]) <;> exact fin1))⟩
    · rw [List.drop_of_length_le (by omega), colls, List.append_nil] at hgo
      subst hgo
      (repeat (first | (simp (disch := first | exact dis1 | fail) only [evA, Nat.reduceBEq, Nat.reduceAdd, Nat.reduceLeDiff, boxR, rboxR, allocR, fldR, binI, unR, pickR, mknilR, mkslR, buildSlR, buildR, extR, convI, eqB, evU, wrap64, fldP, dF]) | (with_reducible intro _) | ((with_reducible apply And.intro); omega)))
      unfold ac_R36_Blocks_k1
      (repeat (first | (simp (disch := first | exact dis1 | fail) only [evA, Nat.reduceBEq, Nat.reduceAdd, Nat.reduceLeDiff, boxR, rboxR, allocR, fldR, binI, unR, pickR, mknilR, mkslR, buildSlR, buildR, extR, convI, eqB, evU, wrap64, rs_R36_Blocks]) | (with_reducible intro _) | ((with_reducible apply And.intro); omega)))
      exact ⟨_, vw_ints (l := x) trivial rfl (by omega), rfl⟩
  (repeat (first | (simp (disch := first | exact dis1 | fail) only [evA, Nat.reduceBEq, Nat.reduceAdd, Nat.reduceLeDiff, boxR, rboxR, allocR, fldR, binI, unR, pickR, mknilR, mkslR, buildSlR, buildR, extR, convI, eqB, evU, wrap64, fldP]) | (with_reducible intro _) | ((with_reducible apply And.intro); omega)))
  have hg : blkP ⟨kd, bl, lb⟩ = if kd = 2 ∨ kd = 5 then [bl] else [] := rfl
  by_cases h2 : kd = 2
  · (repeat (first | (simp (disch := first | exact dis1 | fail) only [evA, Nat.reduceBEq, Nat.reduceAdd, Nat.reduceLeDiff, boxR, rboxR, allocR, fldR, binI, unR, pickR, mknilR, mkslR, buildSlR, buildR, extR, convI, eqB, evU, wrap64, dT, fldP]) | (with_reducible intro _) | ((with_reducible apply And.intro); omega)))
    rw [if_pos (.inl h2)] at hg
    exact body [bl] _ _ _ hg (Ent.tab [(0, 1, 1)] [] rfl (by (try simp only [evWA, Nat.reduceBEq, Nat.reduceAdd, Nat.reduceSub, Nat.reduceLeDiff, Nat.reduceLT, implies_true, and_self, Int.natCast_zero, Int.natCast_one, Int.cast_ofNat_Int, evV, encInts, encNats, encBools, encP]) <;> exact fin1) (by (try simp only [evWA, Nat.reduceBEq, Nat.reduceAdd, Nat.reduceSub, Nat.reduceLeDiff, Nat.reduceLT, implies_true, and_self, Int.natCast_zero, Int.natCast_one, Int.cast_ofNat_Int, evV, encInts, encNats, encBools, encP]) <;> exact fin1))
  · by_cases h5 : kd = 5
    · (repeat (first | (simp (disch := first | exact dis1 | fail) only [evA, Nat.reduceBEq, Nat.reduceAdd, Nat.reduceLeDiff, boxR, rboxR, allocR, fldR, binI, unR, pickR, mknilR, mkslR, buildSlR, buildR, extR, convI, eqB, evU, wrap64, dF, dT, fldP]) | (with_reducible intro _) | ((with_reducible apply And.intro); omega)))
      rw [if_pos (.inr h5)] at hg
      exact body [bl] _ _ _ hg (Ent.tab [(0, 1, 1)] [] rfl (by (try simp only [evWA, Nat.reduceBEq, Nat.reduceAdd, Nat.reduceSub, Nat.reduceLeDiff, Nat.reduceLT, implies_true, and_self, Int.natCast_zero, Int.natCast_one, Int.cast_ofNat_Int, evV, encInts, encNats, encBools, encP]) <;> exact fin1) (by (try simp only [evWA, Nat.reduceBEq, Nat.reduceAdd, Nat.reduceSub, Nat.reduceLeDiff, Nat.reduceLT, implies_true, and_self, Int.natCast_zero, Int.natCast_one, Int.cast_ofNat_Int, evV, encInts, encNats, encBools, encP]) <;> exact fin1))
    · (repeat (first | (simp (disch := first | exact dis1 | fail) only [evA, Nat.reduceBEq, Nat.reduceAdd, Nat.reduceLeDiff, boxR, rboxR, allocR, fldR, binI, unR, pickR, mknilR, mkslR, buildSlR, buildR, extR, convI, eqB, evU, wrap64, dF, fldP]) | (with_reducible intro _) | ((with_reducible apply And.intro); omega)))
      rw [if_neg (by omega)] at hg
      exact body [] _ _ _ hg (Ent.tab [(0, 1, 0)] [] rfl (by (try simp only [evWA, Nat.reduceBEq, Nat.reduceAdd, Nat.reduceSub, Nat.reduceLeDiff, Nat.reduceLT, implies_true, and_self, Int.natCast_zero, Int.natCast_one, Int.cast_ofNat_Int, evV, encInts, encNats, encBools, encP]) <;> exact fin1) (by (try simp only [evWA, Nat.reduceBEq, Nat.reduceAdd, Nat.reduceSub, Nat.reduceLeDiff, Nat.reduceLT, implies_true, and_self, Int.natCast_zero, Int.natCast_one, Int.cast_ofNat_Int, evV, encInts, encNats, encBools, encP]) <;> exact fin1))

end Go.Ab

namespace Go.Ab
open Go.RowKit Go.Proofs

theorem allNs_append : ∀ l m : List Nd, allNs (l ++ m) = allNs l ++ allNs m
  | [], m => by rw [allNs]; rfl
  | x :: l, m => by rw [List.cons_append, allNs, allNs, allNs_append l m, List.append_assoc]
theorem sizeNs_append : ∀ l m : List Nd, sizeNs (l ++ m) = sizeNs l + sizeNs m
  | [], m => by rw [sizeNs]; simp
  | x :: l, m => by rw [List.cons_append, sizeNs, sizeNs, sizeNs_append l m]; omega
theorem sizeN_pos : ∀ n : Nd, 1 ≤ sizeN n
  | .mk _ _ _ => by rw [sizeN]; omega
theorem sizeNs_len : ∀ l : List Nd, l.length ≤ sizeNs l
  | [] => by rw [sizeNs]; simp
  | x :: l => by rw [List.length_cons, sizeNs]; have := sizeNs_len l; have := sizeN_pos x; omega
theorem sizeNs_reverse (l : List Nd) : sizeNs l.reverse = sizeNs l := by
  induction l with
  | nil => rfl
  | cons a l ih => rw [List.reverse_cons, sizeNs_append, ih]; simp only [sizeNs]; omega

theorem vwX_cell {H H2 : AH} {σ : Nat → Nat → Option (Nat × Nat × Nat)} {D : Nat → Nat → Prop} {t : Bool} : ∀ (e : Ex) (j : Nat), j < 5 → Vw H H2 σ D t ((encX e).getD j .undef) ((encX e).getD j .undef)
  | .mk _ _ _ _ _, j, hj => by
    rw [encX_eq]
    match j, hj with
    | 0, _ => exact .int _ _ _
    | 1, _ => exact .int _ _ _
    | 2, _ => exact .int _ _ _
    | 3, _ => exact .int _ _ _
    | 4, _ => exact .sl _ _ _ _
theorem vwN_cell {H H2 : AH} {σ : Nat → Nat → Option (Nat × Nat × Nat)} {D : Nat → Nat → Prop} {t : Bool} : ∀ (e : Nd) (j : Nat), j < 5 → Vw H H2 σ D t ((encN e).getD j .undef) ((encN e).getD j .undef)
  | .mk _ _ _, j, hj => by
    rw [encN_eq]
    match j, hj with
    | 0, _ => exact .int _ _ _
    | 1, _ => exact .int _ _ _
    | 2, _ => exact .int _ _ _
    | 3, _ => exact .sl _ _ _ _
    | 4, _ => exact .sl _ _ _ _
theorem vw_nodes {H H2 : AH} {σ : Nat → Nat → Option (Nat × Nat × Nat)} {D : Nat → Nat → Prop} {t : Bool} {r q g : Nat} {l : List Nd} (hD : D r q) (hg : H.get r q = some (.row 5 (l.map encN) g)) (hb : l.length ≤ big) : Vw H H2 σ D t (.own r q g 0 l.length) (encL 5 encN l) :=
  vw_encL hD hg hb fun a _ j hj => vwN_cell a j hj
theorem vw_exprs {H H2 : AH} {σ : Nat → Nat → Option (Nat × Nat × Nat)} {D : Nat → Nat → Prop} {t : Bool} {r q g : Nat} {l : List Ex} (hD : D r q) (hg : H.get r q = some (.row 5 (l.map encX) g)) (hb : l.length ≤ big) : Vw H H2 σ D t (.own r q g 0 l.length) (encL 5 encX l) :=
  vw_encL hD hg hb fun a _ j hj => vwX_cell a j hj

theorem structure_all_ok (e : Nd) (hs : sizeN e ≤ 1000) : PureFn Tryz.prog f_structure_all [.agg (encN e)] (· = encL 5 encN (allN e)) := by
  refine fn_x cf_structure_all rfl ?_
  unfold ac_structure_all
  have hB : big = 9223372036854775807 := rfl
  generalize hR : allN e = R
  have hRl : R.length ≤ 1000 := by rw [← hR, allN_len]; exact hs
  (repeat (first | (simp (disch := first | exact dis1 | fail) only [evA, Nat.reduceBEq, Nat.reduceAdd, Nat.reduceLeDiff, boxR, rboxR, allocR, fldR, binI, unR, pickR, mknilR, mkslR, buildSlR, buildR, extR, convI, eqB, evU, wrap64, encN_len, encN_flat, encN_five]) | (with_reducible intro _) | ((with_reducible apply And.intro); omega)))
  refine loopX_intro (fun s : List Nd × List Nd × List Nd => ([(3, .own 0 0 0 0 s.1.length), (4, .own 1 0 0 0 s.2.1.length)], [(0, .row 5 (s.1.map encN) 0), (1, .row 5 ((s.2.1 ++ s.2.2).map encN) 0)])) 2 (fun s => s.1 ++ allNs s.2.1.reverse = R ∧ s.1.length + sizeNs s.2.1 ≤ 1000) (fun s => sizeNs s.2.1) ([], [e], []) ⟨by simp only [List.reverse_singleton, List.nil_append, allNs, List.append_nil]; exact hR, by simp only [sizeNs, List.length_nil]; omega⟩ (Ent.tab [(0, 1, 0), (1, 2, 0)] [] rfl (by (try simp only [evWA, Nat.reduceBEq, Nat.reduceAdd, Nat.reduceSub, Nat.reduceLeDiff, Nat.reduceLT, implies_true, and_self, Int.natCast_zero, Int.natCast_one, Int.cast_ofNat_Int, evV, encInts, encNats, encBools, encP, encN_flat]) <;> exact fin1) (by (try simp only [evWA, Nat.reduceBEq, Nat.reduceAdd, Nat.reduceSub, Nat.reduceLeDiff, Nat.reduceLT, implies_true, and_self, Int.natCast_zero, Int.natCast_one, Int.cast_ofNat_Int, evV, encInts, encNats, encBools, encP, encN_flat]) <;> exact fin1)) ?_
  rintro ⟨out, rest, junk⟩ ⟨hgo, hsz⟩ wf
  simp only at hgo hsz
  unfold ac_structure_all_l1
  have hlr := sizeNs_len rest
  by_cases hr : 0 < rest.length
  · obtain ⟨r, x, rfl⟩ : ∃ r x, rest = r ++ [x] := ⟨rest.dropLast, rest.getLast (by intro h; rw [h] at hr; simp at hr), (List.dropLast_concat_getLast _).symm⟩
    have hlen : (r ++ [x]).length = r.length + 1 := by simp
    have hidx : (((r.length + 1 : Nat) : Int) - 1).toNat = r.length := by omega
    have hget : (List.map encN (r ++ [x] ++ junk)).getD r.length [] = encN x := by
      rw [List.append_assoc, List.map_append, List.getD_eq_getElem?_getD, List.getElem?_append_right (by simp)]
      simp
    have hll : (r ++ [x] ++ junk).length = r.length + 1 + junk.length := by simp; omega
    rw [sizeNs_append] at hsz
    rw [List.reverse_append, List.reverse_singleton, List.singleton_append, allNs] at hgo
    obtain ⟨⟨kd, bl, lb⟩, c, l⟩ := x
    simp only [sizeNs, sizeN, Nat.add_zero] at hsz
    rw [allN, ← List.append_assoc] at hgo
    generalize hE : encN (Nd.mk ⟨kd, bl, lb⟩ c l) = E at hget
    have hE' := hE
    rw [encN_eq] at hE'
    simp only at hE'
    subst hE'
    rw [hlen] at hlr
    (repeat (first | (simp (disch := first | exact dis1 | fail) only [evA, Nat.reduceBEq, Nat.reduceAdd, Nat.reduceLeDiff, boxR, rboxR, allocR, fldR, binI, unR, pickR, mknilR, mkslR, buildSlR, buildR, extR, convI, eqB, evU, wrap64, dT, hidx, hget, hll, hlen, List.length_cons, List.length_nil]) | (with_reducible intro _) | ((with_reducible apply And.intro); omega)))
    have hn4 : ((((r.length + 1 : Nat) : Int)) - 1 - 0).toNat = r.length := by omega
    simp only [hn4, Int.toNat_zero]
    simp only [← hE] at hget ⊢
    have h4 : (encN (Nd.mk ⟨kd, bl, lb⟩ c l)).getD 4 .undef = encL 5 encN l := by rw [hE]; rfl
    have hX : List.map encN out ++ [encN (Nd.mk ⟨kd, bl, lb⟩ c l)] = List.map encN (out ++ [Nd.mk ⟨kd, bl, lb⟩ c l]) := by simp
    (refine condX_intro (fun hc => ?_) (fun hc => ?_)) <;> (try simp only [decide_eq_true_eq, decide_eq_false_iff_not, Bool.not_eq_true', Bool.not_eq_false', Bool.and_eq_true, Bool.or_eq_true, not_true_eq_false, not_false_eq_true] at hc)
    · have hl0 : l = [] := List.eq_nil_of_length_eq_zero (by omega)
      subst hl0
      rw [allNs] at hgo
      (repeat (first | (simp (disch := first | exact dis1 | fail) only [evA, Nat.reduceBEq, Nat.reduceAdd, Nat.reduceLeDiff, boxR, rboxR, allocR, fldR, binI, unR, pickR, mknilR, mkslR, buildSlR, buildR, extR, convI, eqB, evU, wrap64]) | (with_reducible intro _) | ((with_reducible apply And.intro); omega)))
      exact ⟨(out ++ [Nd.mk ⟨kd, bl, lb⟩ c []], r, Nd.mk ⟨kd, bl, lb⟩ c [] :: junk), ⟨hgo, by simp only [List.length_append, List.length_cons, List.length_nil]; simp only [sizeNs] at hsz; omega⟩, by simp only [sizeNs_append, sizeNs, sizeN]; omega, (Ent.tab [(0, 0, 1), (1, 1, 0)] [] rfl (by (try simp only [evWA, Nat.reduceBEq, Nat.reduceAdd, Nat.reduceSub, Nat.reduceLeDiff, Nat.reduceLT, implies_true, and_self, Int.natCast_zero, Int.natCast_one, Int.cast_ofNat_Int, evV, encInts, encNats, encBools, encP, List.length_append, List.map_append, List.append_assoc, List.singleton_append]) <;> exact fin2) (by (try simp only [evWA, Nat.reduceBEq, Nat.reduceAdd, Nat.reduceSub, Nat.reduceLeDiff, Nat.reduceLT, implies_true, and_self, Int.natCast_zero, Int.natCast_one, Int.cast_ofNat_Int, evV, encInts, encNats, encBools, encP, List.length_append, List.map_append, List.append_assoc, List.singleton_append]) <;> exact fin2))⟩
    · have hl0 : 0 < l.length := by omega
      (repeat (first | (simp (disch := first | exact dis1 | fail) only [evA, Nat.reduceBEq, Nat.reduceAdd, Nat.reduceLeDiff, boxR, rboxR, allocR, fldR, binI, unR, pickR, mknilR, mkslR, buildSlR, buildR, extR, convI, eqB, evU, wrap64, fldP, h4]) | (with_reducible intro _) | ((with_reducible apply And.intro); omega)))
      refine loopX_intro (fun s : Nat × List Nd => ([(3, .own 0 0 0 0 (out ++ [Nd.mk ⟨kd, bl, lb⟩ c l]).length), (4, .own 1 0 0 0 (r ++ (l.drop (l.length - s.1)).reverse).length), (5, .ptr 2 0 0 0 0), (6, .int .i64 ((l.length : Int) - 1 - s.1))], [(0, .row 5 ((out ++ [Nd.mk ⟨kd, bl, lb⟩ c l]).map encN) 0), (1, .row 5 ((r ++ (l.drop (l.length - s.1)).reverse ++ s.2).map encN) 0), (2, .row 5 [encN (Nd.mk ⟨kd, bl, lb⟩ c l)] 0)])) 3 (fun s => s.1 ≤ l.length) (fun s => l.length - s.1) (0, Nd.mk ⟨kd, bl, lb⟩ c l :: junk) (Nat.zero_le _) (Ent.tab [(0, 0, 1), (1, 1, 0), (2, 2, 0)] [] rfl (by (try simp only [evWA, Nat.reduceBEq, Nat.reduceAdd, Nat.reduceSub, Nat.reduceLeDiff, Nat.reduceLT, implies_true, and_self, Int.natCast_zero, Int.natCast_one, Int.cast_ofNat_Int, evV, encInts, encNats, encBools, encP, List.length_append, List.map_append, List.append_assoc, List.singleton_append, List.drop_length, List.reverse_nil, Nat.sub_zero, List.nil_append]) <;> exact fin2) (by (try simp only [evWA, Nat.reduceBEq, Nat.reduceAdd, Nat.reduceSub, Nat.reduceLeDiff, Nat.reduceLT, implies_true, and_self, Int.natCast_zero, Int.natCast_one, Int.cast_ofNat_Int, evV, encInts, encNats, encBools, encP, List.length_append, List.map_append, List.append_assoc, List.singleton_append, List.drop_length, List.reverse_nil, Nat.sub_zero, List.nil_append]) <;> exact fin2)) ?_
      rintro ⟨j, jk⟩ hj wf2
      simp only at hj
      unfold ac_structure_all_l0
      by_cases hjl : j < l.length
      · have hix : ((l.length : Int) - 1 - (j : Int)).toNat = l.length - 1 - j := by omega
        have hlt : l.length - 1 - j < l.length := by omega
        have hD : ((l.drop (l.length - j)).reverse).length = j := by simp; omega
        have hst : (l.drop (l.length - (j + 1))).reverse = (l.drop (l.length - j)).reverse ++ [l[l.length - 1 - j]] := by
          rw [show l.length - (j + 1) = l.length - 1 - j by omega, List.drop_eq_getElem_cons hlt, List.reverse_cons, show l.length - 1 - j + 1 = l.length - j by omega]
        generalize hDD : (l.drop (l.length - j)).reverse = D at *
        have htk : List.take (r ++ D).length (List.map encN (r ++ D ++ jk)) = List.map encN (r ++ D) := by
          rw [List.map_append (l₁ := r ++ D), List.take_left' (by simp)]
        have hll2 : (r ++ D).length = r.length + j := by rw [List.length_append, hD]
        have hlr2 : r.length ≤ 1000 := by have := sizeNs_len r; omega
        have hll3 : l.length ≤ 1000 := by have := sizeNs_len l; omega
        (repeat (first | (simp (disch := first | exact dis1 | fail) only [evA, Nat.reduceBEq, Nat.reduceAdd, Nat.reduceLeDiff, boxR, rboxR, allocR, fldR, binI, unR, pickR, mknilR, mkslR, buildSlR, buildR, extR, convI, eqB, evU, wrap64, dT, fldP, h4, hix, getD_map hlt, encN_len, encN_five, htk]) | (with_reducible intro _) | ((with_reducible apply And.intro); omega)))
        refine ⟨⟨by simp, by omega⟩, (j + 1, []), by simp only; omega, by simp only; omega, ?_⟩
        simp only [hst]
        exact (Ent.tab [(0, 0, 0), (1, 1, 1), (2, 2, 0)] [] rfl (by (try simp only [evWA, Nat.reduceBEq, Nat.reduceAdd, Nat.reduceSub, Nat.reduceLeDiff, Nat.reduceLT, implies_true, and_self, Int.natCast_zero, Int.natCast_one, Int.cast_ofNat_Int, evV, encInts, encNats, encBools, encP, List.length_append, List.map_append, List.append_assoc, List.append_nil, List.map_cons, List.map_nil, List.length_cons, List.length_nil]) <;> exact fin2) (by (try simp only [evWA, Nat.reduceBEq, Nat.reduceAdd, Nat.reduceSub, Nat.reduceLeDiff, Nat.reduceLT, implies_true, and_self, Int.natCast_zero, Int.natCast_one, Int.cast_ofNat_Int, evV, encInts, encNats, encBools, encP, List.length_append, List.map_append, List.append_assoc, List.append_nil, List.map_cons, List.map_nil, List.length_cons, List.length_nil]) <;> exact fin2))
      · have hj2 : j = l.length := by omega
        subst hj2
        simp only [Nat.sub_self, List.drop_zero]
        (repeat (first | (simp (disch := first | exact dis1 | fail) only [evA, Nat.reduceBEq, Nat.reduceAdd, Nat.reduceLeDiff, boxR, rboxR, allocR, fldR, binI, unR, pickR, mknilR, mkslR, buildSlR, buildR, extR, convI, eqB, evU, wrap64, dF]) | (with_reducible intro _) | ((with_reducible apply And.intro); omega)))
        have hsl := sizeNs_reverse l
        refine ⟨(out ++ [Nd.mk ⟨kd, bl, lb⟩ c l], r ++ l.reverse, jk), ⟨?_, ?_⟩, ?_, (Ent.tab [(0, 0, 0), (1, 1, 0)] [] rfl (by (try simp only [evWA, Nat.reduceBEq, Nat.reduceAdd, Nat.reduceSub, Nat.reduceLeDiff, Nat.reduceLT, implies_true, and_self, Int.natCast_zero, Int.natCast_one, Int.cast_ofNat_Int, evV, encInts, encNats, encBools, encP]) <;> exact fin2) (by (try simp only [evWA, Nat.reduceBEq, Nat.reduceAdd, Nat.reduceSub, Nat.reduceLeDiff, Nat.reduceLT, implies_true, and_self, Int.natCast_zero, Int.natCast_one, Int.cast_ofNat_Int, evV, encInts, encNats, encBools, encP]) <;> exact fin2))⟩
        · simp only [List.reverse_append, List.reverse_reverse, allNs_append]
          rw [← List.append_assoc]
          rw [← hgo]
          simp
        · simp only [List.length_append, List.length_cons, List.length_nil, sizeNs_append, hsl]
          omega
        · simp only [sizeNs_append, hsl, sizeNs, sizeN]
          omega
  · rw [show rest = [] from List.eq_nil_of_length_eq_zero (by omega), List.reverse_nil, allNs, List.append_nil] at hgo
    subst hgo
    (repeat (first | (simp (disch := first | exact dis1 | fail) only [evA, Nat.reduceBEq, Nat.reduceAdd, Nat.reduceLeDiff, boxR, rboxR, allocR, fldR, binI, unR, pickR, mknilR, mkslR, buildSlR, buildR, extR, convI, eqB, evU, wrap64, dF]) | (with_reducible intro _) | ((with_reducible apply And.intro); omega)))
    unfold ac_structure_all_k2
    (repeat (first | (simp (disch := first | exact dis1 | fail) only [evA, Nat.reduceBEq, Nat.reduceAdd, Nat.reduceLeDiff, boxR, rboxR, allocR, fldR, binI, unR, pickR, mknilR, mkslR, buildSlR, buildR, extR, convI, eqB, evU, wrap64, rs_structure_all]) | (with_reducible intro _) | ((with_reducible apply And.intro); omega)))
    exact ⟨_, vw_nodes (l := out) trivial rfl (by omega), rfl⟩

end Go.Ab

namespace Go.Ab
open Go.RowKit Go.Proofs Go.Maps Go.Sort Go.Shelf

section
variable {H : AH} {nx : Nat}

theorem keys_call (r : Nat) : CallOk Tryz.prog f_maps_Keys_map_int_bool_int_bool [.mp r] H nx (fun v H' nx' => (v, H', nx') = (.fn (.func f_maps_Keys_map_int_bool_int_bool_1) [.it nx], H.set nx 0 (.row 1 [[.mp r]] 0), nx + 1)) := by
  intro w L ι vs rel hv
  obtain ⟨mv, hvs, hm⟩ : ∃ mv, vs = #[mv] ∧ VR w (Lt L ι H) ι mv (.mp r) := by
    rcases vs with ⟨l⟩
    cases hv with
    | cons h1 h2 => cases h2; exact ⟨_, rfl, h1⟩
  subst hvs
  cases hm with
  | mp _ _ lm hlm hcm =>
    have key := callsIn_wide.1 (AnyZI.keys_in layKeys Fence.wide 5 trivial rfl (some lm.block) w)
    refine Calls.mono key fun e w' ⟨he, hw⟩ => ?_
    subst hw
    generalize layKeys_ren.t 23 = tt at *
    have hno : ¬ maxLen + 3 ≤ maxLen := by omega
    have c1 : Chg w ι H nx 0 0 ⟨w.heap.size, 0, maxLen + 3, 1⟩ (w.alloc (.cells #[.map (some lm.block)] tt)) := ⟨rfl, rfl, rfl, by simp, fun b hb _ => Below.heap_alloc w _ b hb, fun _ => .inr (Nat.le_refl _), fun l0 h0 => (by rw [rel.freshI] at h0; cases h0), fun g2 l2 h2 => (by rw [rel.freshI] at h2; cases h2)⟩
    have hb : (w.alloc (.cells #[.map (some lm.block)] tt)).heap[w.heap.size]? = some (.cells #[.map (some lm.block)] tt) := World.alloc_heap_new w _
    refine ⟨_, ι.put nx 0 0 ⟨w.heap.size, 0, maxLen + 3, 1⟩, H.set nx 0 (.row 1 [[.mp r]] 0), nx + 1, _, he, c1.step (rel.sok 1) rel (Nat.lt_succ_self _) (Nat.le_succ _) ⟨rfl, fun i c hi => ?_, fun h => absurd h hno, fun _ => ⟨Nat.succ_pos 0, _, hb, rfl, by simp [vkind]⟩, fun i c j a hi hj => ?_⟩, Nat.le_succ _, ?_, rfl⟩
    · match i with
      | 0 => cases hi; rfl
      | i + 1 => cases hi
    · match i with
      | 0 =>
        cases hi
        match j with
        | 0 =>
          cases hj
          refine ⟨.map (some lm.block), ?_, fun h => absurd h hno, c1.vr (rel.sok 1) rel (.mp _ _ _ hlm hcm)⟩
          unfold rowCell
          rw [if_neg hno]
          simp only [hb, Option.bind_some]
          rfl
        | j + 1 => cases hj
      | i + 1 => cases hi
    · refine .fn _ _ _ _ rfl fun i v a h1 h2 => ?_
      match i with
      | 0 =>
        cases h1; cases h2
        exact .it _ nx ⟨w.heap.size, 0, maxLen + 3, 1⟩ (Inj.put_same _ _ _ _ _) (.inr rfl)
      | i + 1 => cases h2

end
end Go.Ab

namespace Go.Ab
open Go.RowKit Go.Proofs Go.Maps Go.Sort Go.Shelf

def insI (x : Int) : List Int → List Int
  | [] => [x]
  | y :: r => bif decide (x ≤ y) then x :: y :: r else y :: insI x r
def sortI : List Int → List Int
  | [] => []
  | x :: r => insI x (sortI r)

theorem insI_perm (x : Int) : ∀ l : List Int, (insI x l).Perm (x :: l)
  | [] => .refl _
  | y :: r => by
    rw [insI]
    cases decide (x ≤ y)
    · exact ((insI_perm x r).cons y).trans (.swap x y r)
    · exact .refl _
theorem sortI_perm : ∀ l : List Int, (sortI l).Perm l
  | [] => .refl _
  | x :: r => (insI_perm x _).trans ((sortI_perm r).cons x)
theorem insI_sorted (x : Int) : ∀ l : List Int, l.Pairwise (· ≤ ·) → (insI x l).Pairwise (· ≤ ·)
  | [], _ => by simp [insI]
  | y :: r, h => by
    rw [insI]
    rw [List.pairwise_cons] at h
    cases hd : decide (x ≤ y) with
    | true =>
      have hxy : x ≤ y := of_decide_eq_true hd
      refine List.pairwise_cons.2 ⟨fun z hz => ?_, List.pairwise_cons.2 h⟩
      rcases List.mem_cons.1 hz with rfl | hz
      · exact hxy
      · exact Int.le_trans hxy (h.1 z hz)
    | false =>
      have hxy : ¬ x ≤ y := of_decide_eq_false hd
      refine List.pairwise_cons.2 ⟨fun z hz => ?_, insI_sorted x r h.2⟩
      rcases List.mem_cons.1 ((insI_perm x r).mem_iff.1 hz) with rfl | hz
      · omega
      · exact h.1 z hz
theorem sortI_sorted : ∀ l : List Int, (sortI l).Pairwise (· ≤ ·)
  | [] => .nil
  | x :: r => insI_sorted x _ (sortI_sorted r)
theorem sorted_eq {l m : List Int} (h : l.Perm m) (hl : l.Pairwise (· ≤ ·)) (hm : m.Pairwise (· ≤ ·)) : l = m :=
  List.Perm.eq_of_pairwise (fun _ _ _ _ h1 h2 => Int.le_antisymm h1 h2) hl hm h
theorem mergeSort_sortI {l m : List Int} (h : l.Perm m) : l.mergeSort (fun x y => decide (x ≤ y)) = sortI m := by
  refine sorted_eq ((List.mergeSort_perm _ _).trans (h.trans (sortI_perm m).symm)) ?_ (sortI_sorted m)
  have := List.pairwise_mergeSort (le := fun x y : Int => decide (x ≤ y)) (fun a b c h1 h2 => by simp only [decide_eq_true_eq] at *; exact Int.le_trans h1 h2) (fun a b => by simp only [Bool.or_eq_true, decide_eq_true_eq]; exact Int.le_total a b) l
  exact this.imp fun h => of_decide_eq_true h

/-- A map's entries: keys that are numbers, and stamps. -/
def entI : List (List AV) → Option (List (Int × Int))
  | [] => some []
  | c :: r => match c with
    | [.int .i64 k, _, .int .i64 b] => match entI r with
      | some l => some ((k, b) :: l)
      | none => none
    | _ => none

theorem entI_spec : ∀ {es : List (List AV)} {l : List (Int × Int)}, entI es = some l → l.length = es.length ∧ ∀ (i : Nat) (p : Int × Int), l[i]? = some p → ∃ v, es[i]? = some [.int .i64 p.1, v, .int .i64 p.2]
  | [], l, h => by cases h; exact ⟨rfl, fun i p h => by simp at h⟩
  | c :: r, l, h => by
    unfold entI at h
    split at h
    · rename_i k v b
      split at h
      · rename_i l' he
        cases h
        obtain ⟨h1, h2⟩ := entI_spec he
        refine ⟨by simp [h1], fun i p hi => ?_⟩
        match i with
        | 0 => cases hi; exact ⟨v, rfl⟩
        | i + 1 => exact h2 i p hi
      · cases h
    · cases h

section
variable {w : World} {L : Nat → Prop} {ι : Inj} {H : AH} {nx : Nat}

/-- What a map's row says of the map's block. -/
theorem map_block (rel : RelH w L ι H nx) {r : Nat} {l : Loc} {c : Int} {u u' : AV} {es : List (List AV)} {ps : List (Int × Int)} (hl : ι r 0 0 = some l) (hcap : l.cap = maxLen + 1) (hm : H.get r 0 = some (.row 3 ([.int .i64 c, u, u'] :: es) 0)) (hes : entI es = some ps) :
    ∃ ms clock, w.heap[l.block]? = some (.map ms clock) ∧ c = (clock : Int) ∧ ms.toList.map (fun e => e.key) = ps.map (fun p => encZ p.1) ∧ ms.toList.map (fun e => (e.born : Int)) = ps.map (·.2) ∧ ∀ p ∈ ps, InR .i64 p.1 := by
  obtain ⟨l', hl', ok⟩ := rel.row _ _ _ _ _ hm
  rw [hl] at hl'
  cases hl'
  obtain ⟨ms, clock, hb, hsz, hh⟩ := ok.map hcap
  obtain ⟨hlen, hget⟩ := entI_spec hes
  have hms : ms.size = ps.length := by simp at hsz; omega
  have one : ∀ (i : Nat) (p : Int × Int), ps[i]? = some p → ∃ e, ms[i]? = some e ∧ e.key = encZ p.1 ∧ (e.born : Int) = p.2 ∧ InR .i64 p.1 := by
    intro i p hi
    obtain ⟨v, hv⟩ := hget i p hi
    have hi' : i < ms.size := by rw [hms]; exact (List.getElem?_eq_some_iff.1 hi).1
    obtain ⟨v1, e1, r1⟩ := hh (i + 1) 0 _ (.int .i64 p.1) (by simpa using hv) rfl
    obtain ⟨v2, e2, r2⟩ := hh (i + 1) 2 _ (.int .i64 p.2) (by simpa using hv) rfl
    simp only [vcell, Array.getElem?_eq_getElem hi', Option.map_some, Option.some.injEq] at e1 e2
    refine ⟨ms[i], Array.getElem?_eq_getElem hi', ?_, ?_, ?_⟩
    · rw [e1]; generalize p.1 = y at r1 ⊢; cases r1; rfl
    · rw [← e2] at r2
      generalize p.2 = y at r2 ⊢
      cases r2; rfl
    · generalize p.1 = y at r1 ⊢
      cases r1; assumption
  refine ⟨ms, clock, hb, ?_, ?_, ?_, fun p hp => ?_⟩
  · obtain ⟨v, e0, r0⟩ := hh 0 0 _ (.int .i64 c) rfl rfl
    simp only [vcell, Option.some.injEq] at e0
    rw [← e0] at r0
    cases r0; rfl
  · apply List.ext_getElem?
    intro i
    rw [List.getElem?_map, List.getElem?_map, Array.getElem?_toList]
    cases hi : ps[i]? with
    | none => rw [Array.getElem?_eq_none (by rw [hms]; exact List.getElem?_eq_none_iff.1 hi)]; rfl
    | some p => obtain ⟨e, h1, h2, _⟩ := one i p hi; rw [h1]; simp [h2]
  · apply List.ext_getElem?
    intro i
    rw [List.getElem?_map, List.getElem?_map, Array.getElem?_toList]
    cases hi : ps[i]? with
    | none => rw [Array.getElem?_eq_none (by rw [hms]; exact List.getElem?_eq_none_iff.1 hi)]; rfl
    | some p => obtain ⟨e, h1, _, h3, _⟩ := one i p hi; rw [h1]; simp [h3]
  · obtain ⟨i, hi, rfl⟩ := List.mem_iff_getElem.1 hp
    obtain ⟨_, _, _, _, h⟩ := one i _ (List.getElem?_eq_getElem hi)
    exact h

/-- A new row, where the world says that a slice owns it. -/
theorem own_new (rel : RelH w L ι H nx) {w' : World} {e : TypeId} {v : Value} {n : Nat} {zs : List Int} (hn : zs.length = n) (hrow : w'.ownsRow w.heap.size e 1 v n (zs.map encZ)) (hb : Below w.heap.size w w') (hz : ∀ z ∈ zs, InR .i64 z) :
    ∃ ι', Step w L ι H nx w' ι' (H.set nx 0 (.row 1 (zs.map fun k => [.int .i64 k]) 0)) (nx + 1) ∧ VR w' (Lt L ι' (H.set nx 0 (.row 1 (zs.map fun k => [.int .i64 k]) 0))) ι' v (.own nx 0 0 0 n) := by
  obtain ⟨hlen, ⟨rfl, rfl⟩ | ⟨g, cap, cur, rfl, hg, hgb, h1, h2, h3, h4⟩⟩ := hrow
  · obtain rfl : zs = [] := List.eq_nil_of_length_eq_zero hn
    have c1 : Chg w ι H nx 0 0 ⟨0, 0, 0, 1⟩ w' := ⟨hb.os, hb.tape, hb.output, hb.size, fun b hb' _ => hb.block b hb', fun h => by simp at h, fun l0 h0 => (by rw [rel.freshI] at h0; cases h0), fun g2 l2 h2 => (by rw [rel.freshI] at h2; cases h2)⟩
    refine ⟨_, c1.step (rel.sok 1) rel (Nat.lt_succ_self _) (Nat.le_succ _) (.mk' rfl (Nat.le_refl _) (Nat.zero_le _) (fun k hk => by simp at hk) (fun h => by simp at h) (fun k c' hk => by simp at hk) (fun k c' j a hk _ => by simp at hk)), ?_⟩
    exact .own _ nx 0 0 0 0 _ 0 _ (Inj.put_same _ _ _ _ _) (Nat.zero_le _) (Nat.le_refl _) (Nat.le_refl _) (fun h => by omega)
  · have c1 : Chg w ι H nx 0 0 ⟨g, 0, cap, 1⟩ w' := ⟨hb.os, hb.tape, hb.output, hb.size, fun b hb' _ => hb.block b hb', fun _ => .inr hg, fun l0 h0 => (by rw [rel.freshI] at h0; cases h0), fun g2 l2 h2 => (by rw [rel.freshI] at h2; cases h2)⟩
    have hcell : ∀ k, k < cap → w'.cell? ⟨g, k, none⟩ = cur[k]? := fun k hk => by
      simp only [World.cell?, hgb, Option.isSome_none, Bool.false_eq_true, if_false]
    refine ⟨_, c1.step (rel.sok 1) rel (Nat.lt_succ_self _) (Nat.le_succ _) (.mk' rfl (by simp; omega) h2 (fun k hk => ?_) (fun _ => ?_) (fun k c' hk => ?_) (fun k c' j a hk hj => ?_)), .own _ nx 0 0 0 n _ cap _ (Inj.put_same _ _ _ _ _) h2 h1 (by simp) (fun _ => by simp)⟩
    · simp only [Nat.zero_add, Nat.mul_one] at hk ⊢
      rw [hcell k hk]
      refine ⟨by rw [Array.getElem?_eq_getElem (by omega)]; rfl, by simp [World.frozen?, hgb]⟩
    · intro c e' lo hi hh
      rw [hgb] at hh
      cases hh
      exact .inl rfl
    · rw [List.getElem?_map] at hk
      obtain ⟨z, _, rfl⟩ := Option.map_eq_some_iff.1 hk
      rfl
    · rw [List.getElem?_map] at hk
      obtain ⟨z, hz', rfl⟩ := Option.map_eq_some_iff.1 hk
      match j with
      | 0 =>
        cases hj
        have hkn : k < n := by rw [← hn]; exact (List.getElem?_eq_some_iff.1 hz').1
        refine ⟨encZ z, ?_, rfl, .int _ _ _ (hz z (List.mem_of_getElem? hz'))⟩
        simp only [Nat.zero_add, Nat.mul_one, Nat.add_zero]
        rw [hcell k (by omega)]
        have := congrArg (fun (l : List Value) => l[k]?) h4
        simp only [Nat.mul_one, List.getElem?_take_of_lt hkn, List.getElem?_map, hz', Option.map_some, Array.getElem?_toList] at this
        exact this
      | j + 1 => cases hj

theorem nodup_of_map {α β : Type} {f : α → β} : ∀ {l : List α}, (l.map f).Nodup → l.Nodup
  | [], _ => .nil
  | a :: l, h => by
    rw [List.map_cons, List.nodup_cons] at h
    exact List.nodup_cons.2 ⟨fun hm => h.1 (List.mem_map_of_mem hm), nodup_of_map h.2⟩

theorem inR_lit {k : IntKind} {n : Int} (h : InR k n) : (Lit.int k n).wf = true := by
  unfold Lit.wf
  simpa [InR] using h

set_option maxRecDepth 20000 in
theorem sorted_call {r rb : Nat} {c : Int} {u u' : AV} {es : List (List AV)} {ps : List (Int × Int)} (hb : H.get rb 0 = some (.row 1 [[.mp r]] 0)) (hm : H.get r 0 = some (.row 3 ([.int .i64 c, u, u'] :: es) 0)) (hes : entI es = some ps) (hk : (ps.map (·.1)).Nodup) (hbn : (ps.map (·.2)).Nodup) (hcl : ∀ p ∈ ps, p.2 < c) (hlen : ps.length ≤ 1000000) :
    CallOk Tryz.prog f_slices_Sorted_int [.fn (.func f_maps_Keys_map_int_bool_int_bool_1) [.it rb]] H nx (fun v H' nx' => (v, H', nx') = (.own nx 0 0 0 ps.length, H.set nx 0 (.row 1 ((sortI (ps.map (·.1))).map fun k => [.int .i64 k]) 0), nx + 1)) := by
  intro w L ι vs rel hv
  obtain ⟨mv, hvs, hmv⟩ : ∃ mv, vs = #[mv] ∧ VR w (Lt L ι H) ι mv (.fn (.func f_maps_Keys_map_int_bool_int_bool_1) [.it rb]) := by
    rcases vs with ⟨l⟩
    cases hv with
    | cons h1 h2 => cases h2; exact ⟨_, rfl, h1⟩
  subst hvs
  cases hmv with
  | fn _ _ cs _ hs hcv =>
    obtain ⟨pv, rfl⟩ : ∃ pv, cs = #[pv] := by
      rcases cs with ⟨l⟩
      match l, hs with
      | [pv], _ => exact ⟨pv, rfl⟩
    have hp := hcv 0 pv (.it rb) rfl rfl
    cases hp with
    | it _ _ lb hlb hcb =>
      obtain ⟨lb', hlb', okb⟩ := rel.row _ _ _ _ _ hb
      rw [hlb] at hlb'
      cases hlb'
      have hno : ¬ lb.cap ≤ maxLen := by omega
      obtain ⟨_, o, ho, ho2, ho3⟩ := okb.spec hno
      obtain ⟨mv, h4, _, h5⟩ := okb.hold 0 _ 0 (.mp r) rfl rfl
      unfold rowCell at h4
      rw [if_neg hno, ho] at h4
      cases h5 with
      | mp _ _ lm hlm hcm =>
        obtain ⟨cells, te, fz, rfl⟩ : ∃ cells te fz, o = .cells cells te fz := by
          cases o <;> first | exact ⟨_, _, _, rfl⟩ | (simp [vkind] at ho3; omega) | (simp [vlen] at ho2; done)
        simp only [Option.bind_some, vcell] at h4
        have hcell : w.cell? ⟨lb.block, 0, none⟩ = some (.map (some lm.block)) := by
          simp only [World.cell?, ho, Option.isSome_none, Bool.false_eq_true, if_false]
          exact h4
        obtain ⟨ms, clock, hmb, rfl, hks, hbs, hin⟩ := map_block rel hlm hcm hm hes
        have hsz : ms.size = ps.length := by
          have := congrArg List.length hks
          simpa using this
        have hmb' : lm.block < w.heap.size := (Array.getElem?_eq_some_iff.1 hmb).1
        have hlb2 : lb.block < w.heap.size := (Array.getElem?_eq_some_iff.1 ho).1
        let R : Value → Option (DataW Unit × List MemPlace) := fun _ => some (.nil, [])
        have hkt : Tryz.prog.underlying (layKeys_ren.t 26) = some (.int .i64) := layKeys.t26
        have hreads : ∀ x ∈ ms.toList, Go.WideElems.rd Tryz.prog (layKeys_ren.t 26) R x = some (.int .i64 (intOf ((keyOf Tryz.prog (layKeys_ren.t 26) x.key).getD (.bool false))), .nil) ∧ ∃ p ∈ ps, x.key = encZ p.1 := by
          intro x hx
          have : x.key ∈ ps.map fun p => encZ p.1 := by rw [← hks]; exact List.mem_map_of_mem hx
          obtain ⟨p, hp, hpe⟩ := List.mem_map.1 this
          refine ⟨?_, p, hp, hpe.symm⟩
          have hko := keyOf_int_mk hkt (inR_lit (hin p hp))
          unfold Go.WideElems.rd
          rw [← hpe, hko]
          rfl
        have F : Go.WideElems.Fit Tryz.prog (layKeys_ren.t 26) R ms clock := ⟨by unfold maxLen; omega, ⟨fun x hx => ?_, ?_, ?_⟩, fun x hx => ⟨_, (hreads x hx).1⟩⟩
        rotate_left
        · have : (x.born : Int) ∈ ps.map (·.2) := by rw [← hbs]; exact List.mem_map_of_mem hx
          obtain ⟨p, hp, hpe⟩ := List.mem_map.1 this
          have := hcl p hp
          omega
        · rw [← hbs] at hbn
          rw [show (ms.toList.map fun e => (e.born : Int)) = (ms.toList.map (·.born)).map (fun n : Nat => (n : Int)) by simp [Function.comp_def]] at hbn
          exact nodup_of_map hbn
        · rw [hks]
          rw [show (ps.map fun p => encZ p.1) = (ps.map (·.1)).map encZ by simp [Function.comp_def]]
          exact List.Pairwise.map _ (fun a b hab e => hab (encZ_inj e)) hk
        have hown : w.ownsMap Tryz.prog (layKeys_ren.t 26) R lm.block ms.size (.map ((ms.toList.map (Go.WideElems.rg Tryz.prog (layKeys_ren.t 26) R)).foldr DataW.insert [])) := ⟨ms, clock, hmb, F, Nat.le_refl _, rfl⟩
        have hkeys : (intKeys (DataW.map (H := Unit) ((ms.toList.map (Go.WideElems.rg Tryz.prog (layKeys_ren.t 26) R)).foldr DataW.insert []))).Perm (ps.map (·.1)) := by
          show ((List.foldr DataW.insert [] _).map fun p => intOf p.1).Perm _
          refine ((Go.WideShapes.sorted_perm _).map _).trans ?_
          refine List.Perm.of_eq ?_
          have : (ms.toList.map fun e => e.key).map (fun v => match v with | .int _ n => n | _ => 0) = ps.map (·.1) := by
            rw [hks]
            simp [Function.comp_def]
          rw [← this, List.map_map, List.map_map]
          refine List.map_congr_left fun x hx => ?_
          obtain ⟨h1, p, hp, hpe⟩ := hreads x hx
          simp only [Function.comp]
          rw [Go.WideElems.rg_of h1, hpe, keyOf_int_mk hkt (inR_lit (hin p hp))]
          rfl
        have hsize : Maps.size (DataW.map (H := Unit) ((ms.toList.map (Go.WideElems.rg Tryz.prog (layKeys_ren.t 26) R)).foldr DataW.insert [])) = ps.length := by
          rw [Maps.size_eq, (Go.WideShapes.sorted_perm _).length_eq, List.length_map, Array.length_toList, hsz]
        have hseq := AnyZI.keys_gives (ρ := layKeys_ren) { layKeys with } Fence.wide 2 trivial rfl (by omega) lb.block lm.block ms.size _ w hlb2 hcell hown
        have sorts : AnyZI.SortsIn Tryz.prog laySorted_ren Fence.wide 4 := ⟨fun blk off cap ss W hH hblk hsz => callsIn_wide.2 (AnyM.slices_Sort_int laySort blk off cap ss W hH hblk hsz), fun p cap W => callsIn_wide.2 (AnyM.slices_Sort_int_none laySort p cap W)⟩
        have cS := AnyZI.sorted_in laySorted Fence.wide 5 trivial trivial trivial trivial rfl (by omega) sorts layEnterSort f_maps_Keys_map_int_bool_int_bool_1 #[.pointer (some ⟨lb.block, 0, none⟩)] trivial layEnterKeys1 _ _ (by rw [hsize]; unfold maxLen; omega) (by rw [hsize]; omega) _ hseq
        refine Calls.mono (callsIn_wide.1 cS) fun e w' ⟨v, ss, he, hperm, hrow, _, hbel⟩ => ?_
        have hp2 : ss.Perm (ps.map (·.1)) := hperm.trans hkeys
        rw [mergeSort_sortI hp2] at hrow
        have hl : ss.length = ps.length := by rw [hp2.length_eq, List.length_map]
        rw [hl] at hrow
        have hsl : (sortI (ps.map (·.1))).length = ps.length := by rw [(sortI_perm _).length_eq, List.length_map]
        obtain ⟨ι', st, hvr⟩ := own_new rel hsl hrow hbel (fun z hz => by
          obtain ⟨p, hp, rfl⟩ := List.mem_map.1 ((sortI_perm _).mem_iff.1 hz)
          exact hin p hp)
        exact ⟨v, ι', _, _, _, he, st, Nat.le_succ _, hvr, rfl⟩

end
end Go.Ab

namespace Go.Ab
open Go.RowKit Go.Proofs

theorem bcl_Node : compF Tryz.prog f_slices_Clone_api_Node_api_Node (qRo []) = some ((acClone 5 72 [.int .i64 0, .int .i64 0, .int .i64 0, .nilsl, .nilsl]).strip, [.tmp 2], 8) := by kernel_rfl
theorem bcl_Expr : compF Tryz.prog f_slices_Clone_api_Expr_api_Expr (qRo []) = some ((acClone 5 56 [.int .i64 0, .int .u32 0, .int .i64 0, .int .i64 0, .nilsl]).strip, [.tmp 2], 8) := by kernel_rfl
theorem bcl_int : compF Tryz.prog f_slices_Clone_int_int (qRo []) = some ((acClone 1 8 [.int .i64 0]).strip, [.tmp 2], 8) := by kernel_rfl

def nodB : List Int → Bool
  | [] => true
  | x :: r => !(r.any fun y => decide (y = x)) && nodB r
theorem nodB_ok : ∀ {l : List Int}, nodB l = true → l.Nodup
  | [], _ => .nil
  | x :: r, h => by
    simp only [nodB, Bool.and_eq_true, Bool.not_eq_true', List.any_eq_false, decide_eq_true_eq] at h
    exact List.nodup_cons.2 ⟨fun hm => h.1 x hm rfl, nodB_ok h.2⟩

def orcClone (sz : Nat) (args : List AV) (H : AH) (nx : Nat) : Option (AV × AH × Nat) :=
  match args with
  | [x] => bif noEls sz x H then some (.own nx 0 0 0 0, H.set nx 0 (.row sz [] 0), nx + 1) else none
  | _ => none

def orcKeys (args : List AV) (H : AH) (nx : Nat) : Option (AV × AH × Nat) :=
  match args with
  | [.mp r] => some (.fn (.func f_maps_Keys_map_int_bool_int_bool_1) [.it nx], H.set nx 0 (.row 1 [[.mp r]] 0), nx + 1)
  | _ => none

def orcSorted (args : List AV) (H : AH) (nx : Nat) : Option (AV × AH × Nat) :=
  match args with
  | [.fn (.func g) [.it rb]] => bif Nat.beq g f_maps_Keys_map_int_bool_int_bool_1 then
      match H.get rb 0 with
      | some (.row 1 [[.mp r]] 0) => match H.get r 0 with
        | some (.row 3 ([.int .i64 c, _, _] :: es) 0) => match entI es with
          | some ps => bif nodB (ps.map (·.1)) && (nodB (ps.map (·.2)) && ((ps.all fun p => decide (p.2 < c)) && Nat.ble ps.length 1000000)) then
              some (.own nx 0 0 0 ps.length, H.set nx 0 (.row 1 ((sortI (ps.map (·.1))).map fun k => [.int .i64 k]) 0), nx + 1)
            else none
          | none => none
        | _ => none
      | _ => none
    else none
  | _ => none

def orc36 : CallX := fun f args H nx =>
  bif Nat.beq f f_maps_Keys_map_int_bool_int_bool then orcKeys args H nx
  else bif Nat.beq f f_slices_Sorted_int then orcSorted args H nx
  else bif Nat.beq f f_slices_Clone_api_Node_api_Node then orcClone 5 args H nx
  else bif Nat.beq f f_slices_Clone_api_Expr_api_Expr then orcClone 5 args H nx
  else bif Nat.beq f f_slices_Clone_int_int then orcClone 1 args H nx
  else none

theorem orcClone_ok {f sz bytes : Nat} {z : List AV} (hc : compF Tryz.prog f (qRo []) = some ((acClone sz bytes z).strip, [.tmp 2], 8)) {args : List AV} {H : AH} {nx : Nat} {r : AV × AH × Nat} (h : orcClone sz args H nx = some r) :
    CallOk Tryz.prog f args H nx (fun v H' nx' => (v, H', nx') = r) := by
  unfold orcClone at h
  split at h
  · rename_i x
    cases hx : noEls sz x H with
    | false => rw [hx] at h; cases h
    | true => rw [hx] at h; cases h; exact clone_nothing hc (by decide) hx
  · cases h

theorem orc36_sound : orc36.Sound Tryz.prog := by
  intro f args H nx r h
  unfold orc36 at h
  cases h1 : Nat.beq f f_maps_Keys_map_int_bool_int_bool with
  | true =>
    rw [h1] at h
    obtain rfl := beq_true h1
    simp only [cond_true] at h
    unfold orcKeys at h
    split at h
    · cases h; exact keys_call _
    · cases h
  | false =>
  rw [h1] at h
  cases h2 : Nat.beq f f_slices_Sorted_int with
  | true =>
    rw [h2] at h
    obtain rfl := beq_true h2
    simp only [cond_true, cond_false] at h
    unfold orcSorted at h
    split at h
    · rename_i g rb
      cases hg : Nat.beq g f_maps_Keys_map_int_bool_int_bool_1 with
      | false => rw [hg] at h; cases h
      | true =>
        rw [hg] at h
        obtain rfl := beq_true hg
        simp only [cond_true] at h
        split at h
        · rename_i r hb
          split at h
          · rename_i c u u' es hm
            split at h
            · rename_i ps hes
              generalize hcond : (nodB (ps.map (·.1)) && _) = cond at h
              cases cond with
              | false => cases h
              | true =>
                cases h
                simp only [Bool.and_eq_true, List.all_eq_true, decide_eq_true_eq] at hcond
                exact sorted_call hb hm hes (nodB_ok hcond.1) (nodB_ok hcond.2.1) hcond.2.2.1 (bleT hcond.2.2.2)
            · cases h
          · cases h
        · cases h
    · cases h
  | false =>
  rw [h2] at h
  cases h3 : Nat.beq f f_slices_Clone_api_Node_api_Node with
  | true => rw [h3] at h; obtain rfl := beq_true h3; exact orcClone_ok bcl_Node h
  | false =>
  rw [h3] at h
  cases h4 : Nat.beq f f_slices_Clone_api_Expr_api_Expr with
  | true => rw [h4] at h; obtain rfl := beq_true h4; exact orcClone_ok bcl_Expr h
  | false =>
  rw [h4] at h
  cases h5 : Nat.beq f f_slices_Clone_int_int with
  | true => rw [h5] at h; obtain rfl := beq_true h5; exact orcClone_ok bcl_int h
  | false => rw [h5] at h; cases h

end Go.Ab

namespace Go.Ab

def q36 : FuncId → Nat → List Nat := qTabK [(f_gosem_cut_init, ([], [0], [])),
  (f_L36_StructureOnce, ([], [153131183434107391], [(8, [1]), (17, [12])])),
  (f_L36_StructureBuilds, ([], [639], [])),
  (f_L36_StructureChecks, ([], [4127], [])),
  (f_L36_StructureCounts, ([], [39], [(3, [14])])),
  (f_L36_StructureSimplifies, ([], [4175], [(6, [20])])),
  (f_L36_StructureGotos, ([], [20769187743700468513022123643584511], [])),
  (f_L36_StructureLoops, ([], [162259279247065020637433926156287], [])),
  (f_L36_few, ([], [591484760677544919167], [])),
  (f_L36_exampleHolds, ([12, 14, 18, 20, 28, 32, 34, 36, 43, 45, 47, 50, 66, 78], [255], [(9, [9, 25])])),
  (f_structure_Build, ([], [568332671], [])),
  (f_R19_CheckGraph, ([], [2417999287491809886999039], [])),
  (f_structure_Blocks, ([], [1050543], [])),
  (f_R24_Reachable, ([], [4159], [])),
  (f_R24_Has, ([], [131635], [])),
  (f_structure_Check, ([], [137716893951], [(15, [1, 2])])),
  (f_structure_Simplify, ([], [985163492243583], [])),
  (f_R36_Build, ([], [1151], [])),
  (f_R36_Same, ([], [2418003825158137522946175], [])),
  (f_L36_small, ([], [7], [])),
  (f_R36_Check, ([], [18033092365263871], [])),
  (f_structure_Gotos, ([], [34735], [])),
  (f_R36_Gotos, ([], [16543], [])),
  (f_R24_Ints, ([], [19], [])),
  (f_structure_Labels, ([], [34735], [])),
  (f_R36_Labels, ([], [131231], [])),
  (f_R36_Blocks, ([], [4198431], [])),
  (f_L36_leaves, ([], [67244047], [])),
  (f_R36_Simplify, ([], [67109951], [])),
  (f_R24_Order, ([], [524863], [])),
  (f_R24_Edges, ([], [17180000503], [])),
  (f_R24_Tree, ([], [2111], [])),
  (f_R24_Predecessors, ([], [33818751], [])),
  (f_R24_Dominates, ([], [17716773063], [])),
  (f_L36_loopsIn, ([], [528415], [])),
  (f_L36_conditions, ([], [4127], [])),
  (f_L19_Nodes, ([], [2148532687], [])),
  (f_L36_jump, ([], [5], [])),
  (f_L36_seq, ([], [5], [])),
  (f_L36_block, ([], [5], [])),
  (f_il_CheckGraph, ([], [4636591142270639], [])),
  (f_structure_newBuilder, ([], [4533489117377705399028447], [])),
  (f_structure_builder_code, ([], [16785383], [(6, [9])])),
  (f_structure_all, ([], [69793220735], [])),
  (f_structure_prune, ([], [8396471], [])),
  (f_R19_isClosed, ([], [576478346637019383], [])),
  (f_R19_CheckStmt, ([], [2417925426205621976301599], [])),
  (f_R24_from, ([], [4611721211406190543], [])),
  (f_slices_ContainsFunc_api_Node_api_Node, ([], [19], [])),
  (f_structure_Check_1, ([], [7], [])),
  (f_structure_formed, ([], [154742504910672625680777343], [])),
  (f_structure_covers, ([], [19360524294128575204755323], [])),
  (f_structure_inLoops, ([], [65567], [])),
  (f_structure_Check_2, ([], [15], [])),
  (f_slices_Contains_int_int, ([], [19], [])),
  (f_slices_Sort_int_int, ([], [5], [])),
  (f_slices_Compact_int_int, ([], [17596514574653], [])),
  (f_slices_Clone_int_int, ([], [21], [])),
  (f_slices_Clone_api_Node_api_Node, ([], [21], [])),
  (f_structure_flatten, ([], [3615], [])),
  (f_structure_trim, ([], [121332966943], [])),
  (f_slices_Clone_api_Expr_api_Expr, ([], [21], [])),
  (f_structure_copyExpr, ([], [7183], [])),
  (f_structure_flat, ([], [137443270975], [(8, [10])])),
  (f_R36_code, ([], [154742504946702430897184751], [])),
  (f_R36_strip, ([], [1073743991], [])),
  (f_R36_targets, ([], [32927], [])),
  (f_R19_Same, ([], [576497036187140159], [])),
  (f_L36_weight, ([], [34426982519], [])),
  (f_R36_formed, ([], [131343], [])),
  (f_R36_covers, ([], [17179902207], [])),
  (f_R36_stray, ([], [2199027580983], [])),
  (f_R24_Lists, ([], [4503634255579251], [])),
  (f_R36_again, ([], [543], [])),
  (f_R36_cut, ([], [139586718751], [])),
  (f_R36_flat, ([], [2199027458207], [])),
  (f_R24_visit, ([], [2149581295], [])),
  (f_R24_targets, ([], [1082523791], [])),
  (f_R24_strict, ([], [140741817401855], [])),
  (f_R24_nearest, ([], [274877923571], [])),
  (f_il_shaped, ([], [9345848867383], [])),
  (f_il_checkStmt, ([], [17732730991], [])),
  (f_dominator_Tree, ([], [71], [])),
  (f_dominator_Order, ([], [7], [])),
  (f_il_Successors, ([], [1082523791], [])),
  (f_loops_Find, ([], [7696599156671], [(9, [5])])),
  (f_structure_builder_loop, ([], [5444517870735015490971866452025900261023], [(18, [10]), (19, [6, 8])])),
  (f_structure_builder_split, ([], [2101171], [])),
  (f_structure_builder_transfer, ([], [1180861854287308271583], [])),
  (f_structure_first, ([], [155], [])),
  (f_structure_seq, ([], [5], [])),
  (f_structure_builder_chain, ([], [8421351], [])),
  (f_R19_Ends, ([], [7], [])),
  (f_R19_targets, ([], [132151], [])),
  (f_R19_exprs, ([], [93], [])),
  (f_R19_CheckExpr, ([], [151], [])),
  (f_R19_unused, ([], [31], [])),
  (f_R19_IsVar, ([], [5], [])),
  (f_slices_IndexFunc_api_Node_api_Node, ([], [66483], [])),
  (f_il_CheckExpr, ([], [143], [])),
  (f_dominator_Reachable, ([], [30767], [])),
  (f_structure_inLoops_1, ([], [15], [])),
  (f_slices_Index_int_int, ([], [66483], [])),
  (f_slices_pdqsortOrdered_int, ([], [10384593871817177683247510831234831], [])),
  (f_math_bits_Len, ([], [5], [])),
  (f_slices_Concat_api_Node_api_Node, ([], [504373101], [])),
  (f_R36_beyond, ([], [70368752566775], [])),
  (f_R36_kids, ([], [8589936759], [])),
  (f_R36_edgesTo, ([], [34493964791], [])),
  (f_R36_natural, ([], [162259277131445106534407549223927], [])),
  (f_R36_inside, ([], [2099103], [])),
  (f_R36_seq, ([], [5], [])),
  (f_R36_loopOf, ([], [562949953425311], [])),
  (f_R36_after, ([], [1127], [])),
  (f_R36_fields, ([], [4616189618057552319], [])),
  (f_R36_whiles, ([], [140879222276159], [])),
  (f_il_terminator, ([], [7], [])),
  (f_slices_ContainsFunc_api_Stmt_api_Stmt, ([], [19], [])),
  (f_slices_ContainsFunc_int_int, ([], [19], [])),
  (f_il_shaped_1, ([], [11], [])),
  (f_il_expressions, ([], [2589], [])),
  (f_il_fields, ([], [18032061663346911], [])),
  (f_dominator_tree, ([], [81208866883799183159208249057267], [])),
  (f_dominator_all, ([], [14367], [])),
  (f_dominator_order, ([], [2295], [])),
  (f_loops_BackEdges, ([], [70800343807], [])),
  (f_loops_edges, ([], [4310819007], [])),
  (f_slices_ContainsFunc_2_int_2_int, ([], [19], [])),
  (f_loops_Find_1, ([], [15], [])),
  (f_loops_body, ([], [2305844110935750607], [])),
  (f_loops_exits, ([], [276315827], [])),
  (f_slices_Clone_loops_Loop_loops_Loop, ([], [21], [])),
  (f_loops_Nest, ([], [17179873267], [])),
  (f_structure_builder_last, ([], [51], [])),
  (f_structure_builder_transfer_1, ([], [47], [])),
  (f_structure_builder_way, ([], [545391503], [])),
  (f_R19_isDeep, ([], [4198583], [])),
  (f_R19_isFormed, ([], [1298074215238169961055195466694927], [])),
  (f_il_shallow, ([], [31], [])),
  (f_il_formed, ([], [8864946749727], [])),
  (f_slices_insertionSortOrdered_int, ([], [1073746119], [])),
  (f_slices_heapSortOrdered_int, ([], [1074268103], [])),
  (f_slices_breakPatternsOrdered_int, ([], [8804682991559], [])),
  (f_slices_choosePivotOrdered_int, ([], [20829169751433159], [])),
  (f_slices_reverseRangeOrdered_int, ([], [8391], [])),
  (f_slices_partialInsertionSortOrdered_int, ([], [83087207854311395603287443752634311], [])),
  (f_cmp_Less_int, ([], [19], [])),
  (f_slices_partitionEqualOrdered_int, ([], [19023213622105999119], [])),
  (f_slices_partitionOrdered_int, ([], [22458641409078797123448399039441150152463], [])),
  (f_math_bits_Len32, ([], [277], [])),
  (f_math_bits_Len64, ([], [16661], [])),
  (f_slices_Grow_api_Node_api_Node, ([], [65619], [])),
  (f_R36_reached, ([], [23], [])),
  (f_R36_transfer, ([], [604465220153940708952047], [])),
  (f_slices_IndexFunc_api_Stmt_api_Stmt, ([], [66483], [])),
  (f_slices_IndexFunc_int_int, ([], [66483], [])),
  (f_il_variable, ([], [5], [])),
  (f_il_access, ([], [5], [])),
  (f_dominator_turned, ([], [3946589], [])),
  (f_dominator_tree_1, ([], [262735], [])),
  (f_dominator_edges, ([], [138563092727], [])),
  (f_dominator_order_1, ([], [17023135], [])),
  (f_slices_Reverse_int_int, ([], [525], [])),
  (f_dominator_Dominates, ([], [17597437313095], [])),
  (f_dominator_Predecessors, ([], [3615], [])),
  (f_slices_IndexFunc_2_int_2_int, ([], [66483], [])),
  (f_slices_Sorted_int, ([], [13], [])),
  (f_maps_Keys_map_int_bool_int_bool, ([], [7], [])),
  (f_slices_ContainsFunc_api_Expr_api_Expr, ([], [19], [])),
  (f_il_shallow_1, ([], [15], [])),
  (f_il_formed_1, ([], [7], [])),
  (f_slices_siftDownOrdered_int, ([], [4503668346913551], [])),
  (f_slices_nextPowerOfTwo, ([], [5], [])),
  (f_slices_xorshift_Next, ([], [5], [])),
  (f_slices_medianAdjacentOrdered_int, ([], [71], [])),
  (f_slices_medianOrdered_int, ([], [1055], [])),
  (f_cmp_isNaN_int, ([], [5], [])),
  (f_R36_way, ([], [1162750726242719], [])),
  (f_slices_DeleteFunc_int_int, ([], [537399539], [])),
  (f_dominator_edges_1, ([], [11], [])),
  (f_slices_Collect_int, ([], [5], [])),
  (f_maps_Keys_map_int_bool_int_bool_1, ([], [8363], [])),
  (f_slices_IndexFunc_api_Expr_api_Expr, ([], [66483], [])),
  (f_slices_order2Ordered_int, ([], [262927], [])),
  (f_slices_AppendSeq_int_int, ([], [23], []))]

end Go.Ab

namespace Go.Ab

def stmV (op nx el : Int) (e : AV) : List AV := [.int .i64 op, .int .i64 0, .int .i64 0, .int .i64 nx, .int .i64 el, .int .u32 0, e, .nilsl]
def exG36 : AV := .agg [.int .u32 0, slL 2 [[.int .u32 0, slL 8 [stmV 6 1 0 .nilsl]], [.int .u32 0, slL 8 [stmV 7 2 3 (slL 5 [[.int .i64 2, .int .u32 0, .int .i64 1, .int .i64 0, .nilsl]])]], [.int .u32 0, slL 8 [stmV 6 1 0 .nilsl]], [.int .u32 0, slL 8 [stmV 10 0 0 .nilsl]]]]

end Go.Ab
