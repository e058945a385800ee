/-
  Part 5 of the proof: how the calls of this program run, over values instead of memory, and what each function computes.
-/
import Derived.Test.YtpinnphfnmnjlaaProg
import Derived.KernelRfl
import Derived.IntWalk
import Derived.Test.YtpinnphfnmnjlaaKd
set_option linter.unusedVariables false
set_option linter.unusedSimpArgs false
set_option linter.unnecessarySimpa false
set_option linter.unusedSectionVars false

namespace Go.Ab

def f_L08_ObjectRoundTrip : Nat := 7
def f_L08_ObjectCanonical : Nat := 8
def f_L08_ObjectDamage : Nat := 9
def f_L08_large : Nat := 10
def f_L08_exampleHolds : Nat := 11
def f_object_Check : Nat := 12
def f_object_Encode : Nat := 14
def f_R05_SameBytes : Nat := 16
def f_object_Checksum : Nat := 17
def f_object_Same : Nat := 19
def f_R08_Same : Nat := 20
def f_object_Decode : Nat := 21
def f_L08_example : Nat := 23
def f_reloc_Check : Nat := 24
def f_section_Find : Nat := 25
def f_object_Encode_1 : Nat := 28
def f_image_Put : Nat := 29
def f_object_Encode_2 : Nat := 30
def f_image_PutText : Nat := 31
def f_object_truth : Nat := 32
def f_slices_EqualFunc_api_Section_api_Section_api_Section_api_Section : Nat := 36
def f_object_Same_1 : Nat := 37
def f_slices_Equal_byte_byte : Nat := 38
def f_slices_Equal_api_Symbol_api_Symbol : Nat := 39
def f_slices_Equal_api_Reloc_api_Reloc : Nat := 40
def f_R05_SameSections : Nat := 41
def f_object_position_bytes : Nat := 42
def f_object_position_fail : Nat := 43
def f_object_position_number : Nat := 44
def f_object_reader_sections : Nat := 45
def f_object_reader_symbols : Nat := 46
def f_object_reader_relocs : Nat := 47
def f_section_Check : Nat := 51
def f_symbol_Check : Nat := 52
def f_reloc_one : Nat := 53
def f_reloc_shared : Nat := 54
def f_slices_IndexFunc_api_Section_api_Section : Nat := 55
def f_section_Find_1 : Nat := 56
def f_section_space : Nat := 57
def f_image_own : Nat := 63
def f_image_valid : Nat := 64
def f_slices_Clone_byte_byte : Nat := 66
def f_image_Get : Nat := 67
def f_object_position_text : Nat := 68
def f_slices_ContainsFunc_api_Section_api_Section : Nat := 72
def f_section_Check_1 : Nat := 73
def f_section_name : Nat := 74
def f_section_meet : Nat := 75
def f_section_stack : Nat := 76
def f_section_Check_2 : Nat := 77
def f_symbol_name : Nat := 78
def f_symbol_Find : Nat := 79
def f_image_GetText : Nat := 84
end Go.Ab

namespace Go.Ab
open Go.RowKit Go.Proofs

def ac_R05_SameBytes_l0 : ACode :=
  /-live [0, 1, 5]-/ .seq /-6-/ (.seq /-7-/ (.region [ ⟨(some 11), .mov (.t 5), none⟩, ⟨(some 12), .mov (.t 0), none⟩, ⟨(some 13), .len (.t 12), none⟩, ⟨(some 14), .bin .lss (.t 11) (.t 13), none⟩] [11, 12, 13]) (.cond (.t 14) (.skip) (.exit 0))) (.seq /-8-/ (.block 1 (.seq /-9-/ (.draw ( .step ⟨(some 17), .mov (.t 0), none⟩ ( .step ⟨(some 18), .mov (.t 5), none⟩ ( .step ⟨(some 19), .idx 1 (.t 17) (.t 18), none⟩ ( .step ⟨(some 20), .load false 1 (.t 19), none⟩ ( .step ⟨(some 21), .mov (.t 1), none⟩ ( .step ⟨(some 22), .mov (.t 5), none⟩ ( .step ⟨(some 23), .idx 1 (.t 21) (.t 22), none⟩ ( .step ⟨(some 24), .load false 1 (.t 23), none⟩ ( .step ⟨(some 25), .bin .neq (.t 20) (.t 24), none⟩ ( .done)))))))))) [14, 17, 18, 19, 20, 21, 22, 23, 24]) (.cond (.t 25) (.seq /-10-/ (.region [ ⟨(some 4), .mov (.c (.bool false)), none⟩] [0, 1, 5, 25]) (.ret)) (.skip)))) (.region [ ⟨(some 15), .mov (.t 5), none⟩, ⟨(some 16), .bin .add (.t 15) (.c (.int .i64 1)), none⟩, ⟨(some 5), .mov (.t 16), none⟩] [4, 15, 16, 25]))

def ac_R05_SameBytes_k1 : ACode :=
  /-live []-/ .seq /-11-/ (.region [ ⟨(some 4), .mov (.c (.bool true)), none⟩] [0, 1, 5]) (.ret)

/-- decompiler/decompilerref05.SameBytes -/
def ac_R05_SameBytes : ACode := .seq /-0-/ (.region [ ⟨(some 4), .mov (.c (.bool false)), none⟩] [4]) (.seq /-1-/ (.seq /-2-/ (.region [ ⟨(some 6), .mov (.t 0), none⟩, ⟨(some 7), .len (.t 6), none⟩, ⟨(some 8), .mov (.t 1), none⟩, ⟨(some 9), .len (.t 8), none⟩, ⟨(some 10), .bin .neq (.t 7) (.t 9), none⟩] [6, 7, 8, 9]) (.cond (.t 10) (.seq /-3-/ (.region [ ⟨(some 4), .mov (.c (.bool false)), none⟩] [0, 1, 10]) (.ret)) (.skip))) (.seq /-4-/ (.seq /-5-/ (.region [ ⟨(some 5), .mov (.c (.int .i64 0)), none⟩] [4, 10]) (.block 0 (.loop ac_R05_SameBytes_l0))) (ac_R05_SameBytes_k1)))

def rs_R05_SameBytes : List ARet := [.tmp 4]

set_option maxRecDepth 100000 in
theorem cf_R05_SameBytes : compF Try.prog f_R05_SameBytes (qRo []) = some (ac_R05_SameBytes.strip, rs_R05_SameBytes, 26) := by kernel_rfl

def ac_R05_SameSections_l0 : ACode :=
  /-live [0, 1, 5]-/ .seq /-6-/ (.seq /-7-/ (.region [ ⟨(some 11), .mov (.t 5), none⟩, ⟨(some 12), .mov (.t 0), none⟩, ⟨(some 13), .len (.t 12), none⟩, ⟨(some 14), .bin .lss (.t 11) (.t 13), none⟩] [11, 12, 13]) (.cond (.t 14) (.skip) (.exit 0))) (.seq /-8-/ (.block 1 (.seq /-9-/ (.draw ( .step ⟨(some 17), .mov (.t 0), none⟩ ( .step ⟨(some 18), .mov (.t 5), none⟩ ( .step ⟨(some 19), .idx 5 (.t 17) (.t 18), none⟩ ( .step ⟨(some 20), .fldaddr 0 1 (.t 19), none⟩ ( .step ⟨(some 21), .load false 1 (.t 20), none⟩ ( .step ⟨(some 22), .mov (.t 1), none⟩ ( .step ⟨(some 23), .mov (.t 5), none⟩ ( .step ⟨(some 24), .idx 5 (.t 22) (.t 23), none⟩ ( .step ⟨(some 25), .fldaddr 0 1 (.t 24), none⟩ ( .step ⟨(some 26), .load false 1 (.t 25), none⟩ ( .step ⟨(some 27), .xop (.seq true) [(.t 21), (.t 26)], none⟩ ( .step ⟨(some 28), .mov (.t 27), none⟩ ( .step ⟨(some 29), .mov (.t 0), (some (28, false))⟩ ( .step ⟨(some 30), .mov (.t 5), (some (28, false))⟩ ( .step ⟨(some 31), .idx 5 (.t 29) (.t 30), (some (28, false))⟩ ( .step ⟨(some 32), .fldaddr 1 1 (.t 31), (some (28, false))⟩ ( .step ⟨(some 33), .load false 1 (.t 32), (some (28, false))⟩ ( .step ⟨(some 34), .mov (.t 1), (some (28, false))⟩ ( .step ⟨(some 35), .mov (.t 5), (some (28, false))⟩ ( .step ⟨(some 36), .idx 5 (.t 34) (.t 35), (some (28, false))⟩ ( .step ⟨(some 37), .fldaddr 1 1 (.t 36), (some (28, false))⟩ ( .step ⟨(some 38), .load false 1 (.t 37), (some (28, false))⟩ ( .step ⟨(some 39), .bin .neq (.t 33) (.t 38), (some (28, false))⟩ ( .step ⟨(some 40), .pick (.t 28) (.c (.bool true)) (.t 39), none⟩ ( .step ⟨(some 41), .mov (.t 40), none⟩ ( .step ⟨(some 42), .mov (.t 0), (some (41, false))⟩ ( .step ⟨(some 43), .mov (.t 5), (some (41, false))⟩ ( .step ⟨(some 44), .idx 5 (.t 42) (.t 43), (some (41, false))⟩ ( .step ⟨(some 45), .fldaddr 3 1 (.t 44), (some (41, false))⟩ ( .step ⟨(some 46), .load false 1 (.t 45), (some (41, false))⟩ ( .step ⟨(some 47), .mov (.t 1), (some (41, false))⟩ ( .step ⟨(some 48), .mov (.t 5), (some (41, false))⟩ ( .step ⟨(some 49), .idx 5 (.t 47) (.t 48), (some (41, false))⟩ ( .step ⟨(some 50), .fldaddr 3 1 (.t 49), (some (41, false))⟩ ( .step ⟨(some 51), .load false 1 (.t 50), (some (41, false))⟩ ( .step ⟨(some 52), .eqb true (.t 46) (.t 51), (some (41, false))⟩ ( .step ⟨(some 53), .pick (.t 41) (.c (.bool true)) (.t 52), none⟩ ( .step ⟨(some 54), .mov (.t 53), none⟩ ( .step ⟨(some 55), .mov (.t 0), (some (54, false))⟩ ( .step ⟨(some 56), .mov (.t 5), (some (54, false))⟩ ( .step ⟨(some 57), .idx 5 (.t 55) (.t 56), (some (54, false))⟩ ( .step ⟨(some 58), .fldaddr 4 1 (.t 57), (some (54, false))⟩ ( .step ⟨(some 59), .load false 1 (.t 58), (some (54, false))⟩ ( .step ⟨(some 60), .mov (.t 1), (some (54, false))⟩ ( .step ⟨(some 61), .mov (.t 5), (some (54, false))⟩ ( .step ⟨(some 62), .idx 5 (.t 60) (.t 61), (some (54, false))⟩ ( .step ⟨(some 63), .fldaddr 4 1 (.t 62), (some (54, false))⟩ ( .step ⟨(some 64), .load false 1 (.t 63), (some (54, false))⟩ ( .step ⟨(some 65), .eqb true (.t 59) (.t 64), (some (54, false))⟩ ( .step ⟨(some 66), .pick (.t 54) (.c (.bool true)) (.t 65), none⟩ ( .step ⟨(some 67), .mov (.t 66), none⟩ ( .step ⟨(some 68), .mov (.t 0), (some (67, false))⟩ ( .step ⟨(some 69), .mov (.t 5), (some (67, false))⟩ ( .step ⟨(some 70), .idx 5 (.t 68) (.t 69), (some (67, false))⟩ ( .step ⟨(some 71), .fldaddr 2 1 (.t 70), (some (67, false))⟩ ( .step ⟨(some 72), .load false 1 (.t 71), (some (67, false))⟩ ( .step ⟨(some 73), .mov (.t 1), (some (67, false))⟩ ( .step ⟨(some 74), .mov (.t 5), (some (67, false))⟩ ( .step ⟨(some 75), .idx 5 (.t 73) (.t 74), (some (67, false))⟩ ( .step ⟨(some 76), .fldaddr 2 1 (.t 75), (some (67, false))⟩ ( .step ⟨(some 77), .load false 1 (.t 76), (some (67, false))⟩ ( .step ⟨(some 78), .callq f_R05_SameBytes [(.t 72), (.t 77)], (some (67, false))⟩ ( .step ⟨(some 79), .un .not (.t 78), (some (67, false))⟩ ( .step ⟨(some 80), .pick (.t 67) (.c (.bool true)) (.t 79), none⟩ ( .done))))))))))))))))))))))))))))))))))))))))))))))))))))))))))))))))) [14, 17, 18, 19, 20, 21, 22, 23, 24, 25, 26, 27, 28, 29, 30, 31, 32, 33, 34, 35, 36, 37, 38, 39, 40, 41, 42, 43, 44, 45, 46, 47, 48, 49, 50, 51, 52, 53, 54, 55, 56, 57, 58, 59, 60, 61, 62, 63, 64, 65, 66, 67, 68, 69, 70, 71, 72, 73, 74, 75, 76, 77, 78, 79]) (.cond (.t 80) (.seq /-10-/ (.region [ ⟨(some 4), .mov (.c (.bool false)), none⟩] [0, 1, 5, 80]) (.ret)) (.skip)))) (.region [ ⟨(some 15), .mov (.t 5), none⟩, ⟨(some 16), .bin .add (.t 15) (.c (.int .i64 1)), none⟩, ⟨(some 5), .mov (.t 16), none⟩] [4, 15, 16, 80]))

def ac_R05_SameSections_k1 : ACode :=
  /-live []-/ .seq /-11-/ (.region [ ⟨(some 4), .mov (.c (.bool true)), none⟩] [0, 1, 5]) (.ret)

/-- decompiler/decompilerref05.SameSections -/
def ac_R05_SameSections : ACode := .seq /-0-/ (.region [ ⟨(some 4), .mov (.c (.bool false)), none⟩] [4]) (.seq /-1-/ (.seq /-2-/ (.region [ ⟨(some 6), .mov (.t 0), none⟩, ⟨(some 7), .len (.t 6), none⟩, ⟨(some 8), .mov (.t 1), none⟩, ⟨(some 9), .len (.t 8), none⟩, ⟨(some 10), .bin .neq (.t 7) (.t 9), none⟩] [6, 7, 8, 9]) (.cond (.t 10) (.seq /-3-/ (.region [ ⟨(some 4), .mov (.c (.bool false)), none⟩] [0, 1, 10]) (.ret)) (.skip))) (.seq /-4-/ (.seq /-5-/ (.region [ ⟨(some 5), .mov (.c (.int .i64 0)), none⟩] [4, 10]) (.block 0 (.loop ac_R05_SameSections_l0))) (ac_R05_SameSections_k1)))

def rs_R05_SameSections : List ARet := [.tmp 4]

set_option maxRecDepth 100000 in
theorem cf_R05_SameSections : compF Try.prog f_R05_SameSections (qRo []) = some (ac_R05_SameSections.strip, rs_R05_SameSections, 81) := by kernel_rfl

end Go.Ab

namespace Go.Ab
open Go.RowKit Go.Proofs

def ac_reloc_Check_l0 : ACode :=
  /-live [1, 25, 26, 27]-/ .seq /-14-/ (.region [ ⟨(some 28), .bin .lss (.t 27) (.t 26), none⟩] []) (.seq /-15-/ (.cond (.t 28) (.skip) (.exit 0)) (.seq /-16-/ (.block 1 (.seq /-17-/ (.region [ ⟨(some 29), .idx 5 (.t 25) (.t 27), none⟩, ⟨(some 30), .load true 5 (.t 29), none⟩, ⟨(some 6), .alloc [.int .i64 0, .int .i64 0, .int .i64 0, .str ⟨#[]⟩, .int .i32 0], none⟩, ⟨none, .store 5 (.t 6) (.t 30), none⟩] [28, 29, 30]) (.seq /-18-/ (.region [ ⟨(some 31), .load true 4 (.t 1), none⟩, ⟨(some 32), .load true 5 (.t 6), none⟩, ⟨(some 33), .call f_reloc_one [(.t 31), (.t 32)], none⟩, ⟨(some 7), .mov (.t 33), none⟩] [6, 31, 32, 33]) (.seq /-19-/ (.region [ ⟨(some 34), .mov (.t 7), none⟩, ⟨(some 35), .bin .neq (.t 34) (.c (.int .i64 0)), none⟩] [34]) (.cond (.t 35) (.seq /-20-/ (.region [ ⟨(some 36), .mov (.t 7), none⟩, ⟨(some 2), .mov (.t 36), none⟩] [1, 7, 25, 26, 27, 35, 36]) (.ret)) (.skip)))))) (.region [ ⟨(some 37), .bin .add (.t 27) (.c (.int .i64 1)), none⟩, ⟨(some 27), .mov (.t 37), none⟩] [2, 7, 35, 37])))

def ac_reloc_Check_k1 : ACode :=
  /-live [1]-/ .seq /-21-/ (.seq /-22-/ (.region [ ⟨(some 38), .fldaddr 3 1 (.t 1), none⟩, ⟨(some 39), .load false 1 (.t 38), none⟩, ⟨(some 40), .call f_reloc_shared [(.t 39)], none⟩] [1, 25, 26, 27, 38, 39]) (.cond (.t 40) (.seq /-23-/ (.region [ ⟨(some 2), .mov (.c (.int .i64 10)), none⟩] [40]) (.ret)) (.skip))) (.seq /-24-/ (.region [ ⟨(some 2), .mov (.c (.int .i64 0)), none⟩] [40]) (.ret))

/-- decompiler/reloc.Check -/
def ac_reloc_Check : ACode := .seq /-0-/ (.region [ ⟨(some 1), .rbox (.t 0), none⟩, ⟨(some 2), .mov (.c (.int .i64 0)), none⟩] [0, 2]) (.seq /-1-/ (.seq /-2-/ (.region [ ⟨(some 8), .fldaddr 1 1 (.t 1), none⟩, ⟨(some 9), .load false 1 (.t 8), none⟩, ⟨(some 10), .call f_section_Check [(.t 9)], none⟩, ⟨(some 3), .mov (.t 10), none⟩] [8, 9, 10]) (.seq /-3-/ (.region [ ⟨(some 11), .mov (.t 3), none⟩, ⟨(some 12), .bin .neq (.t 11) (.c (.int .i64 0)), none⟩] [11]) (.cond (.t 12) (.seq /-4-/ (.region [ ⟨(some 13), .mov (.t 3), none⟩, ⟨(some 2), .mov (.t 13), none⟩] [1, 3, 12, 13]) (.ret)) (.skip)))) (.seq /-5-/ (.seq /-6-/ (.region [ ⟨(some 14), .fldaddr 2 1 (.t 1), none⟩, ⟨(some 15), .load false 1 (.t 14), none⟩, ⟨(some 16), .call f_symbol_Check [(.t 15)], none⟩, ⟨(some 4), .mov (.t 16), none⟩] [2, 3, 12, 14, 15, 16]) (.seq /-7-/ (.region [ ⟨(some 17), .mov (.t 4), none⟩, ⟨(some 18), .bin .neq (.t 17) (.c (.int .i64 0)), none⟩] [17]) (.cond (.t 18) (.seq /-8-/ (.region [ ⟨(some 19), .mov (.t 4), none⟩, ⟨(some 2), .mov (.t 19), none⟩] [1, 4, 18, 19]) (.ret)) (.skip)))) (.seq /-9-/ (.seq /-10-/ (.region [ ⟨(some 20), .fldaddr 3 1 (.t 1), none⟩, ⟨(some 21), .load false 1 (.t 20), none⟩, ⟨(some 22), .len (.t 21), none⟩, ⟨(some 23), .bin .gtr (.t 22) (.c (.int .i64 256)), none⟩] [2, 4, 18, 20, 21, 22]) (.cond (.t 23) (.seq /-11-/ (.region [ ⟨(some 2), .mov (.c (.int .i64 6)), none⟩] [1, 23]) (.ret)) (.skip))) (.seq /-12-/ (.seq /-13-/ (.region [ ⟨(some 24), .fldaddr 3 1 (.t 1), none⟩, ⟨(some 25), .load false 1 (.t 24), none⟩, ⟨(some 26), .len (.t 25), none⟩, ⟨(some 27), .mov (.c (.int .i64 0)), none⟩] [2, 23, 24]) (.block 0 (.loop ac_reloc_Check_l0))) (ac_reloc_Check_k1)))))

def rs_reloc_Check : List ARet := [.tmp 2]

set_option maxRecDepth 100000 in
theorem cf_reloc_Check : compF Try.prog f_reloc_Check (qRo [1]) = some (ac_reloc_Check.strip, rs_reloc_Check, 41) := by kernel_rfl


/-- decompiler/section.Find -/
def ac_section_Find : ACode := .seq /-0-/ (.region [ ⟨(some 3), .rbox (.t 1), none⟩, ⟨(some 4), .mov (.c (.int .i64 0)), none⟩] [1, 4]) (.seq /-1-/ (.region [ ⟨(some 5), .mov (.t 0), none⟩, ⟨(some 6), .mkfn (.func f_section_Find_1) [(.t 3)], none⟩, ⟨(some 7), .call f_slices_IndexFunc_api_Section_api_Section [(.t 5), (.t 6)], none⟩, ⟨(some 4), .mov (.t 7), none⟩] [0, 3, 5, 6, 7]) (.ret))

def rs_section_Find : List ARet := [.tmp 4]

set_option maxRecDepth 100000 in
theorem cf_section_Find : compF Try.prog f_section_Find (qRo [3]) = some (ac_section_Find.strip, rs_section_Find, 8) := by kernel_rfl

def ac_slices_EqualFunc_api_Section_api_Section_api_Section_api_Section_l0 : ACode :=
  /-live [1, 2, 15, 16, 17]-/ .seq /-6-/ (.region [ ⟨(some 18), .bin .lss (.t 17) (.t 16), none⟩] []) (.seq /-7-/ (.cond (.t 18) (.skip) (.exit 0)) (.seq /-8-/ (.block 1 (.seq /-9-/ (.region [ ⟨(some 19), .mov (.t 17), none⟩, ⟨(some 20), .idx 5 (.t 15) (.t 17), none⟩, ⟨(some 21), .load true 5 (.t 20), none⟩, ⟨(some 8), .alloc [.str ⟨#[]⟩, .int .u32 0, .nilsl, .bool false, .bool false], none⟩, ⟨(some 7), .mov (.t 19), none⟩, ⟨none, .store 5 (.t 8) (.t 21), none⟩] [18, 19, 20, 21]) (.seq /-10-/ (.region [ ⟨(some 22), .mov (.t 1), none⟩, ⟨(some 23), .mov (.t 7), none⟩, ⟨(some 24), .idx 5 (.t 22) (.t 23), none⟩, ⟨(some 25), .load true 5 (.t 24), none⟩, ⟨(some 9), .alloc [.str ⟨#[]⟩, .int .u32 0, .nilsl, .bool false, .bool false], none⟩, ⟨none, .store 5 (.t 9) (.t 25), none⟩] [7, 22, 23, 24, 25]) (.seq /-11-/ (.region [ ⟨(some 26), .mov (.t 2), none⟩, ⟨(some 27), .load true 5 (.t 8), none⟩, ⟨(some 28), .load true 5 (.t 9), none⟩, ⟨(some 29), .callv (.t 26) [(.t 27), (.t 28)], none⟩, ⟨(some 30), .un .not (.t 29), none⟩] [8, 9, 26, 27, 28, 29]) (.cond (.t 30) (.seq /-12-/ (.region [ ⟨(some 6), .mov (.c (.bool false)), none⟩] [1, 2, 15, 16, 17, 30]) (.ret)) (.skip)))))) (.region [ ⟨(some 31), .bin .add (.t 17) (.c (.int .i64 1)), none⟩, ⟨(some 17), .mov (.t 31), none⟩] [6, 30, 31])))

def ac_slices_EqualFunc_api_Section_api_Section_api_Section_api_Section_k1 : ACode :=
  /-live []-/ .seq /-13-/ (.region [ ⟨(some 6), .mov (.c (.bool true)), none⟩] [1, 2, 15, 16, 17]) (.ret)

/-- slices.EqualFunc[[]decompiler/api.Section,[]decompiler/api.Section,decompiler/api.Section,decompiler/api.Section] -/
def ac_slices_EqualFunc_api_Section_api_Section_api_Section_api_Section : ACode := .seq /-0-/ (.region [ ⟨(some 6), .mov (.c (.bool false)), none⟩] [6]) (.seq /-1-/ (.seq /-2-/ (.region [ ⟨(some 10), .mov (.t 0), none⟩, ⟨(some 11), .len (.t 10), none⟩, ⟨(some 12), .mov (.t 1), none⟩, ⟨(some 13), .len (.t 12), none⟩, ⟨(some 14), .bin .neq (.t 11) (.t 13), none⟩] [10, 11, 12, 13]) (.cond (.t 14) (.seq /-3-/ (.region [ ⟨(some 6), .mov (.c (.bool false)), none⟩] [0, 1, 2, 14]) (.ret)) (.skip))) (.seq /-4-/ (.seq /-5-/ (.region [ ⟨(some 15), .mov (.t 0), none⟩, ⟨(some 16), .len (.t 15), none⟩, ⟨(some 17), .mov (.c (.int .i64 0)), none⟩] [0, 6, 14]) (.block 0 (.loop ac_slices_EqualFunc_api_Section_api_Section_api_Section_api_Section_l0))) (ac_slices_EqualFunc_api_Section_api_Section_api_Section_api_Section_k1)))

def rs_slices_EqualFunc_api_Section_api_Section_api_Section_api_Section : List ARet := [.tmp 6]

set_option maxRecDepth 100000 in
theorem cf_slices_EqualFunc_api_Section_api_Section_api_Section_api_Section : compF Try.prog f_slices_EqualFunc_api_Section_api_Section_api_Section_api_Section (qRo []) = some (ac_slices_EqualFunc_api_Section_api_Section_api_Section_api_Section.strip, rs_slices_EqualFunc_api_Section_api_Section_api_Section_api_Section, 32) := by kernel_rfl

def ac_slices_Equal_byte_byte_l0 : ACode :=
  /-live [0, 1, 12, 13]-/ .seq /-6-/ (.region [ ⟨(some 14), .bin .lss (.t 13) (.t 12), none⟩] []) (.seq /-7-/ (.cond (.t 14) (.skip) (.exit 0)) (.seq /-8-/ (.block 1 (.seq /-9-/ (.region [ ⟨(some 15), .mov (.t 13), none⟩, ⟨(some 5), .mov (.t 15), none⟩] [14, 15]) (.seq /-10-/ (.draw ( .step ⟨(some 16), .mov (.t 0), none⟩ ( .step ⟨(some 17), .mov (.t 5), none⟩ ( .step ⟨(some 18), .idx 1 (.t 16) (.t 17), none⟩ ( .step ⟨(some 19), .load false 1 (.t 18), none⟩ ( .step ⟨(some 20), .mov (.t 1), none⟩ ( .step ⟨(some 21), .mov (.t 5), none⟩ ( .step ⟨(some 22), .idx 1 (.t 20) (.t 21), none⟩ ( .step ⟨(some 23), .load false 1 (.t 22), none⟩ ( .step ⟨(some 24), .bin .neq (.t 19) (.t 23), none⟩ ( .done)))))))))) [5, 16, 17, 18, 19, 20, 21, 22, 23]) (.cond (.t 24) (.seq /-11-/ (.region [ ⟨(some 4), .mov (.c (.bool false)), none⟩] [0, 1, 12, 13, 24]) (.ret)) (.skip))))) (.region [ ⟨(some 25), .bin .add (.t 13) (.c (.int .i64 1)), none⟩, ⟨(some 13), .mov (.t 25), none⟩] [4, 24, 25])))

def ac_slices_Equal_byte_byte_k1 : ACode :=
  /-live []-/ .seq /-12-/ (.region [ ⟨(some 4), .mov (.c (.bool true)), none⟩] [0, 1, 12, 13]) (.ret)

/-- slices.Equal[[]byte,byte] -/
def ac_slices_Equal_byte_byte : ACode := .seq /-0-/ (.region [ ⟨(some 4), .mov (.c (.bool false)), none⟩] [4]) (.seq /-1-/ (.seq /-2-/ (.region [ ⟨(some 6), .mov (.t 0), none⟩, ⟨(some 7), .len (.t 6), none⟩, ⟨(some 8), .mov (.t 1), none⟩, ⟨(some 9), .len (.t 8), none⟩, ⟨(some 10), .bin .neq (.t 7) (.t 9), none⟩] [6, 7, 8, 9]) (.cond (.t 10) (.seq /-3-/ (.region [ ⟨(some 4), .mov (.c (.bool false)), none⟩] [0, 1, 10]) (.ret)) (.skip))) (.seq /-4-/ (.seq /-5-/ (.region [ ⟨(some 11), .mov (.t 0), none⟩, ⟨(some 12), .len (.t 11), none⟩, ⟨(some 13), .mov (.c (.int .i64 0)), none⟩] [4, 10, 11]) (.block 0 (.loop ac_slices_Equal_byte_byte_l0))) (ac_slices_Equal_byte_byte_k1)))

def rs_slices_Equal_byte_byte : List ARet := [.tmp 4]

set_option maxRecDepth 100000 in
theorem cf_slices_Equal_byte_byte : compF Try.prog f_slices_Equal_byte_byte (qRo []) = some (ac_slices_Equal_byte_byte.strip, rs_slices_Equal_byte_byte, 26) := by kernel_rfl

def ac_slices_Equal_api_Symbol_api_Symbol_l0 : ACode :=
  /-live [0, 1, 12, 13]-/ .seq /-6-/ (.region [ ⟨(some 14), .bin .lss (.t 13) (.t 12), none⟩] []) (.seq /-7-/ (.cond (.t 14) (.skip) (.exit 0)) (.seq /-8-/ (.block 1 (.seq /-9-/ (.region [ ⟨(some 15), .mov (.t 13), none⟩, ⟨(some 5), .mov (.t 15), none⟩] [14, 15]) (.seq /-10-/ (.draw ( .step ⟨(some 16), .mov (.t 0), none⟩ ( .step ⟨(some 17), .mov (.t 5), none⟩ ( .step ⟨(some 18), .idx 3 (.t 16) (.t 17), none⟩ ( .step ⟨(some 19), .load true 3 (.t 18), none⟩ ( .step ⟨(some 20), .mov (.t 1), none⟩ ( .step ⟨(some 21), .mov (.t 5), none⟩ ( .step ⟨(some 22), .idx 3 (.t 20) (.t 21), none⟩ ( .step ⟨(some 23), .load true 3 (.t 22), none⟩ ( .step ⟨(some 24), .xop (.eqs true [1, 0, 0]) [(.t 19), (.t 23)], none⟩ ( .done)))))))))) [5, 16, 17, 18, 19, 20, 21, 22, 23]) (.cond (.t 24) (.seq /-11-/ (.region [ ⟨(some 4), .mov (.c (.bool false)), none⟩] [0, 1, 12, 13, 24]) (.ret)) (.skip))))) (.region [ ⟨(some 25), .bin .add (.t 13) (.c (.int .i64 1)), none⟩, ⟨(some 13), .mov (.t 25), none⟩] [4, 24, 25])))

def ac_slices_Equal_api_Symbol_api_Symbol_k1 : ACode :=
  /-live []-/ .seq /-12-/ (.region [ ⟨(some 4), .mov (.c (.bool true)), none⟩] [0, 1, 12, 13]) (.ret)

/-- slices.Equal[[]decompiler/api.Symbol,decompiler/api.Symbol] -/
def ac_slices_Equal_api_Symbol_api_Symbol : ACode := .seq /-0-/ (.region [ ⟨(some 4), .mov (.c (.bool false)), none⟩] [4]) (.seq /-1-/ (.seq /-2-/ (.region [ ⟨(some 6), .mov (.t 0), none⟩, ⟨(some 7), .len (.t 6), none⟩, ⟨(some 8), .mov (.t 1), none⟩, ⟨(some 9), .len (.t 8), none⟩, ⟨(some 10), .bin .neq (.t 7) (.t 9), none⟩] [6, 7, 8, 9]) (.cond (.t 10) (.seq /-3-/ (.region [ ⟨(some 4), .mov (.c (.bool false)), none⟩] [0, 1, 10]) (.ret)) (.skip))) (.seq /-4-/ (.seq /-5-/ (.region [ ⟨(some 11), .mov (.t 0), none⟩, ⟨(some 12), .len (.t 11), none⟩, ⟨(some 13), .mov (.c (.int .i64 0)), none⟩] [4, 10, 11]) (.block 0 (.loop ac_slices_Equal_api_Symbol_api_Symbol_l0))) (ac_slices_Equal_api_Symbol_api_Symbol_k1)))

def rs_slices_Equal_api_Symbol_api_Symbol : List ARet := [.tmp 4]

set_option maxRecDepth 100000 in
theorem cf_slices_Equal_api_Symbol_api_Symbol : compF Try.prog f_slices_Equal_api_Symbol_api_Symbol (qRo []) = some (ac_slices_Equal_api_Symbol_api_Symbol.strip, rs_slices_Equal_api_Symbol_api_Symbol, 26) := by kernel_rfl

def ac_slices_Equal_api_Reloc_api_Reloc_l0 : ACode :=
  /-live [0, 1, 12, 13]-/ .seq /-6-/ (.region [ ⟨(some 14), .bin .lss (.t 13) (.t 12), none⟩] []) (.seq /-7-/ (.cond (.t 14) (.skip) (.exit 0)) (.seq /-8-/ (.block 1 (.seq /-9-/ (.region [ ⟨(some 15), .mov (.t 13), none⟩, ⟨(some 5), .mov (.t 15), none⟩] [14, 15]) (.seq /-10-/ (.draw ( .step ⟨(some 16), .mov (.t 0), none⟩ ( .step ⟨(some 17), .mov (.t 5), none⟩ ( .step ⟨(some 18), .idx 5 (.t 16) (.t 17), none⟩ ( .step ⟨(some 19), .load true 5 (.t 18), none⟩ ( .step ⟨(some 20), .mov (.t 1), none⟩ ( .step ⟨(some 21), .mov (.t 5), none⟩ ( .step ⟨(some 22), .idx 5 (.t 20) (.t 21), none⟩ ( .step ⟨(some 23), .load true 5 (.t 22), none⟩ ( .step ⟨(some 24), .xop (.eqs true [0, 0, 0, 1, 0]) [(.t 19), (.t 23)], none⟩ ( .done)))))))))) [5, 16, 17, 18, 19, 20, 21, 22, 23]) (.cond (.t 24) (.seq /-11-/ (.region [ ⟨(some 4), .mov (.c (.bool false)), none⟩] [0, 1, 12, 13, 24]) (.ret)) (.skip))))) (.region [ ⟨(some 25), .bin .add (.t 13) (.c (.int .i64 1)), none⟩, ⟨(some 13), .mov (.t 25), none⟩] [4, 24, 25])))

def ac_slices_Equal_api_Reloc_api_Reloc_k1 : ACode :=
  /-live []-/ .seq /-12-/ (.region [ ⟨(some 4), .mov (.c (.bool true)), none⟩] [0, 1, 12, 13]) (.ret)

/-- slices.Equal[[]decompiler/api.Reloc,decompiler/api.Reloc] -/
def ac_slices_Equal_api_Reloc_api_Reloc : ACode := .seq /-0-/ (.region [ ⟨(some 4), .mov (.c (.bool false)), none⟩] [4]) (.seq /-1-/ (.seq /-2-/ (.region [ ⟨(some 6), .mov (.t 0), none⟩, ⟨(some 7), .len (.t 6), none⟩, ⟨(some 8), .mov (.t 1), none⟩, ⟨(some 9), .len (.t 8), none⟩, ⟨(some 10), .bin .neq (.t 7) (.t 9), none⟩] [6, 7, 8, 9]) (.cond (.t 10) (.seq /-3-/ (.region [ ⟨(some 4), .mov (.c (.bool false)), none⟩] [0, 1, 10]) (.ret)) (.skip))) (.seq /-4-/ (.seq /-5-/ (.region [ ⟨(some 11), .mov (.t 0), none⟩, ⟨(some 12), .len (.t 11), none⟩, ⟨(some 13), .mov (.c (.int .i64 0)), none⟩] [4, 10, 11]) (.block 0 (.loop ac_slices_Equal_api_Reloc_api_Reloc_l0))) (ac_slices_Equal_api_Reloc_api_Reloc_k1)))

def rs_slices_Equal_api_Reloc_api_Reloc : List ARet := [.tmp 4]

set_option maxRecDepth 100000 in
theorem cf_slices_Equal_api_Reloc_api_Reloc : compF Try.prog f_slices_Equal_api_Reloc_api_Reloc (qRo []) = some (ac_slices_Equal_api_Reloc_api_Reloc.strip, rs_slices_Equal_api_Reloc_api_Reloc, 26) := by kernel_rfl

def ac_section_Check_l0 : ACode :=
  /-live [0, 11, 12, 13]-/ .seq /-6-/ (.region [ ⟨(some 14), .bin .lss (.t 13) (.t 12), none⟩] []) (.seq /-7-/ (.cond (.t 14) (.skip) (.exit 0)) (.seq /-8-/ (.block 1 (.seq /-9-/ (.region [ ⟨(some 15), .mov (.t 13), none⟩, ⟨(some 16), .idx 5 (.t 11) (.t 13), none⟩, ⟨(some 17), .load true 5 (.t 16), none⟩, ⟨(some 4), .alloc [.str ⟨#[]⟩, .int .u32 0, .nilsl, .bool false, .bool false], none⟩, ⟨(some 3), .mov (.t 15), none⟩, ⟨none, .store 5 (.t 4) (.t 17), none⟩] [14, 15, 16, 17]) (.seq /-10-/ (.region [ ⟨(some 18), .mov (.t 0), none⟩, ⟨(some 19), .mov (.t 3), none⟩, ⟨(some 20), .slice 5 (.t 18) none (some (.t 19)), none⟩, ⟨(some 21), .mkfn (.func f_section_Check_1) [(.t 4)], none⟩, ⟨(some 22), .call f_slices_ContainsFunc_api_Section_api_Section [(.t 20), (.t 21)], none⟩, ⟨(some 5), .mov (.t 22), none⟩] [3, 18, 19, 20, 21, 22]) (.block 2 (.seq /-11-/ (.region [ ⟨(some 24), .fldaddr 2 1 (.t 4), none⟩, ⟨(some 25), .load false 1 (.t 24), none⟩, ⟨(some 26), .len (.t 25), none⟩, ⟨(some 27), .bin .gtr (.t 26) (.c (.int .i64 65536)), none⟩, ⟨(some 23), .mov (.t 27), none⟩] [24, 25, 26, 27]) (.cond (.t 23) (.seq /-12-/ (.region [ ⟨(some 2), .mov (.c (.int .i64 6)), none⟩] [0, 4, 5, 11, 12, 13, 23]) (.ret)) (.seq /-13-/ (.region [ ⟨(some 29), .fldaddr 0 1 (.t 4), none⟩, ⟨(some 30), .load false 1 (.t 29), none⟩, ⟨(some 31), .call f_section_name [(.t 30)], none⟩, ⟨(some 32), .un .not (.t 31), none⟩, ⟨(some 28), .mov (.t 32), none⟩] [23, 29, 30, 31, 32]) (.cond (.t 28) (.seq /-14-/ (.region [ ⟨(some 2), .mov (.c (.int .i64 3)), none⟩] [0, 4, 5, 11, 12, 13, 28]) (.ret)) (.seq /-15-/ (.region [ ⟨(some 34), .mov (.t 5), none⟩, ⟨(some 33), .mov (.t 34), none⟩] [5, 28, 34]) (.cond (.t 33) (.seq /-16-/ (.region [ ⟨(some 2), .mov (.c (.int .i64 8)), none⟩] [0, 4, 11, 12, 13, 33]) (.ret)) (.seq /-17-/ (.region [ ⟨(some 36), .fldaddr 1 1 (.t 4), none⟩, ⟨(some 37), .load false 1 (.t 36), none⟩, ⟨(some 38), .conv .u64 (.t 37), none⟩, ⟨(some 39), .fldaddr 2 1 (.t 4), none⟩, ⟨(some 40), .load false 1 (.t 39), none⟩, ⟨(some 41), .len (.t 40), none⟩, ⟨(some 42), .conv .u64 (.t 41), none⟩, ⟨(some 43), .bin .add (.t 38) (.t 42), none⟩, ⟨(some 44), .bin .gtr (.t 43) (.c (.int .u64 4294967295)), none⟩, ⟨(some 45), .mov (.t 44), none⟩, ⟨(some 46), .load true 5 (.t 4), (some (45, false))⟩, ⟨(some 47), .call f_section_space [(.t 46)], (some (45, false))⟩, ⟨(some 48), .call f_section_stack [], (some (45, false))⟩, ⟨(some 49), .call f_section_meet [(.t 47), (.t 48)], (some (45, false))⟩, ⟨(some 50), .pick (.t 45) (.c (.bool true)) (.t 49), none⟩, ⟨(some 35), .mov (.t 50), none⟩] [4, 33, 36, 37, 38, 39, 40, 41, 42, 43, 44, 45, 46, 47, 48, 49, 50]) (.cond (.t 35) (.seq /-18-/ (.region [ ⟨(some 2), .mov (.c (.int .i64 7)), none⟩] [0, 11, 12, 13, 35]) (.ret)) (.skip))))))))))))) (.region [ ⟨(some 51), .bin .add (.t 13) (.c (.int .i64 1)), none⟩, ⟨(some 13), .mov (.t 51), none⟩] [2, 35, 51])))

def ac_section_Check_l1 : ACode :=
  /-live [0, 52, 53, 54]-/ .seq /-21-/ (.region [ ⟨(some 55), .bin .lss (.t 54) (.t 53), none⟩] []) (.seq /-22-/ (.cond (.t 55) (.skip) (.exit 3)) (.seq /-23-/ (.block 4 (.seq /-24-/ (.region [ ⟨(some 56), .mov (.t 54), none⟩, ⟨(some 57), .idx 5 (.t 52) (.t 54), none⟩, ⟨(some 58), .load true 5 (.t 57), none⟩, ⟨(some 7), .alloc [.str ⟨#[]⟩, .int .u32 0, .nilsl, .bool false, .bool false], none⟩, ⟨(some 6), .mov (.t 56), none⟩, ⟨none, .store 5 (.t 7) (.t 58), none⟩] [55, 56, 57, 58]) (.seq /-25-/ (.region [ ⟨(some 59), .mov (.t 0), none⟩, ⟨(some 60), .mov (.t 6), none⟩, ⟨(some 61), .slice 5 (.t 59) none (some (.t 60)), none⟩, ⟨(some 62), .mkfn (.func f_section_Check_2) [(.t 7)], none⟩, ⟨(some 63), .call f_slices_ContainsFunc_api_Section_api_Section [(.t 61), (.t 62)], none⟩] [6, 7, 59, 60, 61, 62]) (.cond (.t 63) (.seq /-26-/ (.region [ ⟨(some 2), .mov (.c (.int .i64 10)), none⟩] [0, 52, 53, 54, 63]) (.ret)) (.skip))))) (.region [ ⟨(some 64), .bin .add (.t 54) (.c (.int .i64 1)), none⟩, ⟨(some 54), .mov (.t 64), none⟩] [2, 63, 64])))

def ac_section_Check_k2 : ACode :=
  /-live []-/ .seq /-27-/ (.region [ ⟨(some 2), .mov (.c (.int .i64 0)), none⟩] [0, 52, 53, 54]) (.ret)

def ac_section_Check_k3 : ACode :=
  /-live [0]-/ .seq /-19-/ (.seq /-20-/ (.region [ ⟨(some 52), .mov (.t 0), none⟩, ⟨(some 53), .len (.t 52), none⟩, ⟨(some 54), .mov (.c (.int .i64 0)), none⟩] [11, 12, 13]) (.block 3 (.loop ac_section_Check_l1))) (ac_section_Check_k2)

/-- decompiler/section.Check -/
def ac_section_Check : ACode := .seq /-0-/ (.region [ ⟨(some 2), .mov (.c (.int .i64 0)), none⟩] [2]) (.seq /-1-/ (.seq /-2-/ (.region [ ⟨(some 8), .mov (.t 0), none⟩, ⟨(some 9), .len (.t 8), none⟩, ⟨(some 10), .bin .gtr (.t 9) (.c (.int .i64 16)), none⟩] [8, 9]) (.cond (.t 10) (.seq /-3-/ (.region [ ⟨(some 2), .mov (.c (.int .i64 6)), none⟩] [0, 10]) (.ret)) (.skip))) (.seq /-4-/ (.seq /-5-/ (.region [ ⟨(some 11), .mov (.t 0), none⟩, ⟨(some 12), .len (.t 11), none⟩, ⟨(some 13), .mov (.c (.int .i64 0)), none⟩] [2, 10]) (.block 0 (.loop ac_section_Check_l0))) (ac_section_Check_k3)))

def rs_section_Check : List ARet := [.tmp 2]

set_option maxRecDepth 100000 in
theorem cf_section_Check : compF Try.prog f_section_Check (qRo []) = some (ac_section_Check.strip, rs_section_Check, 65) := by kernel_rfl

def ac_symbol_Check_l0 : ACode :=
  /-live [0, 13, 14, 15]-/ .seq /-6-/ (.region [ ⟨(some 16), .bin .lss (.t 15) (.t 14), none⟩] []) (.seq /-7-/ (.cond (.t 16) (.skip) (.exit 0)) (.seq /-8-/ (.block 1 (.seq /-9-/ (.region [ ⟨(some 17), .idx 3 (.t 13) (.t 15), none⟩, ⟨(some 18), .load true 3 (.t 17), none⟩, ⟨(some 4), .alloc [.str ⟨#[]⟩, .int .u32 0, .int .i64 0], none⟩, ⟨none, .store 3 (.t 4) (.t 18), none⟩] [16, 17, 18]) (.seq /-10-/ (.region [ ⟨(some 19), .fldaddr 0 1 (.t 4), none⟩, ⟨(some 20), .load false 1 (.t 19), none⟩, ⟨(some 21), .call f_symbol_name [(.t 20)], none⟩, ⟨(some 22), .un .not (.t 21), none⟩] [4, 19, 20, 21]) (.cond (.t 22) (.seq /-11-/ (.region [ ⟨(some 2), .mov (.c (.int .i64 3)), none⟩] [0, 13, 14, 15, 22]) (.ret)) (.skip))))) (.region [ ⟨(some 23), .bin .add (.t 15) (.c (.int .i64 1)), none⟩, ⟨(some 15), .mov (.t 23), none⟩] [2, 22, 23])))

def ac_symbol_Check_l1 : ACode :=
  /-live [0, 5, 25, 26, 27]-/ .seq /-15-/ (.region [ ⟨(some 28), .bin .lss (.t 27) (.t 26), none⟩] []) (.seq /-16-/ (.cond (.t 28) (.skip) (.exit 2)) (.seq /-17-/ (.block 3 (.seq /-18-/ (.region [ ⟨(some 29), .idx 3 (.t 25) (.t 27), none⟩, ⟨(some 30), .load true 3 (.t 29), none⟩, ⟨(some 7), .alloc [.str ⟨#[]⟩, .int .u32 0, .int .i64 0], none⟩, ⟨none, .store 3 (.t 7) (.t 30), none⟩] [28, 29, 30]) (.seq /-19-/ (.seq /-20-/ (.region [ ⟨(some 31), .mov (.t 5), none⟩, ⟨(some 32), .fldaddr 0 1 (.t 7), none⟩, ⟨(some 33), .load false 1 (.t 32), none⟩, ⟨(some 34), .xop (.mlook none false (.bool false)) [(.t 31), (.t 33)], none⟩] [31, 32, 33]) (.cond (.t 34) (.seq /-21-/ (.region [ ⟨(some 2), .mov (.c (.int .i64 8)), none⟩] [0, 5, 7, 25, 26, 27, 34]) (.ret)) (.skip))) (.region [ ⟨(some 35), .mov (.t 5), none⟩, ⟨(some 36), .fldaddr 0 1 (.t 7), none⟩, ⟨(some 37), .load false 1 (.t 36), none⟩, ⟨none, .xop (.mset none) [(.t 35), (.t 37), (.c (.bool true))], none⟩] [2, 7, 34, 35, 36, 37])))) (.region [ ⟨(some 38), .bin .add (.t 27) (.c (.int .i64 1)), none⟩, ⟨(some 27), .mov (.t 38), none⟩] [38])))

def ac_symbol_Check_l2 : ACode :=
  /-live [39, 40, 41]-/ .seq /-24-/ (.region [ ⟨(some 42), .bin .lss (.t 41) (.t 40), none⟩] []) (.seq /-25-/ (.cond (.t 42) (.skip) (.exit 4)) (.seq /-26-/ (.block 5 (.seq /-27-/ (.region [ ⟨(some 43), .idx 3 (.t 39) (.t 41), none⟩, ⟨(some 44), .load true 3 (.t 43), none⟩, ⟨(some 9), .alloc [.str ⟨#[]⟩, .int .u32 0, .int .i64 0], none⟩, ⟨none, .store 3 (.t 9) (.t 44), none⟩] [42, 43, 44]) (.seq /-28-/ (.region [ ⟨(some 45), .fldaddr 2 1 (.t 9), none⟩, ⟨(some 46), .load false 1 (.t 45), none⟩, ⟨(some 47), .bin .neq (.t 46) (.c (.int .i64 1)), none⟩, ⟨(some 48), .mov (.t 47), none⟩, ⟨(some 49), .fldaddr 2 1 (.t 9), (some (48, true))⟩, ⟨(some 50), .load false 1 (.t 49), (some (48, true))⟩, ⟨(some 51), .bin .neq (.t 50) (.c (.int .i64 2)), (some (48, true))⟩, ⟨(some 52), .pick (.t 48) (.t 51) (.c (.bool false)), none⟩] [9, 45, 46, 47, 48, 49, 50, 51]) (.cond (.t 52) (.seq /-29-/ (.region [ ⟨(some 2), .mov (.c (.int .i64 2)), none⟩] [39, 40, 41, 52]) (.ret)) (.skip))))) (.region [ ⟨(some 53), .bin .add (.t 41) (.c (.int .i64 1)), none⟩, ⟨(some 41), .mov (.t 53), none⟩] [2, 52, 53])))

def ac_symbol_Check_k3 : ACode :=
  /-live []-/ .seq /-30-/ (.region [ ⟨(some 2), .mov (.c (.int .i64 0)), none⟩] [39, 40, 41]) (.ret)

def ac_symbol_Check_k4 : ACode :=
  /-live [0]-/ .seq /-22-/ (.seq /-23-/ (.region [ ⟨(some 39), .mov (.t 0), none⟩, ⟨(some 40), .len (.t 39), none⟩, ⟨(some 41), .mov (.c (.int .i64 0)), none⟩] [0, 5, 25, 26, 27]) (.block 4 (.loop ac_symbol_Check_l2))) (ac_symbol_Check_k3)

def ac_symbol_Check_k5 : ACode :=
  /-live [0]-/ .seq /-12-/ (.region [ ⟨(some 24), .xop .mkmap [], none⟩, ⟨(some 5), .mov (.t 24), none⟩] [13, 14, 15, 24]) (.seq /-13-/ (.seq /-14-/ (.region [ ⟨(some 25), .mov (.t 0), none⟩, ⟨(some 26), .len (.t 25), none⟩, ⟨(some 27), .mov (.c (.int .i64 0)), none⟩] []) (.block 2 (.loop ac_symbol_Check_l1))) (ac_symbol_Check_k4))

/-- decompiler/symbol.Check -/
def ac_symbol_Check : ACode := .seq /-0-/ (.region [ ⟨(some 2), .mov (.c (.int .i64 0)), none⟩] [2]) (.seq /-1-/ (.seq /-2-/ (.region [ ⟨(some 10), .mov (.t 0), none⟩, ⟨(some 11), .len (.t 10), none⟩, ⟨(some 12), .bin .gtr (.t 11) (.c (.int .i64 256)), none⟩] [10, 11]) (.cond (.t 12) (.seq /-3-/ (.region [ ⟨(some 2), .mov (.c (.int .i64 6)), none⟩] [0, 12]) (.ret)) (.skip))) (.seq /-4-/ (.seq /-5-/ (.region [ ⟨(some 13), .mov (.t 0), none⟩, ⟨(some 14), .len (.t 13), none⟩, ⟨(some 15), .mov (.c (.int .i64 0)), none⟩] [2, 12]) (.block 0 (.loop ac_symbol_Check_l0))) (ac_symbol_Check_k5)))

def rs_symbol_Check : List ARet := [.tmp 2]

set_option maxRecDepth 100000 in
theorem cf_symbol_Check : compF Try.prog f_symbol_Check (qRo []) = some (ac_symbol_Check.strip, rs_symbol_Check, 54) := by kernel_rfl


/-- decompiler/reloc.one -/
def ac_reloc_one : ACode := .seq /-0-/ (.region [ ⟨(some 2), .rbox (.t 0), none⟩, ⟨(some 3), .rbox (.t 1), none⟩, ⟨(some 4), .mov (.c (.int .i64 0)), none⟩] [0, 1, 4]) (.seq /-1-/ (.seq /-2-/ (.region [ ⟨(some 7), .fldaddr 2 1 (.t 3), none⟩, ⟨(some 8), .load false 1 (.t 7), none⟩, ⟨(some 9), .bin .neq (.t 8) (.c (.int .i64 1)), none⟩, ⟨(some 10), .mov (.t 9), none⟩, ⟨(some 11), .fldaddr 2 1 (.t 3), (some (10, true))⟩, ⟨(some 12), .load false 1 (.t 11), (some (10, true))⟩, ⟨(some 13), .bin .neq (.t 12) (.c (.int .i64 2)), (some (10, true))⟩, ⟨(some 14), .pick (.t 10) (.t 13) (.c (.bool false)), none⟩, ⟨(some 15), .mov (.t 14), none⟩, ⟨(some 16), .fldaddr 0 1 (.t 3), (some (15, false))⟩, ⟨(some 17), .load false 1 (.t 16), (some (15, false))⟩, ⟨(some 18), .bin .lss (.t 17) (.c (.int .i64 0)), (some (15, false))⟩, ⟨(some 19), .pick (.t 15) (.c (.bool true)) (.t 18), none⟩, ⟨(some 20), .mov (.t 19), none⟩, ⟨(some 21), .fldaddr 0 1 (.t 3), (some (20, false))⟩, ⟨(some 22), .load false 1 (.t 21), (some (20, false))⟩, ⟨(some 23), .fldaddr 1 1 (.t 2), (some (20, false))⟩, ⟨(some 24), .load false 1 (.t 23), (some (20, false))⟩, ⟨(some 25), .len (.t 24), (some (20, false))⟩, ⟨(some 26), .bin .geq (.t 22) (.t 25), (some (20, false))⟩, ⟨(some 27), .pick (.t 20) (.c (.bool true)) (.t 26), none⟩] [7, 8, 9, 10, 11, 12, 13, 14, 15, 16, 17, 18, 19, 20, 21, 22, 23, 24, 25, 26]) (.cond (.t 27) (.seq /-3-/ (.region [ ⟨(some 4), .mov (.c (.int .i64 2)), none⟩] [2, 3, 27]) (.ret)) (.skip))) (.seq /-4-/ (.seq /-5-/ (.draw ( .step ⟨(some 28), .fldaddr 1 1 (.t 3), none⟩ ( .step ⟨(some 29), .load false 1 (.t 28), none⟩ ( .step ⟨(some 30), .bin .lss (.t 29) (.c (.int .i64 0)), none⟩ ( .step ⟨(some 31), .mov (.t 30), none⟩ ( .step ⟨(some 32), .fldaddr 1 1 (.t 3), (some (31, false))⟩ ( .step ⟨(some 33), .load false 1 (.t 32), (some (31, false))⟩ ( .step ⟨(some 34), .fldaddr 1 1 (.t 2), (some (31, false))⟩ ( .step ⟨(some 35), .load false 1 (.t 34), (some (31, false))⟩ ( .step ⟨(some 36), .fldaddr 0 1 (.t 3), (some (31, false))⟩ ( .step ⟨(some 37), .load false 1 (.t 36), (some (31, false))⟩ ( .step ⟨(some 38), .idx 5 (.t 35) (.t 37), (some (31, false))⟩ ( .step ⟨(some 39), .fldaddr 2 1 (.t 38), (some (31, false))⟩ ( .step ⟨(some 40), .load false 1 (.t 39), (some (31, false))⟩ ( .step ⟨(some 41), .len (.t 40), (some (31, false))⟩ ( .step ⟨(some 42), .bin .sub (.t 41) (.c (.int .i64 4)), (some (31, false))⟩ ( .step ⟨(some 43), .bin .gtr (.t 33) (.t 42), (some (31, false))⟩ ( .step ⟨(some 44), .pick (.t 31) (.c (.bool true)) (.t 43), none⟩ ( .done)))))))))))))))))) [4, 27, 28, 29, 30, 31, 32, 33, 34, 35, 36, 37, 38, 39, 40, 41, 42, 43]) (.cond (.t 44) (.seq /-6-/ (.region [ ⟨(some 4), .mov (.c (.int .i64 7)), none⟩] [2, 3, 44]) (.ret)) (.skip))) (.seq /-7-/ (.seq /-8-/ (.region [ ⟨(some 46), .fldaddr 2 1 (.t 2), none⟩, ⟨(some 47), .load false 1 (.t 46), none⟩, ⟨(some 48), .fldaddr 3 1 (.t 3), none⟩, ⟨(some 49), .load false 1 (.t 48), none⟩, ⟨(some 50), .call f_symbol_Find [(.t 47), (.t 49)], none⟩, ⟨(some 45), .mov (.t 50), none⟩, ⟨(some 51), .ext 0 (.t 45), none⟩, ⟨(some 52), .ext 1 (.t 45), none⟩, ⟨(some 5), .alloc [.str ⟨#[]⟩, .int .u32 0, .int .i64 0], none⟩, ⟨none, .store 3 (.t 5) (.t 51), none⟩, ⟨(some 6), .mov (.t 52), none⟩] [2, 3, 4, 5, 44, 45, 46, 47, 48, 49, 50, 51, 52]) (.seq /-9-/ (.region [ ⟨(some 53), .mov (.t 6), none⟩, ⟨(some 54), .un .not (.t 53), none⟩] [6, 53]) (.cond (.t 54) (.seq /-10-/ (.region [ ⟨(some 4), .mov (.c (.int .i64 17)), none⟩] [54]) (.ret)) (.skip)))) (.seq /-11-/ (.region [ ⟨(some 4), .mov (.c (.int .i64 0)), none⟩] [54]) (.ret)))))

def rs_reloc_one : List ARet := [.tmp 4]

set_option maxRecDepth 100000 in
theorem cf_reloc_one : compF Try.prog f_reloc_one (qRo [2, 3]) = some (ac_reloc_one.strip, rs_reloc_one, 55) := by kernel_rfl

def ac_reloc_shared_l0 : ACode :=
  /-live [0, 3, 5, 8, 9, 10, 17, 18, 19]-/ .seq /-10-/ (.region [ ⟨(some 20), .bin .lss (.t 19) (.t 18), none⟩] []) (.seq /-11-/ (.cond (.t 20) (.skip) (.exit 2)) (.seq /-12-/ (.block 3 (.seq /-13-/ (.region [ ⟨(some 21), .idx 5 (.t 17) (.t 19), none⟩, ⟨(some 22), .load true 5 (.t 21), none⟩, ⟨(some 7), .alloc [.int .i64 0, .int .i64 0, .int .i64 0, .str ⟨#[]⟩, .int .i32 0], none⟩, ⟨none, .store 5 (.t 7) (.t 22), none⟩] [20, 21, 22]) (.seq /-14-/ (.region [ ⟨(some 23), .fldaddr 0 1 (.t 5), none⟩, ⟨(some 24), .load false 1 (.t 23), none⟩, ⟨(some 25), .fldaddr 0 1 (.t 7), none⟩, ⟨(some 26), .load false 1 (.t 25), none⟩, ⟨(some 27), .bin .eql (.t 24) (.t 26), none⟩, ⟨(some 28), .mov (.t 27), none⟩, ⟨(some 29), .fldaddr 1 1 (.t 5), (some (28, true))⟩, ⟨(some 30), .load false 1 (.t 29), (some (28, true))⟩, ⟨(some 31), .fldaddr 1 1 (.t 7), (some (28, true))⟩, ⟨(some 32), .load false 1 (.t 31), (some (28, true))⟩, ⟨(some 33), .bin .sub (.t 30) (.t 32), (some (28, true))⟩, ⟨(some 34), .bin .lss (.t 33) (.c (.int .i64 4)), (some (28, true))⟩, ⟨(some 35), .pick (.t 28) (.t 34) (.c (.bool false)), none⟩, ⟨(some 36), .mov (.t 35), none⟩, ⟨(some 37), .fldaddr 1 1 (.t 7), (some (36, true))⟩, ⟨(some 38), .load false 1 (.t 37), (some (36, true))⟩, ⟨(some 39), .fldaddr 1 1 (.t 5), (some (36, true))⟩, ⟨(some 40), .load false 1 (.t 39), (some (36, true))⟩, ⟨(some 41), .bin .sub (.t 38) (.t 40), (some (36, true))⟩, ⟨(some 42), .bin .lss (.t 41) (.c (.int .i64 4)), (some (36, true))⟩, ⟨(some 43), .pick (.t 36) (.t 42) (.c (.bool false)), none⟩] [7, 23, 24, 25, 26, 27, 28, 29, 30, 31, 32, 33, 34, 35, 36, 37, 38, 39, 40, 41, 42]) (.cond (.t 43) (.seq /-15-/ (.region [ ⟨(some 3), .mov (.c (.bool true)), none⟩] [0, 5, 8, 9, 10, 17, 18, 19, 43]) (.exit 0)) (.skip))))) (.region [ ⟨(some 44), .bin .add (.t 19) (.c (.int .i64 1)), none⟩, ⟨(some 19), .mov (.t 44), none⟩] [43, 44])))

def ac_reloc_shared_k1 : ACode :=
  /-live [0, 3, 8, 9, 10]-/ .region [ ⟨(some 45), .bin .add (.t 10) (.c (.int .i64 1)), none⟩, ⟨(some 10), .mov (.t 45), none⟩] [5, 17, 18, 19, 45]

def ac_reloc_shared_l2 : ACode :=
  /-live [0, 3, 8, 9, 10]-/ .seq /-5-/ (.region [ ⟨(some 11), .bin .lss (.t 10) (.t 9), none⟩] []) (.seq /-6-/ (.cond (.t 11) (.skip) (.exit 0)) (.seq /-7-/ (.block 1 (.seq /-8-/ (.region [ ⟨(some 12), .mov (.t 10), none⟩, ⟨(some 13), .idx 5 (.t 8) (.t 10), none⟩, ⟨(some 14), .load true 5 (.t 13), none⟩, ⟨(some 5), .alloc [.int .i64 0, .int .i64 0, .int .i64 0, .str ⟨#[]⟩, .int .i32 0], none⟩, ⟨(some 4), .mov (.t 12), none⟩, ⟨none, .store 5 (.t 5) (.t 14), none⟩] [11, 12, 13, 14]) (.seq /-9-/ (.region [ ⟨(some 15), .mov (.t 0), none⟩, ⟨(some 16), .mov (.t 4), none⟩, ⟨(some 17), .slice 5 (.t 15) none (some (.t 16)), none⟩, ⟨(some 18), .len (.t 17), none⟩, ⟨(some 19), .mov (.c (.int .i64 0)), none⟩] [4, 15, 16]) (.block 2 (.loop ac_reloc_shared_l0))))) (ac_reloc_shared_k1)))

def ac_reloc_shared_k3 : ACode :=
  /-live [3]-/ .seq /-16-/ (.region [ ⟨(some 46), .mov (.t 3), none⟩, ⟨(some 2), .mov (.t 46), none⟩] [0, 3, 8, 9, 10, 46]) (.ret)

/-- decompiler/reloc.shared -/
def ac_reloc_shared : ACode := .seq /-0-/ (.region [ ⟨(some 2), .mov (.c (.bool false)), none⟩] [2]) (.scope (.seq /-1-/ (.region [ ⟨(some 3), .mov (.c (.bool false)), none⟩] []) (.seq /-2-/ (.skip) (.seq /-3-/ (.seq /-4-/ (.region [ ⟨(some 8), .mov (.t 0), none⟩, ⟨(some 9), .len (.t 8), none⟩, ⟨(some 10), .mov (.c (.int .i64 0)), none⟩] []) (.block 0 (.loop ac_reloc_shared_l2))) (ac_reloc_shared_k3)))))

def rs_reloc_shared : List ARet := [.tmp 2]

set_option maxRecDepth 100000 in
theorem cf_reloc_shared : compF Try.prog f_reloc_shared (qRo []) = some (ac_reloc_shared.strip, rs_reloc_shared, 47) := by kernel_rfl

def ac_slices_IndexFunc_api_Section_api_Section_l0 : ACode :=
  /-live [0, 1, 7, 8]-/ .seq /-3-/ (.region [ ⟨(some 9), .bin .lss (.t 8) (.t 7), none⟩] []) (.seq /-4-/ (.cond (.t 9) (.skip) (.exit 0)) (.seq /-5-/ (.block 1 (.seq /-6-/ (.region [ ⟨(some 10), .mov (.t 8), none⟩, ⟨(some 5), .mov (.t 10), none⟩] [9, 10]) (.seq /-7-/ (.region [ ⟨(some 11), .mov (.t 1), none⟩, ⟨(some 12), .mov (.t 0), none⟩, ⟨(some 13), .mov (.t 5), none⟩, ⟨(some 14), .idx 5 (.t 12) (.t 13), none⟩, ⟨(some 15), .load true 5 (.t 14), none⟩, ⟨(some 16), .callv (.t 11) [(.t 15)], none⟩] [11, 12, 13, 14, 15]) (.cond (.t 16) (.seq /-8-/ (.region [ ⟨(some 17), .mov (.t 5), none⟩, ⟨(some 4), .mov (.t 17), none⟩] [0, 1, 5, 7, 8, 16, 17]) (.ret)) (.skip))))) (.region [ ⟨(some 18), .bin .add (.t 8) (.c (.int .i64 1)), none⟩, ⟨(some 8), .mov (.t 18), none⟩] [4, 5, 16, 18])))

def ac_slices_IndexFunc_api_Section_api_Section_k1 : ACode :=
  /-live []-/ .seq /-9-/ (.region [ ⟨(some 4), .mov (.c (.int .i64 (-1))), none⟩] [0, 1, 7, 8]) (.ret)

/-- slices.IndexFunc[[]decompiler/api.Section,decompiler/api.Section] -/
def ac_slices_IndexFunc_api_Section_api_Section : ACode := .seq /-0-/ (.region [ ⟨(some 4), .mov (.c (.int .i64 0)), none⟩] [4]) (.seq /-1-/ (.seq /-2-/ (.region [ ⟨(some 6), .mov (.t 0), none⟩, ⟨(some 7), .len (.t 6), none⟩, ⟨(some 8), .mov (.c (.int .i64 0)), none⟩] [6]) (.block 0 (.loop ac_slices_IndexFunc_api_Section_api_Section_l0))) (ac_slices_IndexFunc_api_Section_api_Section_k1))

def rs_slices_IndexFunc_api_Section_api_Section : List ARet := [.tmp 4]

set_option maxRecDepth 100000 in
theorem cf_slices_IndexFunc_api_Section_api_Section : compF Try.prog f_slices_IndexFunc_api_Section_api_Section (qRo []) = some (ac_slices_IndexFunc_api_Section_api_Section.strip, rs_slices_IndexFunc_api_Section_api_Section, 19) := by kernel_rfl


/-- decompiler/section.Find$1 -/
def ac_section_Find_1 : ACode := .seq /-0-/ (.region [ ⟨(some 2), .rbox (.t 0), none⟩, ⟨(some 3), .mov (.c (.bool false)), none⟩] [0, 3]) (.seq /-1-/ (.region [ ⟨(some 5), .load true 5 (.t 2), none⟩, ⟨(some 6), .call f_section_space [(.t 5)], none⟩, ⟨(some 4), .alloc [.int .u32 0, .int .u32 0], none⟩, ⟨none, .store 2 (.t 4) (.t 6), none⟩] [2, 5, 6]) (.seq /-2-/ (.region [ ⟨(some 7), .fldaddr 0 1 (.t 4), none⟩, ⟨(some 8), .load false 1 (.t 7), none⟩, ⟨(some 9), .load false 1 (.t 1), none⟩, ⟨(some 10), .bin .leq (.t 8) (.t 9), none⟩, ⟨(some 11), .mov (.t 10), none⟩, ⟨(some 12), .load false 1 (.t 1), (some (11, true))⟩, ⟨(some 13), .fldaddr 1 1 (.t 4), (some (11, true))⟩, ⟨(some 14), .load false 1 (.t 13), (some (11, true))⟩, ⟨(some 15), .bin .lss (.t 12) (.t 14), (some (11, true))⟩, ⟨(some 16), .pick (.t 11) (.t 15) (.c (.bool false)), none⟩, ⟨(some 3), .mov (.t 16), none⟩] [1, 4, 7, 8, 9, 10, 11, 12, 13, 14, 15, 16]) (.ret)))

def rs_section_Find_1 : List ARet := [.tmp 3]

set_option maxRecDepth 100000 in
theorem cf_section_Find_1 : compF Try.prog f_section_Find_1 (qRo [2]) = some (ac_section_Find_1.strip, rs_section_Find_1, 17) := by kernel_rfl


/-- decompiler/section.space -/
def ac_section_space : ACode := .seq /-0-/ (.region [ ⟨(some 1), .rbox (.t 0), none⟩, ⟨(some 2), .alloc [.int .u32 0, .int .u32 0], none⟩] [0]) (.seq /-1-/ (.region [ ⟨(some 4), .fldaddr 1 1 (.t 1), none⟩, ⟨(some 5), .load false 1 (.t 4), none⟩, ⟨(some 6), .conv .u64 (.t 5), none⟩, ⟨(some 7), .fldaddr 2 1 (.t 1), none⟩, ⟨(some 8), .load false 1 (.t 7), none⟩, ⟨(some 9), .len (.t 8), none⟩, ⟨(some 10), .conv .u64 (.t 9), none⟩, ⟨(some 11), .bin .add (.t 6) (.t 10), none⟩, ⟨(some 3), .mov (.t 11), none⟩] [4, 5, 6, 7, 8, 9, 10, 11]) (.seq /-2-/ (.region [ ⟨(some 12), .fldaddr 1 1 (.t 1), none⟩, ⟨(some 13), .load false 1 (.t 12), none⟩, ⟨(some 14), .mov (.t 3), none⟩, ⟨(some 15), .xop .min [(.t 14), (.c (.int .u64 4294967295))], none⟩, ⟨(some 16), .conv .u32 (.t 15), none⟩, ⟨(some 17), .build [.int .u32 0, .int .u32 0] [(0, 1, (.t 13)), (1, 1, (.t 16))], none⟩, ⟨none, .store 2 (.t 2) (.t 17), none⟩] [1, 3, 12, 13, 14, 15, 16, 17]) (.ret)))

def rs_section_space : List ARet := [.cell 2 true 2]

set_option maxRecDepth 100000 in
theorem cf_section_space : compF Try.prog f_section_space (qRo [1]) = some (ac_section_space.strip, rs_section_space, 18) := by kernel_rfl


/-- slices.Clone[[]byte,byte] -/
def ac_slices_Clone_byte_byte : ACode := .seq /-0-/ (.region [ ⟨(some 2), .mknil 1, none⟩] [2]) (.seq /-1-/ (.seq /-2-/ (.region [ ⟨(some 3), .mov (.t 0), none⟩, ⟨(some 4), .isnil false false (.t 3), none⟩] [3]) (.cond (.t 4) (.seq /-3-/ (.region [ ⟨(some 2), .mknil 1, none⟩] [0, 4]) (.ret)) (.skip))) (.seq /-4-/ (.region [ ⟨(some 5), .buildSl 1 0 [.int .u8 0] [], none⟩, ⟨(some 6), .mov (.t 0), none⟩, ⟨(some 7), .append 1 1 (.t 5) (.t 6), none⟩, ⟨(some 2), .mov (.t 7), none⟩] [0, 4, 5, 6, 7]) (.ret)))

def rs_slices_Clone_byte_byte : List ARet := [.tmp 2]

set_option maxRecDepth 100000 in
theorem cf_slices_Clone_byte_byte : compF Try.prog f_slices_Clone_byte_byte (qRo []) = some (ac_slices_Clone_byte_byte.strip, rs_slices_Clone_byte_byte, 8) := by kernel_rfl


/-- slices.ContainsFunc[[]decompiler/api.Section,decompiler/api.Section] -/
def ac_slices_ContainsFunc_api_Section_api_Section : ACode := .seq /-0-/ (.region [ ⟨(some 4), .mov (.c (.bool false)), none⟩] [4]) (.seq /-1-/ (.region [ ⟨(some 5), .mov (.t 0), none⟩, ⟨(some 6), .mov (.t 1), none⟩, ⟨(some 7), .call f_slices_IndexFunc_api_Section_api_Section [(.t 5), (.t 6)], none⟩, ⟨(some 8), .bin .geq (.t 7) (.c (.int .i64 0)), none⟩, ⟨(some 4), .mov (.t 8), none⟩] [0, 1, 5, 6, 7, 8]) (.ret))

def rs_slices_ContainsFunc_api_Section_api_Section : List ARet := [.tmp 4]

set_option maxRecDepth 100000 in
theorem cf_slices_ContainsFunc_api_Section_api_Section : compF Try.prog f_slices_ContainsFunc_api_Section_api_Section (qRo []) = some (ac_slices_ContainsFunc_api_Section_api_Section.strip, rs_slices_ContainsFunc_api_Section_api_Section, 9) := by kernel_rfl


/-- decompiler/section.Check$1 -/
def ac_section_Check_1 : ACode := .seq /-0-/ (.region [ ⟨(some 2), .rbox (.t 0), none⟩, ⟨(some 3), .mov (.c (.bool false)), none⟩] [0, 3]) (.seq /-1-/ (.region [ ⟨(some 4), .fldaddr 0 1 (.t 2), none⟩, ⟨(some 5), .load false 1 (.t 4), none⟩, ⟨(some 6), .fldaddr 0 1 (.t 1), none⟩, ⟨(some 7), .load false 1 (.t 6), none⟩, ⟨(some 8), .xop (.seq false) [(.t 5), (.t 7)], none⟩, ⟨(some 3), .mov (.t 8), none⟩] [1, 2, 4, 5, 6, 7, 8]) (.ret))

def rs_section_Check_1 : List ARet := [.tmp 3]

set_option maxRecDepth 100000 in
theorem cf_section_Check_1 : compF Try.prog f_section_Check_1 (qRo [2]) = some (ac_section_Check_1.strip, rs_section_Check_1, 9) := by kernel_rfl

def ac_section_name_l0 : ACode :=
  /-live [0, 6, 7, 8]-/ .seq /-3-/ (.region [ ⟨(some 9), .bin .lss (.t 8) (.t 7), none⟩] []) (.seq /-4-/ (.cond (.t 9) (.skip) (.exit 0)) (.seq /-5-/ (.block 1 (.seq /-6-/ (.region [ ⟨(some 10), .idx 1 (.t 6) (.t 8), none⟩, ⟨(some 11), .load false 1 (.t 10), none⟩, ⟨(some 4), .mov (.t 11), none⟩] [9, 10, 11]) (.seq /-7-/ (.region [ ⟨(some 12), .mov (.t 4), none⟩, ⟨(some 13), .bin .lss (.t 12) (.c (.int .u8 97)), none⟩, ⟨(some 14), .mov (.t 13), none⟩, ⟨(some 15), .mov (.t 4), (some (14, false))⟩, ⟨(some 16), .bin .gtr (.t 15) (.c (.int .u8 122)), (some (14, false))⟩, ⟨(some 17), .pick (.t 14) (.c (.bool true)) (.t 16), none⟩, ⟨(some 18), .mov (.t 17), none⟩, ⟨(some 19), .mov (.t 4), (some (18, true))⟩, ⟨(some 20), .bin .lss (.t 19) (.c (.int .u8 65)), (some (18, true))⟩, ⟨(some 21), .mov (.t 20), (some (18, true))⟩, ⟨(some 22), .mov (.t 4), (some (21, false))⟩, ⟨(some 23), .bin .gtr (.t 22) (.c (.int .u8 90)), (some (21, false))⟩, ⟨(some 24), .pick (.t 21) (.c (.bool true)) (.t 23), (some (18, true))⟩, ⟨(some 25), .pick (.t 18) (.t 24) (.c (.bool false)), none⟩, ⟨(some 26), .mov (.t 25), none⟩, ⟨(some 27), .mov (.t 4), (some (26, true))⟩, ⟨(some 28), .bin .lss (.t 27) (.c (.int .u8 48)), (some (26, true))⟩, ⟨(some 29), .mov (.t 28), (some (26, true))⟩, ⟨(some 30), .mov (.t 4), (some (29, false))⟩, ⟨(some 31), .bin .gtr (.t 30) (.c (.int .u8 57)), (some (29, false))⟩, ⟨(some 32), .pick (.t 29) (.c (.bool true)) (.t 31), (some (26, true))⟩, ⟨(some 33), .pick (.t 26) (.t 32) (.c (.bool false)), none⟩, ⟨(some 34), .mov (.t 33), none⟩, ⟨(some 35), .mov (.t 4), (some (34, true))⟩, ⟨(some 36), .bin .neq (.t 35) (.c (.int .u8 95)), (some (34, true))⟩, ⟨(some 37), .pick (.t 34) (.t 36) (.c (.bool false)), none⟩, ⟨(some 38), .mov (.t 37), none⟩, ⟨(some 39), .mov (.t 4), (some (38, true))⟩, ⟨(some 40), .bin .neq (.t 39) (.c (.int .u8 46)), (some (38, true))⟩, ⟨(some 41), .pick (.t 38) (.t 40) (.c (.bool false)), none⟩] [4, 12, 13, 14, 15, 16, 17, 18, 19, 20, 21, 22, 23, 24, 25, 26, 27, 28, 29, 30, 31, 32, 33, 34, 35, 36, 37, 38, 39, 40]) (.cond (.t 41) (.seq /-8-/ (.region [ ⟨(some 2), .mov (.c (.bool false)), none⟩] [0, 6, 7, 8, 41]) (.ret)) (.skip))))) (.region [ ⟨(some 42), .bin .add (.t 8) (.c (.int .i64 1)), none⟩, ⟨(some 8), .mov (.t 42), none⟩] [2, 41, 42])))

def ac_section_name_k1 : ACode :=
  /-live [0]-/ .seq /-9-/ (.region [ ⟨(some 43), .mov (.t 0), none⟩, ⟨(some 44), .slen (.t 43), none⟩, ⟨(some 45), .bin .geq (.t 44) (.c (.int .i64 1)), none⟩, ⟨(some 46), .mov (.t 45), none⟩, ⟨(some 47), .mov (.t 0), (some (46, true))⟩, ⟨(some 48), .slen (.t 47), (some (46, true))⟩, ⟨(some 49), .bin .leq (.t 48) (.c (.int .i64 32)), (some (46, true))⟩, ⟨(some 50), .pick (.t 46) (.t 49) (.c (.bool false)), none⟩, ⟨(some 2), .mov (.t 50), none⟩] [0, 6, 7, 8, 43, 44, 45, 46, 47, 48, 49, 50]) (.ret)

/-- decompiler/section.name -/
def ac_section_name : ACode := .seq /-0-/ (.region [ ⟨(some 2), .mov (.c (.bool false)), none⟩] [2]) (.seq /-1-/ (.seq /-2-/ (.region [ ⟨(some 5), .mov (.t 0), none⟩, ⟨(some 6), .xop .s2b [(.t 5)], none⟩, ⟨(some 7), .len (.t 6), none⟩, ⟨(some 8), .mov (.c (.int .i64 0)), none⟩] [5]) (.block 0 (.loop ac_section_name_l0))) (ac_section_name_k1))

def rs_section_name : List ARet := [.tmp 2]

set_option maxRecDepth 100000 in
theorem cf_section_name : compF Try.prog f_section_name (qRo []) = some (ac_section_name.strip, rs_section_name, 51) := by kernel_rfl


/-- decompiler/section.meet -/
def ac_section_meet : ACode := .seq /-0-/ (.region [ ⟨(some 2), .rbox (.t 0), none⟩, ⟨(some 3), .rbox (.t 1), none⟩, ⟨(some 4), .mov (.c (.bool false)), none⟩] [0, 1, 4]) (.seq /-1-/ (.region [ ⟨(some 5), .fldaddr 0 1 (.t 2), none⟩, ⟨(some 6), .load false 1 (.t 5), none⟩, ⟨(some 7), .fldaddr 0 1 (.t 3), none⟩, ⟨(some 8), .load false 1 (.t 7), none⟩, ⟨(some 9), .xop .max [(.t 6), (.t 8)], none⟩, ⟨(some 10), .fldaddr 1 1 (.t 2), none⟩, ⟨(some 11), .load false 1 (.t 10), none⟩, ⟨(some 12), .fldaddr 1 1 (.t 3), none⟩, ⟨(some 13), .load false 1 (.t 12), none⟩, ⟨(some 14), .xop .min [(.t 11), (.t 13)], none⟩, ⟨(some 15), .bin .lss (.t 9) (.t 14), none⟩, ⟨(some 4), .mov (.t 15), none⟩] [2, 3, 5, 6, 7, 8, 9, 10, 11, 12, 13, 14, 15]) (.ret))

def rs_section_meet : List ARet := [.tmp 4]

set_option maxRecDepth 100000 in
theorem cf_section_meet : compF Try.prog f_section_meet (qRo [2, 3]) = some (ac_section_meet.strip, rs_section_meet, 16) := by kernel_rfl


/-- decompiler/section.stack -/
def ac_section_stack : ACode := .seq /-0-/ (.region [ ⟨(some 0), .alloc [.int .u32 0, .int .u32 0], none⟩] []) (.seq /-1-/ (.region [ ⟨(some 1), .build [.int .u32 0, .int .u32 0] [(0, 1, (.c (.int .u32 978944))), (1, 1, (.c (.int .u32 983040)))], none⟩, ⟨none, .store 2 (.t 0) (.t 1), none⟩] [1]) (.ret))

def rs_section_stack : List ARet := [.cell 0 true 2]

set_option maxRecDepth 100000 in
theorem cf_section_stack : compF Try.prog f_section_stack (qRo []) = some (ac_section_stack.strip, rs_section_stack, 2) := by kernel_rfl


/-- decompiler/section.Check$2 -/
def ac_section_Check_2 : ACode := .seq /-0-/ (.region [ ⟨(some 2), .rbox (.t 0), none⟩, ⟨(some 3), .mov (.c (.bool false)), none⟩] [0, 3]) (.seq /-1-/ (.draw ( .step ⟨(some 4), .load true 5 (.t 2), none⟩ ( .step ⟨(some 5), .callq f_section_space [(.t 4)], none⟩ ( .step ⟨(some 6), .load true 5 (.t 1), none⟩ ( .step ⟨(some 7), .callq f_section_space [(.t 6)], none⟩ ( .step ⟨(some 8), .callq f_section_meet [(.t 5), (.t 7)], none⟩ ( .step ⟨(some 3), .mov (.t 8), none⟩ ( .done))))))) [1, 2, 4, 5, 6, 7, 8]) (.ret))

def rs_section_Check_2 : List ARet := [.tmp 3]

set_option maxRecDepth 100000 in
theorem cf_section_Check_2 : compF Try.prog f_section_Check_2 (qRo [2]) = some (ac_section_Check_2.strip, rs_section_Check_2, 9) := by kernel_rfl

def ac_symbol_name_l0 : ACode :=
  /-live [0, 6, 7, 8]-/ .seq /-3-/ (.region [ ⟨(some 9), .bin .lss (.t 8) (.t 7), none⟩] []) (.seq /-4-/ (.cond (.t 9) (.skip) (.exit 0)) (.seq /-5-/ (.block 1 (.seq /-6-/ (.region [ ⟨(some 10), .idx 1 (.t 6) (.t 8), none⟩, ⟨(some 11), .load false 1 (.t 10), none⟩, ⟨(some 4), .mov (.t 11), none⟩] [9, 10, 11]) (.seq /-7-/ (.region [ ⟨(some 12), .mov (.t 4), none⟩, ⟨(some 13), .bin .lss (.t 12) (.c (.int .u8 97)), none⟩, ⟨(some 14), .mov (.t 13), none⟩, ⟨(some 15), .mov (.t 4), (some (14, false))⟩, ⟨(some 16), .bin .gtr (.t 15) (.c (.int .u8 122)), (some (14, false))⟩, ⟨(some 17), .pick (.t 14) (.c (.bool true)) (.t 16), none⟩, ⟨(some 18), .mov (.t 17), none⟩, ⟨(some 19), .mov (.t 4), (some (18, true))⟩, ⟨(some 20), .bin .lss (.t 19) (.c (.int .u8 65)), (some (18, true))⟩, ⟨(some 21), .mov (.t 20), (some (18, true))⟩, ⟨(some 22), .mov (.t 4), (some (21, false))⟩, ⟨(some 23), .bin .gtr (.t 22) (.c (.int .u8 90)), (some (21, false))⟩, ⟨(some 24), .pick (.t 21) (.c (.bool true)) (.t 23), (some (18, true))⟩, ⟨(some 25), .pick (.t 18) (.t 24) (.c (.bool false)), none⟩, ⟨(some 26), .mov (.t 25), none⟩, ⟨(some 27), .mov (.t 4), (some (26, true))⟩, ⟨(some 28), .bin .lss (.t 27) (.c (.int .u8 48)), (some (26, true))⟩, ⟨(some 29), .mov (.t 28), (some (26, true))⟩, ⟨(some 30), .mov (.t 4), (some (29, false))⟩, ⟨(some 31), .bin .gtr (.t 30) (.c (.int .u8 57)), (some (29, false))⟩, ⟨(some 32), .pick (.t 29) (.c (.bool true)) (.t 31), (some (26, true))⟩, ⟨(some 33), .pick (.t 26) (.t 32) (.c (.bool false)), none⟩, ⟨(some 34), .mov (.t 33), none⟩, ⟨(some 35), .mov (.t 4), (some (34, true))⟩, ⟨(some 36), .bin .neq (.t 35) (.c (.int .u8 95)), (some (34, true))⟩, ⟨(some 37), .pick (.t 34) (.t 36) (.c (.bool false)), none⟩, ⟨(some 38), .mov (.t 37), none⟩, ⟨(some 39), .mov (.t 4), (some (38, true))⟩, ⟨(some 40), .bin .neq (.t 39) (.c (.int .u8 46)), (some (38, true))⟩, ⟨(some 41), .pick (.t 38) (.t 40) (.c (.bool false)), none⟩] [4, 12, 13, 14, 15, 16, 17, 18, 19, 20, 21, 22, 23, 24, 25, 26, 27, 28, 29, 30, 31, 32, 33, 34, 35, 36, 37, 38, 39, 40]) (.cond (.t 41) (.seq /-8-/ (.region [ ⟨(some 2), .mov (.c (.bool false)), none⟩] [0, 6, 7, 8, 41]) (.ret)) (.skip))))) (.region [ ⟨(some 42), .bin .add (.t 8) (.c (.int .i64 1)), none⟩, ⟨(some 8), .mov (.t 42), none⟩] [2, 41, 42])))

def ac_symbol_name_k1 : ACode :=
  /-live [0]-/ .seq /-9-/ (.region [ ⟨(some 43), .mov (.t 0), none⟩, ⟨(some 44), .slen (.t 43), none⟩, ⟨(some 45), .bin .geq (.t 44) (.c (.int .i64 1)), none⟩, ⟨(some 46), .mov (.t 45), none⟩, ⟨(some 47), .mov (.t 0), (some (46, true))⟩, ⟨(some 48), .slen (.t 47), (some (46, true))⟩, ⟨(some 49), .bin .leq (.t 48) (.c (.int .i64 32)), (some (46, true))⟩, ⟨(some 50), .pick (.t 46) (.t 49) (.c (.bool false)), none⟩, ⟨(some 2), .mov (.t 50), none⟩] [0, 6, 7, 8, 43, 44, 45, 46, 47, 48, 49, 50]) (.ret)

/-- decompiler/symbol.name -/
def ac_symbol_name : ACode := .seq /-0-/ (.region [ ⟨(some 2), .mov (.c (.bool false)), none⟩] [2]) (.seq /-1-/ (.seq /-2-/ (.region [ ⟨(some 5), .mov (.t 0), none⟩, ⟨(some 6), .xop .s2b [(.t 5)], none⟩, ⟨(some 7), .len (.t 6), none⟩, ⟨(some 8), .mov (.c (.int .i64 0)), none⟩] [5]) (.block 0 (.loop ac_symbol_name_l0))) (ac_symbol_name_k1))

def rs_symbol_name : List ARet := [.tmp 2]

set_option maxRecDepth 100000 in
theorem cf_symbol_name : compF Try.prog f_symbol_name (qRo []) = some (ac_symbol_name.strip, rs_symbol_name, 51) := by kernel_rfl

def ac_symbol_Find_l0 : ACode :=
  /-live [1, 4, 8, 9, 10]-/ .seq /-3-/ (.region [ ⟨(some 11), .bin .lss (.t 10) (.t 9), none⟩] []) (.seq /-4-/ (.cond (.t 11) (.skip) (.exit 0)) (.seq /-5-/ (.block 1 (.seq /-6-/ (.region [ ⟨(some 12), .idx 3 (.t 8) (.t 10), none⟩, ⟨(some 13), .load true 3 (.t 12), none⟩, ⟨(some 7), .alloc [.str ⟨#[]⟩, .int .u32 0, .int .i64 0], none⟩, ⟨none, .store 3 (.t 7) (.t 13), none⟩] [11, 12, 13]) (.seq /-7-/ (.region [ ⟨(some 14), .fldaddr 0 1 (.t 7), none⟩, ⟨(some 15), .load false 1 (.t 14), none⟩, ⟨(some 16), .mov (.t 1), none⟩, ⟨(some 17), .xop (.seq false) [(.t 15), (.t 16)], none⟩] [14, 15, 16]) (.cond (.t 17) (.seq /-8-/ (.region [ ⟨(some 18), .load true 3 (.t 7), none⟩, ⟨none, .store 3 (.t 4) (.t 18), none⟩, ⟨(some 5), .mov (.c (.bool true)), none⟩] [1, 7, 8, 9, 10, 17, 18]) (.ret)) (.skip))))) (.region [ ⟨(some 19), .bin .add (.t 10) (.c (.int .i64 1)), none⟩, ⟨(some 10), .mov (.t 19), none⟩] [5, 7, 17, 19])))

def ac_symbol_Find_k1 : ACode :=
  /-live [4]-/ .seq /-9-/ (.region [ ⟨(some 20), .build [.str ⟨#[]⟩, .int .u32 0, .int .i64 0] [], none⟩, ⟨none, .store 3 (.t 4) (.t 20), none⟩, ⟨(some 5), .mov (.c (.bool false)), none⟩] [1, 8, 9, 10, 20]) (.ret)

/-- decompiler/symbol.Find -/
def ac_symbol_Find : ACode := .seq /-0-/ (.region [ ⟨(some 4), .alloc [.str ⟨#[]⟩, .int .u32 0, .int .i64 0], none⟩, ⟨(some 5), .mov (.c (.bool false)), none⟩] [5]) (.seq /-1-/ (.seq /-2-/ (.region [ ⟨(some 8), .mov (.t 0), none⟩, ⟨(some 9), .len (.t 8), none⟩, ⟨(some 10), .mov (.c (.int .i64 0)), none⟩] [0]) (.block 0 (.loop ac_symbol_Find_l0))) (ac_symbol_Find_k1))

def rs_symbol_Find : List ARet := [.cell 4 true 3, .tmp 5]

set_option maxRecDepth 100000 in
theorem cf_symbol_Find : compF Try.prog f_symbol_Find (qRo []) = some (ac_symbol_Find.strip, rs_symbol_Find, 21) := by kernel_rfl

end Go.Ab

namespace Go.Ab
open Go.RowKit Go.Proofs


def ac_L08_large_l0 : ACode :=
  /-live [1, 3, 4]-/ .seq /-7-/ (.seq /-8-/ (.region [ ⟨(some 21), .mov (.t 4), none⟩, ⟨(some 22), .fldaddr 1 1 (.t 1), none⟩, ⟨(some 23), .load false 1 (.t 22), none⟩, ⟨(some 24), .len (.t 23), none⟩, ⟨(some 25), .bin .lss (.t 21) (.t 24), none⟩] [21, 22, 23, 24]) (.cond (.t 25) (.skip) (.exit 0))) (.seq /-9-/ (.block 1 (.seq /-10-/ (.region [ ⟨(some 28), .mov (.t 3), none⟩, ⟨(some 29), .fldaddr 1 1 (.t 1), none⟩, ⟨(some 30), .load false 1 (.t 29), none⟩, ⟨(some 31), .mov (.t 4), none⟩, ⟨(some 32), .idx 5 (.t 30) (.t 31), none⟩, ⟨(some 33), .fldaddr 2 1 (.t 32), none⟩, ⟨(some 34), .load false 1 (.t 33), none⟩, ⟨(some 35), .len (.t 34), none⟩, ⟨(some 36), .bin .add (.t 28) (.t 35), none⟩, ⟨(some 3), .mov (.t 36), none⟩] [25, 28, 29, 30, 31, 32, 33, 34, 35, 36]) (.seq /-11-/ (.region [ ⟨(some 37), .mov (.t 3), none⟩, ⟨(some 38), .bin .gtr (.t 37) (.c (.int .i64 200000)), none⟩] [37]) (.cond (.t 38) (.seq /-12-/ (.region [ ⟨(some 2), .mov (.c (.bool true)), none⟩] [1, 3, 4, 38]) (.ret)) (.skip))))) (.region [ ⟨(some 26), .mov (.t 4), none⟩, ⟨(some 27), .bin .add (.t 26) (.c (.int .i64 1)), none⟩, ⟨(some 4), .mov (.t 27), none⟩] [2, 26, 27, 38]))

def ac_L08_large_k1 : ACode :=
  /-live []-/ .seq /-13-/ (.region [ ⟨(some 2), .mov (.c (.bool false)), none⟩] [1, 3, 4]) (.ret)

/-- decompiler/decompilerlaw08.large -/
def ac_L08_large : ACode := .seq /-0-/ (.region [ ⟨(some 1), .rbox (.t 0), none⟩, ⟨(some 2), .mov (.c (.bool false)), none⟩] [0, 2]) (.seq /-1-/ (.seq /-2-/ (.region [ ⟨(some 5), .fldaddr 1 1 (.t 1), none⟩, ⟨(some 6), .load false 1 (.t 5), none⟩, ⟨(some 7), .len (.t 6), none⟩, ⟨(some 8), .bin .gtr (.t 7) (.c (.int .i64 40)), none⟩, ⟨(some 9), .mov (.t 8), none⟩, ⟨(some 10), .fldaddr 2 1 (.t 1), (some (9, false))⟩, ⟨(some 11), .load false 1 (.t 10), (some (9, false))⟩, ⟨(some 12), .len (.t 11), (some (9, false))⟩, ⟨(some 13), .bin .gtr (.t 12) (.c (.int .i64 300)), (some (9, false))⟩, ⟨(some 14), .pick (.t 9) (.c (.bool true)) (.t 13), none⟩, ⟨(some 15), .mov (.t 14), none⟩, ⟨(some 16), .fldaddr 3 1 (.t 1), (some (15, false))⟩, ⟨(some 17), .load false 1 (.t 16), (some (15, false))⟩, ⟨(some 18), .len (.t 17), (some (15, false))⟩, ⟨(some 19), .bin .gtr (.t 18) (.c (.int .i64 300)), (some (15, false))⟩, ⟨(some 20), .pick (.t 15) (.c (.bool true)) (.t 19), none⟩] [5, 6, 7, 8, 9, 10, 11, 12, 13, 14, 15, 16, 17, 18, 19]) (.cond (.t 20) (.seq /-3-/ (.region [ ⟨(some 2), .mov (.c (.bool true)), none⟩] [1, 20]) (.ret)) (.skip))) (.seq /-4-/ (.region [ ⟨(some 3), .mov (.c (.int .i64 0)), none⟩] [2, 20]) (.seq /-5-/ (.seq /-6-/ (.region [ ⟨(some 4), .mov (.c (.int .i64 0)), none⟩] []) (.block 0 (.loop ac_L08_large_l0))) (ac_L08_large_k1))))

def rs_L08_large : List ARet := [.tmp 2]

set_option maxRecDepth 100000 in
theorem cf_L08_large : compF Try.prog f_L08_large (qRo [1]) = some (ac_L08_large.strip, rs_L08_large, 39) := by kernel_rfl


/-- decompiler/decompilerlaw08.exampleHolds -/
def ac_L08_exampleHolds : ACode := .seq /-0-/ (.region [ ⟨(some 0), .mov (.c (.bool false)), none⟩] [0]) (.seq /-1-/ (.region [ ⟨(some 4), .call f_L08_example [], none⟩, ⟨(some 5), .call f_object_Encode [(.t 4)], none⟩, ⟨(some 3), .mov (.t 5), none⟩, ⟨(some 6), .ext 0 (.t 3), none⟩, ⟨(some 7), .ext 1 (.t 3), none⟩, ⟨(some 1), .mov (.t 6), none⟩, ⟨(some 2), .mov (.t 7), none⟩] [3, 4, 5, 6, 7]) (.seq /-2-/ (.region [ ⟨(some 8), .mov (.t 2), none⟩, ⟨(some 9), .bin .eql (.t 8) (.c (.int .i64 0)), none⟩, ⟨(some 10), .mov (.t 9), none⟩, ⟨(some 11), .mov (.t 1), (some (10, true))⟩, ⟨(some 12), .len (.t 11), (some (10, true))⟩, ⟨(some 13), .bin .eql (.t 12) (.c (.int .i64 29)), (some (10, true))⟩, ⟨(some 14), .pick (.t 10) (.t 13) (.c (.bool false)), none⟩, ⟨(some 15), .mov (.t 14), none⟩, ⟨(some 16), .mov (.t 1), (some (15, true))⟩, ⟨(some 17), .idx 1 (.t 16) (.c (.int .i64 0)), (some (15, true))⟩, ⟨(some 18), .load false 1 (.t 17), (some (15, true))⟩, ⟨(some 19), .bin .eql (.t 18) (.c (.int .u8 68)), (some (15, true))⟩, ⟨(some 20), .pick (.t 15) (.t 19) (.c (.bool false)), none⟩, ⟨(some 21), .mov (.t 20), none⟩, ⟨(some 22), .buildSl 1 3 [.int .u8 0] [(0, (.c (.int .u8 1))), (1, (.c (.int .u8 2))), (2, (.c (.int .u8 3)))], (some (21, true))⟩, ⟨(some 23), .call f_object_Checksum [(.t 22)], (some (21, true))⟩, ⟨(some 24), .bin .eql (.t 23) (.c (.int .u32 14)), (some (21, true))⟩, ⟨(some 25), .pick (.t 21) (.t 24) (.c (.bool false)), none⟩, ⟨(some 26), .mov (.t 25), none⟩, ⟨(some 27), .call f_L08_example [], (some (26, true))⟩, ⟨(some 28), .call f_L08_example [], (some (26, true))⟩, ⟨(some 29), .call f_object_Same [(.t 27), (.t 28)], (some (26, true))⟩, ⟨(some 30), .pick (.t 26) (.t 29) (.c (.bool false)), none⟩, ⟨(some 0), .mov (.t 30), none⟩] [1, 2, 8, 9, 10, 11, 12, 13, 14, 15, 16, 17, 18, 19, 20, 21, 22, 23, 24, 25, 26, 27, 28, 29, 30]) (.ret)))

def rs_L08_exampleHolds : List ARet := [.tmp 0]

set_option maxRecDepth 100000 in
theorem cf_L08_exampleHolds : compF Try.prog f_L08_exampleHolds (qRo []) = some (ac_L08_exampleHolds.strip, rs_L08_exampleHolds, 31) := by kernel_rfl


/-- decompiler/object.Check -/
def ac_object_Check : ACode := .seq /-0-/ (.region [ ⟨(some 1), .rbox (.t 0), none⟩, ⟨(some 2), .mov (.c (.int .i64 0)), none⟩] [0, 2]) (.seq /-1-/ (.seq /-2-/ (.region [ ⟨(some 5), .load true 4 (.t 1), none⟩, ⟨(some 6), .call f_reloc_Check [(.t 5)], none⟩, ⟨(some 3), .mov (.t 6), none⟩] [5, 6]) (.seq /-3-/ (.region [ ⟨(some 7), .mov (.t 3), none⟩, ⟨(some 8), .bin .neq (.t 7) (.c (.int .i64 0)), none⟩] [7]) (.cond (.t 8) (.seq /-4-/ (.region [ ⟨(some 9), .mov (.t 3), none⟩, ⟨(some 2), .mov (.t 9), none⟩] [1, 3, 8, 9]) (.ret)) (.skip)))) (.seq /-5-/ (.region [ ⟨(some 10), .fldaddr 1 1 (.t 1), none⟩, ⟨(some 11), .load false 1 (.t 10), none⟩, ⟨(some 12), .fldaddr 0 1 (.t 1), none⟩, ⟨(some 13), .load false 1 (.t 12), none⟩, ⟨(some 14), .call f_section_Find [(.t 11), (.t 13)], none⟩, ⟨(some 4), .mov (.t 14), none⟩] [2, 3, 8, 10, 11, 12, 13, 14]) (.seq /-6-/ (.seq /-7-/ (.region [ ⟨(some 15), .mov (.t 4), none⟩, ⟨(some 16), .bin .lss (.t 15) (.c (.int .i64 0)), none⟩, ⟨(some 17), .mov (.t 16), none⟩, ⟨(some 18), .fldaddr 1 1 (.t 1), (some (17, false))⟩, ⟨(some 19), .load false 1 (.t 18), (some (17, false))⟩, ⟨(some 20), .mov (.t 4), (some (17, false))⟩, ⟨(some 21), .idx 5 (.t 19) (.t 20), (some (17, false))⟩, ⟨(some 22), .fldaddr 4 1 (.t 21), (some (17, false))⟩, ⟨(some 23), .load false 1 (.t 22), (some (17, false))⟩, ⟨(some 24), .un .not (.t 23), (some (17, false))⟩, ⟨(some 25), .pick (.t 17) (.c (.bool true)) (.t 24), none⟩] [1, 4, 15, 16, 17, 18, 19, 20, 21, 22, 23, 24]) (.cond (.t 25) (.seq /-8-/ (.region [ ⟨(some 2), .mov (.c (.int .i64 11)), none⟩] [25]) (.ret)) (.skip))) (.seq /-9-/ (.region [ ⟨(some 2), .mov (.c (.int .i64 0)), none⟩] [25]) (.ret)))))

def rs_object_Check : List ARet := [.tmp 2]

set_option maxRecDepth 100000 in
theorem cf_object_Check : compF Try.prog f_object_Check (qRo [1]) = some (ac_object_Check.strip, rs_object_Check, 26) := by kernel_rfl


def ac_object_Encode_l0 : ACode :=
  /-live [1, 5, 6, 7, 46, 47, 48]-/ .seq /-14-/ (.region [ ⟨(some 49), .bin .lss (.t 48) (.t 47), none⟩] []) (.seq /-15-/ (.cond (.t 49) (.skip) (.exit 0)) (.seq /-16-/ (.block 1 (.seq /-17-/ (.region [ ⟨(some 50), .idx 5 (.t 46) (.t 48), none⟩, ⟨(some 51), .load true 5 (.t 50), none⟩, ⟨(some 9), .alloc [.str ⟨#[]⟩, .int .u32 0, .nilsl, .bool false, .bool false], none⟩, ⟨none, .store 5 (.t 9) (.t 51), none⟩] [49, 50, 51]) (.seq /-18-/ (.region [ ⟨(some 52), .mov (.t 7), none⟩, ⟨(some 53), .fldaddr 0 1 (.t 9), none⟩, ⟨(some 54), .load false 1 (.t 53), none⟩, ⟨(some 55), .callv (.t 52) [(.t 54)], none⟩] [52, 53, 54, 55]) (.seq /-19-/ (.region [ ⟨(some 56), .mov (.t 6), none⟩, ⟨(some 57), .fldaddr 1 1 (.t 9), none⟩, ⟨(some 58), .load false 1 (.t 57), none⟩, ⟨(some 59), .callv (.t 56) [(.t 58), (.c (.int .i64 4))], none⟩] [56, 57, 58, 59]) (.seq /-20-/ (.draw ( .step ⟨(some 60), .mov (.t 6), none⟩ ( .step ⟨(some 61), .fldaddr 3 1 (.t 9), none⟩ ( .step ⟨(some 64), .fldaddr 4 1 (.t 9), none⟩ ( .alt ⟨(some 62), .load false 1 (.t 61), none⟩ ( .alt ⟨(some 63), .callq f_object_truth [(.t 62)], none⟩ ( .alt ⟨(some 65), .load false 1 (.t 64), none⟩ ( .step ⟨(some 66), .callq f_object_truth [(.t 65)], none⟩ ( .step ⟨(some 67), .bin .mul (.c (.int .u32 2)) (.t 66), none⟩ ( .step ⟨(some 68), .bin .add (.t 63) (.t 67), none⟩ ( .alt ⟨(some 69), .callv (.t 60) [(.t 68), (.c (.int .i64 1))], none⟩ ( .done) ( .stop))))) ( .stop)) ( .alt ⟨(some 65), .load false 1 (.t 64), none⟩ ( .alt ⟨(some 63), .callq f_object_truth [(.t 62)], none⟩ ( .step ⟨(some 66), .callq f_object_truth [(.t 65)], none⟩ ( .step ⟨(some 67), .bin .mul (.c (.int .u32 2)) (.t 66), none⟩ ( .step ⟨(some 68), .bin .add (.t 63) (.t 67), none⟩ ( .alt ⟨(some 69), .callv (.t 60) [(.t 68), (.c (.int .i64 1))], none⟩ ( .done) ( .stop))))) ( .stop)) ( .stop))) ( .alt ⟨(some 65), .load false 1 (.t 64), none⟩ ( .alt ⟨(some 62), .load false 1 (.t 61), none⟩ ( .alt ⟨(some 63), .callq f_object_truth [(.t 62)], none⟩ ( .step ⟨(some 66), .callq f_object_truth [(.t 65)], none⟩ ( .step ⟨(some 67), .bin .mul (.c (.int .u32 2)) (.t 66), none⟩ ( .step ⟨(some 68), .bin .add (.t 63) (.t 67), none⟩ ( .alt ⟨(some 69), .callv (.t 60) [(.t 68), (.c (.int .i64 1))], none⟩ ( .done) ( .stop))))) ( .stop)) ( .stop)) ( .stop)))))) [60, 61, 62, 63, 64, 65, 66, 67, 68, 69]) (.seq /-21-/ (.region [ ⟨(some 70), .mov (.t 6), none⟩, ⟨(some 71), .fldaddr 2 1 (.t 9), none⟩, ⟨(some 72), .load false 1 (.t 71), none⟩, ⟨(some 73), .len (.t 72), none⟩, ⟨(some 74), .conv .u32 (.t 73), none⟩, ⟨(some 75), .callv (.t 70) [(.t 74), (.c (.int .i64 4))], none⟩] [70, 71, 72, 73, 74, 75]) (.seq /-22-/ (.seq /-23-/ (.region [ ⟨(some 76), .load false 1 (.t 5), none⟩, ⟨(some 77), .len (.t 76), none⟩, ⟨(some 78), .fldaddr 2 1 (.t 9), none⟩, ⟨(some 79), .load false 1 (.t 78), none⟩, ⟨(some 80), .len (.t 79), none⟩, ⟨(some 81), .bin .add (.t 77) (.t 80), none⟩, ⟨(some 82), .bin .gtr (.t 81) (.c (.int .i64 65536)), none⟩] [76, 77, 78, 79, 80, 81]) (.cond (.t 82) (.seq /-24-/ (.region [ ⟨(some 2), .mknil 1, none⟩, ⟨(some 3), .mov (.c (.int .i64 6)), none⟩] [1, 5, 6, 7, 9, 46, 47, 48, 82]) (.ret)) (.skip))) (.region [ ⟨(some 83), .load false 1 (.t 5), none⟩, ⟨(some 84), .fldaddr 2 1 (.t 9), none⟩, ⟨(some 85), .load false 1 (.t 84), none⟩, ⟨(some 86), .append 1 1 (.t 83) (.t 85), none⟩, ⟨none, .store 1 (.t 5) (.t 86), none⟩] [2, 3, 9, 82, 83, 84, 85, 86])))))))) (.region [ ⟨(some 87), .bin .add (.t 48) (.c (.int .i64 1)), none⟩, ⟨(some 48), .mov (.t 87), none⟩] [87])))

def ac_object_Encode_l1 : ACode :=
  /-live [1, 5, 6, 7, 89, 90, 91]-/ .seq /-27-/ (.region [ ⟨(some 92), .bin .lss (.t 91) (.t 90), none⟩] []) (.seq /-28-/ (.cond (.t 92) (.skip) (.exit 2)) (.seq /-29-/ (.block 3 (.seq /-30-/ (.region [ ⟨(some 93), .idx 3 (.t 89) (.t 91), none⟩, ⟨(some 94), .load true 3 (.t 93), none⟩, ⟨(some 11), .alloc [.str ⟨#[]⟩, .int .u32 0, .int .i64 0], none⟩, ⟨none, .store 3 (.t 11) (.t 94), none⟩] [92, 93, 94]) (.seq /-31-/ (.region [ ⟨(some 95), .mov (.t 7), none⟩, ⟨(some 96), .fldaddr 0 1 (.t 11), none⟩, ⟨(some 97), .load false 1 (.t 96), none⟩, ⟨(some 98), .callv (.t 95) [(.t 97)], none⟩] [95, 96, 97, 98]) (.seq /-32-/ (.region [ ⟨(some 99), .mov (.t 6), none⟩, ⟨(some 100), .fldaddr 1 1 (.t 11), none⟩, ⟨(some 101), .load false 1 (.t 100), none⟩, ⟨(some 102), .callv (.t 99) [(.t 101), (.c (.int .i64 4))], none⟩] [99, 100, 101, 102]) (.region [ ⟨(some 103), .mov (.t 6), none⟩, ⟨(some 104), .fldaddr 2 1 (.t 11), none⟩, ⟨(some 105), .load false 1 (.t 104), none⟩, ⟨(some 106), .conv .u32 (.t 105), none⟩, ⟨(some 107), .callv (.t 103) [(.t 106), (.c (.int .i64 1))], none⟩] [11, 103, 104, 105, 106, 107]))))) (.region [ ⟨(some 108), .bin .add (.t 91) (.c (.int .i64 1)), none⟩, ⟨(some 91), .mov (.t 108), none⟩] [108])))

def ac_object_Encode_l2 : ACode :=
  /-live [5, 6, 7, 110, 111, 112]-/ .seq /-35-/ (.region [ ⟨(some 113), .bin .lss (.t 112) (.t 111), none⟩] []) (.seq /-36-/ (.cond (.t 113) (.skip) (.exit 4)) (.seq /-37-/ (.block 5 (.seq /-38-/ (.region [ ⟨(some 114), .idx 5 (.t 110) (.t 112), none⟩, ⟨(some 115), .load true 5 (.t 114), none⟩, ⟨(some 13), .alloc [.int .i64 0, .int .i64 0, .int .i64 0, .str ⟨#[]⟩, .int .i32 0], none⟩, ⟨none, .store 5 (.t 13) (.t 115), none⟩] [113, 114, 115]) (.seq /-39-/ (.region [ ⟨(some 116), .mov (.t 6), none⟩, ⟨(some 117), .fldaddr 0 1 (.t 13), none⟩, ⟨(some 118), .load false 1 (.t 117), none⟩, ⟨(some 119), .conv .u32 (.t 118), none⟩, ⟨(some 120), .callv (.t 116) [(.t 119), (.c (.int .i64 1))], none⟩] [116, 117, 118, 119, 120]) (.seq /-40-/ (.region [ ⟨(some 121), .mov (.t 6), none⟩, ⟨(some 122), .fldaddr 1 1 (.t 13), none⟩, ⟨(some 123), .load false 1 (.t 122), none⟩, ⟨(some 124), .conv .u32 (.t 123), none⟩, ⟨(some 125), .callv (.t 121) [(.t 124), (.c (.int .i64 4))], none⟩] [121, 122, 123, 124, 125]) (.seq /-41-/ (.region [ ⟨(some 126), .mov (.t 6), none⟩, ⟨(some 127), .fldaddr 2 1 (.t 13), none⟩, ⟨(some 128), .load false 1 (.t 127), none⟩, ⟨(some 129), .conv .u32 (.t 128), none⟩, ⟨(some 130), .callv (.t 126) [(.t 129), (.c (.int .i64 1))], none⟩] [126, 127, 128, 129, 130]) (.seq /-42-/ (.region [ ⟨(some 131), .mov (.t 7), none⟩, ⟨(some 132), .fldaddr 3 1 (.t 13), none⟩, ⟨(some 133), .load false 1 (.t 132), none⟩, ⟨(some 134), .callv (.t 131) [(.t 133)], none⟩] [131, 132, 133, 134]) (.region [ ⟨(some 135), .mov (.t 6), none⟩, ⟨(some 136), .fldaddr 4 1 (.t 13), none⟩, ⟨(some 137), .load false 1 (.t 136), none⟩, ⟨(some 138), .conv .u32 (.t 137), none⟩, ⟨(some 139), .callv (.t 135) [(.t 138), (.c (.int .i64 4))], none⟩] [13, 135, 136, 137, 138, 139]))))))) (.region [ ⟨(some 140), .bin .add (.t 112) (.c (.int .i64 1)), none⟩, ⟨(some 112), .mov (.t 140), none⟩] [140])))

def ac_object_Encode_k3 : ACode :=
  /-live [5, 6]-/ .seq /-43-/ (.region [ ⟨(some 141), .mov (.t 6), none⟩, ⟨(some 142), .load false 1 (.t 5), none⟩, ⟨(some 143), .call f_object_Checksum [(.t 142)], none⟩, ⟨(some 144), .callv (.t 141) [(.t 143), (.c (.int .i64 4))], none⟩] [6, 7, 110, 111, 112, 141, 142, 143, 144]) (.seq /-44-/ (.seq /-45-/ (.region [ ⟨(some 145), .load false 1 (.t 5), none⟩, ⟨(some 146), .len (.t 145), none⟩, ⟨(some 147), .bin .gtr (.t 146) (.c (.int .i64 65536)), none⟩] [145, 146]) (.cond (.t 147) (.seq /-46-/ (.region [ ⟨(some 2), .mknil 1, none⟩, ⟨(some 3), .mov (.c (.int .i64 6)), none⟩] [5, 147]) (.ret)) (.skip))) (.seq /-47-/ (.region [ ⟨(some 148), .load false 1 (.t 5), none⟩, ⟨(some 2), .mov (.t 148), none⟩, ⟨(some 3), .mov (.c (.int .i64 0)), none⟩] [5, 147, 148]) (.ret)))

def ac_object_Encode_k4 : ACode :=
  /-live [1, 5, 6, 7]-/ .seq /-33-/ (.seq /-34-/ (.region [ ⟨(some 109), .fldaddr 3 1 (.t 1), none⟩, ⟨(some 110), .load false 1 (.t 109), none⟩, ⟨(some 111), .len (.t 110), none⟩, ⟨(some 112), .mov (.c (.int .i64 0)), none⟩] [1, 89, 90, 91, 109]) (.block 4 (.loop ac_object_Encode_l2))) (ac_object_Encode_k3)

def ac_object_Encode_k5 : ACode :=
  /-live [1, 5, 6, 7]-/ .seq /-25-/ (.seq /-26-/ (.region [ ⟨(some 88), .fldaddr 2 1 (.t 1), none⟩, ⟨(some 89), .load false 1 (.t 88), none⟩, ⟨(some 90), .len (.t 89), none⟩, ⟨(some 91), .mov (.c (.int .i64 0)), none⟩] [46, 47, 48, 88]) (.block 2 (.loop ac_object_Encode_l1))) (ac_object_Encode_k4)

/-- decompiler/object.Encode -/
def ac_object_Encode : ACode := .seq /-0-/ (.region [ ⟨(some 1), .rbox (.t 0), none⟩, ⟨(some 2), .mknil 1, none⟩, ⟨(some 3), .mov (.c (.int .i64 0)), none⟩] [0, 2, 3]) (.seq /-1-/ (.seq /-2-/ (.region [ ⟨(some 14), .load true 4 (.t 1), none⟩, ⟨(some 15), .call f_object_Check [(.t 14)], none⟩, ⟨(some 4), .mov (.t 15), none⟩] [14, 15]) (.seq /-3-/ (.region [ ⟨(some 16), .mov (.t 4), none⟩, ⟨(some 17), .bin .neq (.t 16) (.c (.int .i64 0)), none⟩] [16]) (.cond (.t 17) (.seq /-4-/ (.region [ ⟨(some 18), .mov (.t 4), none⟩, ⟨(some 2), .mknil 1, none⟩, ⟨(some 3), .mov (.t 18), none⟩] [1, 4, 17, 18]) (.ret)) (.skip)))) (.seq /-5-/ (.region [ ⟨(some 19), .buildSl 1 4 [.int .u8 0] [(0, (.c (.int .u8 68))), (1, (.c (.int .u8 67))), (2, (.c (.int .u8 79))), (3, (.c (.int .u8 49)))], none⟩, ⟨(some 20), .xop .mark [(.t 19)], none⟩, ⟨(some 5), .alloc [.nilsl], none⟩, ⟨none, .store 1 (.t 5) (.t 20), none⟩] [2, 3, 4, 17, 19, 20]) (.seq /-6-/ (.region [ ⟨(some 21), .mkfn (.func f_object_Encode_1) [(.t 5)], none⟩, ⟨(some 6), .mov (.t 21), none⟩] [21]) (.seq /-7-/ (.region [ ⟨(some 22), .mkfn (.func f_object_Encode_2) [(.t 5)], none⟩, ⟨(some 7), .mov (.t 22), none⟩] [22]) (.seq /-8-/ (.region [ ⟨(some 23), .mov (.t 6), none⟩, ⟨(some 24), .fldaddr 0 1 (.t 1), none⟩, ⟨(some 25), .load false 1 (.t 24), none⟩, ⟨(some 26), .callv (.t 23) [(.t 25), (.c (.int .i64 4))], none⟩] [23, 24, 25, 26]) (.seq /-9-/ (.region [ ⟨(some 27), .mov (.t 6), none⟩, ⟨(some 28), .fldaddr 1 1 (.t 1), none⟩, ⟨(some 29), .load false 1 (.t 28), none⟩, ⟨(some 30), .len (.t 29), none⟩, ⟨(some 31), .conv .u32 (.t 30), none⟩, ⟨(some 32), .callv (.t 27) [(.t 31), (.c (.int .i64 1))], none⟩] [27, 28, 29, 30, 31, 32]) (.seq /-10-/ (.region [ ⟨(some 33), .mov (.t 6), none⟩, ⟨(some 34), .fldaddr 2 1 (.t 1), none⟩, ⟨(some 35), .load false 1 (.t 34), none⟩, ⟨(some 36), .len (.t 35), none⟩, ⟨(some 37), .conv .u32 (.t 36), none⟩, ⟨(some 38), .callv (.t 33) [(.t 37), (.c (.int .i64 2))], none⟩] [33, 34, 35, 36, 37, 38]) (.seq /-11-/ (.region [ ⟨(some 39), .mov (.t 6), none⟩, ⟨(some 40), .fldaddr 3 1 (.t 1), none⟩, ⟨(some 41), .load false 1 (.t 40), none⟩, ⟨(some 42), .len (.t 41), none⟩, ⟨(some 43), .conv .u32 (.t 42), none⟩, ⟨(some 44), .callv (.t 39) [(.t 43), (.c (.int .i64 2))], none⟩] [39, 40, 41, 42, 43, 44]) (.seq /-12-/ (.seq /-13-/ (.region [ ⟨(some 45), .fldaddr 1 1 (.t 1), none⟩, ⟨(some 46), .load false 1 (.t 45), none⟩, ⟨(some 47), .len (.t 46), none⟩, ⟨(some 48), .mov (.c (.int .i64 0)), none⟩] [45]) (.block 0 (.loop ac_object_Encode_l0))) (ac_object_Encode_k5))))))))))

def rs_object_Encode : List ARet := [.tmp 2, .tmp 3]

set_option maxRecDepth 100000 in
theorem cf_object_Encode : compF Try.prog f_object_Encode (qRo [1]) = some (ac_object_Encode.strip, rs_object_Encode, 149) := by kernel_rfl

def ac_object_Checksum_l0 : ACode :=
  /-live [3, 6, 7, 8]-/ .seq /-4-/ (.region [ ⟨(some 9), .bin .lss (.t 8) (.t 7), none⟩] []) (.seq /-5-/ (.cond (.t 9) (.skip) (.exit 0)) (.seq /-6-/ (.block 1 (.seq /-7-/ (.region [ ⟨(some 10), .mov (.t 8), none⟩, ⟨(some 11), .idx 1 (.t 6) (.t 8), none⟩, ⟨(some 12), .load false 1 (.t 11), none⟩, ⟨(some 4), .mov (.t 10), none⟩, ⟨(some 5), .mov (.t 12), none⟩] [9, 10, 11, 12]) (.region [ ⟨(some 13), .mov (.t 3), none⟩, ⟨(some 14), .mov (.t 5), none⟩, ⟨(some 15), .conv .u32 (.t 14), none⟩, ⟨(some 16), .mov (.t 4), none⟩, ⟨(some 17), .bin .add (.t 16) (.c (.int .i64 1)), none⟩, ⟨(some 18), .conv .u32 (.t 17), none⟩, ⟨(some 19), .bin .mul (.t 15) (.t 18), none⟩, ⟨(some 20), .bin .add (.t 13) (.t 19), none⟩, ⟨(some 3), .mov (.t 20), none⟩] [4, 5, 13, 14, 15, 16, 17, 18, 19, 20]))) (.region [ ⟨(some 21), .bin .add (.t 8) (.c (.int .i64 1)), none⟩, ⟨(some 8), .mov (.t 21), none⟩] [21])))

def ac_object_Checksum_k1 : ACode :=
  /-live [3]-/ .seq /-8-/ (.region [ ⟨(some 22), .mov (.t 3), none⟩, ⟨(some 2), .mov (.t 22), none⟩] [3, 6, 7, 8, 22]) (.ret)

/-- decompiler/object.Checksum -/
def ac_object_Checksum : ACode := .seq /-0-/ (.region [ ⟨(some 2), .mov (.c (.int .u32 0)), none⟩] [2]) (.seq /-1-/ (.region [ ⟨(some 3), .mov (.c (.int .u32 0)), none⟩] []) (.seq /-2-/ (.seq /-3-/ (.region [ ⟨(some 6), .mov (.t 0), none⟩, ⟨(some 7), .len (.t 6), none⟩, ⟨(some 8), .mov (.c (.int .i64 0)), none⟩] [0]) (.block 0 (.loop ac_object_Checksum_l0))) (ac_object_Checksum_k1)))

def rs_object_Checksum : List ARet := [.tmp 2]

set_option maxRecDepth 100000 in
theorem cf_object_Checksum : compF Try.prog f_object_Checksum (qRo []) = some (ac_object_Checksum.strip, rs_object_Checksum, 23) := by kernel_rfl

/-- decompiler/object.Same -/
def ac_object_Same : ACode := .seq /-0-/ (.region [ ⟨(some 2), .rbox (.t 0), none⟩, ⟨(some 3), .rbox (.t 1), none⟩, ⟨(some 4), .mov (.c (.bool false)), none⟩] [0, 1, 4]) (.seq /-1-/ (.region [ ⟨(some 6), .fldaddr 1 1 (.t 2), none⟩, ⟨(some 7), .load false 1 (.t 6), none⟩, ⟨(some 8), .fldaddr 1 1 (.t 3), none⟩, ⟨(some 9), .load false 1 (.t 8), none⟩, ⟨(some 10), .call f_slices_EqualFunc_api_Section_api_Section_api_Section_api_Section [(.t 7), (.t 9), (.c (.fn (.func f_object_Same_1) []))], none⟩, ⟨(some 5), .mov (.t 10), none⟩] [6, 7, 8, 9, 10]) (.seq /-2-/ (.region [ ⟨(some 11), .mov (.t 5), none⟩, ⟨(some 12), .mov (.t 11), none⟩, ⟨(some 13), .fldaddr 0 1 (.t 2), (some (12, true))⟩, ⟨(some 14), .load false 1 (.t 13), (some (12, true))⟩, ⟨(some 15), .fldaddr 0 1 (.t 3), (some (12, true))⟩, ⟨(some 16), .load false 1 (.t 15), (some (12, true))⟩, ⟨(some 17), .bin .eql (.t 14) (.t 16), (some (12, true))⟩, ⟨(some 18), .pick (.t 12) (.t 17) (.c (.bool false)), none⟩, ⟨(some 19), .mov (.t 18), none⟩, ⟨(some 20), .fldaddr 2 1 (.t 2), (some (19, true))⟩, ⟨(some 21), .load false 1 (.t 20), (some (19, true))⟩, ⟨(some 22), .fldaddr 2 1 (.t 3), (some (19, true))⟩, ⟨(some 23), .load false 1 (.t 22), (some (19, true))⟩, ⟨(some 24), .call f_slices_Equal_api_Symbol_api_Symbol [(.t 21), (.t 23)], (some (19, true))⟩, ⟨(some 25), .pick (.t 19) (.t 24) (.c (.bool false)), none⟩, ⟨(some 26), .mov (.t 25), none⟩, ⟨(some 27), .fldaddr 3 1 (.t 2), (some (26, true))⟩, ⟨(some 28), .load false 1 (.t 27), (some (26, true))⟩, ⟨(some 29), .fldaddr 3 1 (.t 3), (some (26, true))⟩, ⟨(some 30), .load false 1 (.t 29), (some (26, true))⟩, ⟨(some 31), .call f_slices_Equal_api_Reloc_api_Reloc [(.t 28), (.t 30)], (some (26, true))⟩, ⟨(some 32), .pick (.t 26) (.t 31) (.c (.bool false)), none⟩, ⟨(some 4), .mov (.t 32), none⟩] [2, 3, 5, 11, 12, 13, 14, 15, 16, 17, 18, 19, 20, 21, 22, 23, 24, 25, 26, 27, 28, 29, 30, 31, 32]) (.ret)))

def rs_object_Same : List ARet := [.tmp 4]

set_option maxRecDepth 100000 in
theorem cf_object_Same : compF Try.prog f_object_Same (qRo [2, 3]) = some (ac_object_Same.strip, rs_object_Same, 33) := by kernel_rfl

def ac_R08_Same_l0 : ACode :=
  /-live [2, 3, 5]-/ .seq /-6-/ (.seq /-7-/ (.region [ ⟨(some 38), .mov (.t 5), none⟩, ⟨(some 39), .fldaddr 2 1 (.t 2), none⟩, ⟨(some 40), .load false 1 (.t 39), none⟩, ⟨(some 41), .len (.t 40), none⟩, ⟨(some 42), .bin .lss (.t 38) (.t 41), none⟩] [38, 39, 40, 41]) (.cond (.t 42) (.skip) (.exit 0))) (.seq /-8-/ (.block 1 (.seq /-9-/ (.draw ( .step ⟨(some 45), .fldaddr 2 1 (.t 2), none⟩ ( .step ⟨(some 46), .load false 1 (.t 45), none⟩ ( .step ⟨(some 47), .mov (.t 5), none⟩ ( .step ⟨(some 48), .idx 3 (.t 46) (.t 47), none⟩ ( .step ⟨(some 49), .load true 3 (.t 48), none⟩ ( .step ⟨(some 50), .fldaddr 2 1 (.t 3), none⟩ ( .step ⟨(some 51), .load false 1 (.t 50), none⟩ ( .step ⟨(some 52), .mov (.t 5), none⟩ ( .step ⟨(some 53), .idx 3 (.t 51) (.t 52), none⟩ ( .step ⟨(some 54), .load true 3 (.t 53), none⟩ ( .step ⟨(some 55), .xop (.eqs true [1, 0, 0]) [(.t 49), (.t 54)], none⟩ ( .done)))))))))))) [42, 45, 46, 47, 48, 49, 50, 51, 52, 53, 54]) (.cond (.t 55) (.seq /-10-/ (.region [ ⟨(some 4), .mov (.c (.bool false)), none⟩] [2, 3, 5, 55]) (.ret)) (.skip)))) (.region [ ⟨(some 43), .mov (.t 5), none⟩, ⟨(some 44), .bin .add (.t 43) (.c (.int .i64 1)), none⟩, ⟨(some 5), .mov (.t 44), none⟩] [4, 43, 44, 55]))

def ac_R08_Same_l1 : ACode :=
  /-live [2, 3, 6]-/ .seq /-13-/ (.seq /-14-/ (.region [ ⟨(some 56), .mov (.t 6), none⟩, ⟨(some 57), .fldaddr 3 1 (.t 2), none⟩, ⟨(some 58), .load false 1 (.t 57), none⟩, ⟨(some 59), .len (.t 58), none⟩, ⟨(some 60), .bin .lss (.t 56) (.t 59), none⟩] [56, 57, 58, 59]) (.cond (.t 60) (.skip) (.exit 2))) (.seq /-15-/ (.block 3 (.seq /-16-/ (.draw ( .step ⟨(some 63), .fldaddr 3 1 (.t 2), none⟩ ( .step ⟨(some 64), .load false 1 (.t 63), none⟩ ( .step ⟨(some 65), .mov (.t 6), none⟩ ( .step ⟨(some 66), .idx 5 (.t 64) (.t 65), none⟩ ( .step ⟨(some 67), .load true 5 (.t 66), none⟩ ( .step ⟨(some 68), .fldaddr 3 1 (.t 3), none⟩ ( .step ⟨(some 69), .load false 1 (.t 68), none⟩ ( .step ⟨(some 70), .mov (.t 6), none⟩ ( .step ⟨(some 71), .idx 5 (.t 69) (.t 70), none⟩ ( .step ⟨(some 72), .load true 5 (.t 71), none⟩ ( .step ⟨(some 73), .xop (.eqs true [0, 0, 0, 1, 0]) [(.t 67), (.t 72)], none⟩ ( .done)))))))))))) [60, 63, 64, 65, 66, 67, 68, 69, 70, 71, 72]) (.cond (.t 73) (.seq /-17-/ (.region [ ⟨(some 4), .mov (.c (.bool false)), none⟩] [2, 3, 6, 73]) (.ret)) (.skip)))) (.region [ ⟨(some 61), .mov (.t 6), none⟩, ⟨(some 62), .bin .add (.t 61) (.c (.int .i64 1)), none⟩, ⟨(some 6), .mov (.t 62), none⟩] [4, 61, 62, 73]))

def ac_R08_Same_k2 : ACode :=
  /-live []-/ .seq /-18-/ (.region [ ⟨(some 4), .mov (.c (.bool true)), none⟩] [2, 3, 6]) (.ret)

def ac_R08_Same_k3 : ACode :=
  /-live [2, 3]-/ .seq /-11-/ (.seq /-12-/ (.region [ ⟨(some 6), .mov (.c (.int .i64 0)), none⟩] [5]) (.block 2 (.loop ac_R08_Same_l1))) (ac_R08_Same_k2)

/-- decompiler/decompilerref08.Same -/
def ac_R08_Same : ACode := .seq /-0-/ (.region [ ⟨(some 2), .rbox (.t 0), none⟩, ⟨(some 3), .rbox (.t 1), none⟩, ⟨(some 4), .mov (.c (.bool false)), none⟩] [0, 1, 4]) (.seq /-1-/ (.seq /-2-/ (.region [ ⟨(some 7), .fldaddr 0 1 (.t 2), none⟩, ⟨(some 8), .load false 1 (.t 7), none⟩, ⟨(some 9), .fldaddr 0 1 (.t 3), none⟩, ⟨(some 10), .load false 1 (.t 9), none⟩, ⟨(some 11), .bin .neq (.t 8) (.t 10), none⟩, ⟨(some 12), .mov (.t 11), none⟩, ⟨(some 13), .fldaddr 1 1 (.t 2), (some (12, false))⟩, ⟨(some 14), .load false 1 (.t 13), (some (12, false))⟩, ⟨(some 15), .fldaddr 1 1 (.t 3), (some (12, false))⟩, ⟨(some 16), .load false 1 (.t 15), (some (12, false))⟩, ⟨(some 17), .call f_R05_SameSections [(.t 14), (.t 16)], (some (12, false))⟩, ⟨(some 18), .un .not (.t 17), (some (12, false))⟩, ⟨(some 19), .pick (.t 12) (.c (.bool true)) (.t 18), none⟩, ⟨(some 20), .mov (.t 19), none⟩, ⟨(some 21), .fldaddr 2 1 (.t 2), (some (20, false))⟩, ⟨(some 22), .load false 1 (.t 21), (some (20, false))⟩, ⟨(some 23), .len (.t 22), (some (20, false))⟩, ⟨(some 24), .fldaddr 2 1 (.t 3), (some (20, false))⟩, ⟨(some 25), .load false 1 (.t 24), (some (20, false))⟩, ⟨(some 26), .len (.t 25), (some (20, false))⟩, ⟨(some 27), .bin .neq (.t 23) (.t 26), (some (20, false))⟩, ⟨(some 28), .pick (.t 20) (.c (.bool true)) (.t 27), none⟩, ⟨(some 29), .mov (.t 28), none⟩, ⟨(some 30), .fldaddr 3 1 (.t 2), (some (29, false))⟩, ⟨(some 31), .load false 1 (.t 30), (some (29, false))⟩, ⟨(some 32), .len (.t 31), (some (29, false))⟩, ⟨(some 33), .fldaddr 3 1 (.t 3), (some (29, false))⟩, ⟨(some 34), .load false 1 (.t 33), (some (29, false))⟩, ⟨(some 35), .len (.t 34), (some (29, false))⟩, ⟨(some 36), .bin .neq (.t 32) (.t 35), (some (29, false))⟩, ⟨(some 37), .pick (.t 29) (.c (.bool true)) (.t 36), none⟩] [7, 8, 9, 10, 11, 12, 13, 14, 15, 16, 17, 18, 19, 20, 21, 22, 23, 24, 25, 26, 27, 28, 29, 30, 31, 32, 33, 34, 35, 36]) (.cond (.t 37) (.seq /-3-/ (.region [ ⟨(some 4), .mov (.c (.bool false)), none⟩] [2, 3, 37]) (.ret)) (.skip))) (.seq /-4-/ (.seq /-5-/ (.region [ ⟨(some 5), .mov (.c (.int .i64 0)), none⟩] [4, 37]) (.block 0 (.loop ac_R08_Same_l0))) (ac_R08_Same_k3)))

def rs_R08_Same : List ARet := [.tmp 4]

set_option maxRecDepth 100000 in
theorem cf_R08_Same : compF Try.prog f_R08_Same (qRo [2, 3]) = some (ac_R08_Same.strip, rs_R08_Same, 74) := by kernel_rfl


/-- decompiler/decompilerlaw08.example -/
def ac_L08_example : ACode := .seq /-0-/ (.region [ ⟨(some 0), .alloc [.int .u32 0, .nilsl, .nilsl, .nilsl], none⟩] []) (.seq /-1-/ (.region [ ⟨(some 1), .buildSl 1 1 [.int .u8 0] [(0, (.c (.int .u8 1)))], none⟩, ⟨(some 2), .build [.str ⟨#[]⟩, .int .u32 0, .nilsl, .bool false, .bool false] [(0, 1, (.c (.str ⟨#[116]⟩))), (1, 1, (.c (.int .u32 4096))), (2, 1, (.t 1)), (4, 1, (.c (.bool true)))], none⟩, ⟨(some 3), .buildSl 5 1 [.str ⟨#[]⟩, .int .u32 0, .nilsl, .bool false, .bool false] [(0, (.t 2))], none⟩, ⟨(some 4), .build [.int .u32 0, .nilsl, .nilsl, .nilsl] [(0, 1, (.c (.int .u32 4096))), (1, 1, (.t 3))], none⟩, ⟨none, .store 4 (.t 0) (.t 4), none⟩] [1, 2, 3, 4]) (.ret))

def rs_L08_example : List ARet := [.cell 0 true 4]

set_option maxRecDepth 100000 in
theorem cf_L08_example : compF Try.prog f_L08_example (qRo []) = some (ac_L08_example.strip, rs_L08_example, 5) := by kernel_rfl


/-- decompiler/object.Encode$1 -/
def ac_object_Encode_1 : ACode := .region [ ⟨(some 5), .load false 1 (.t 2), none⟩, ⟨(some 6), .mov (.t 0), none⟩, ⟨(some 7), .mov (.t 1), none⟩, ⟨(some 8), .call f_image_Put [(.t 5), (.t 6), (.t 7)], none⟩, ⟨none, .store 1 (.t 2) (.t 8), none⟩] [0, 1, 2, 5, 6, 7, 8]

def rs_object_Encode_1 : List ARet := []

set_option maxRecDepth 100000 in
theorem cf_object_Encode_1 : compF Try.prog f_object_Encode_1 (qRo []) = some (ac_object_Encode_1.strip, rs_object_Encode_1, 9) := by kernel_rfl

def ac_image_Put_l0 : ACode :=
  /-live [1, 7, 15, 16]-/ .seq /-7-/ (.region [ ⟨(some 17), .bin .lss (.t 16) (.t 15), none⟩] []) (.seq /-8-/ (.cond (.t 17) (.skip) (.exit 0)) (.seq /-9-/ (.block 1 (.seq /-10-/ (.region [ ⟨(some 18), .mov (.t 16), none⟩, ⟨(some 8), .mov (.t 18), none⟩] [17, 18]) (.region [ ⟨(some 19), .mov (.t 7), none⟩, ⟨(some 20), .mov (.t 1), none⟩, ⟨(some 21), .mov (.t 8), none⟩, ⟨(some 22), .bin .mul (.c (.int .i64 8)) (.t 21), none⟩, ⟨(some 23), .bin .shr (.t 20) (.t 22), none⟩, ⟨(some 24), .conv .u8 (.t 23), none⟩, ⟨(some 25), .buildSl 1 1 [.int .u8 0] [(0, (.t 24))], none⟩, ⟨(some 26), .append 1 1 (.t 19) (.t 25), none⟩, ⟨(some 7), .mov (.t 26), none⟩] [8, 19, 20, 21, 22, 23, 24, 25, 26]))) (.region [ ⟨(some 27), .bin .add (.t 16) (.c (.int .i64 1)), none⟩, ⟨(some 16), .mov (.t 27), none⟩] [27])))

def ac_image_Put_k1 : ACode :=
  /-live [7]-/ .seq /-11-/ (.region [ ⟨(some 28), .mov (.t 7), none⟩, ⟨(some 6), .mov (.t 28), none⟩] [1, 7, 15, 16, 28]) (.ret)

/-- decompiler/image.Put -/
def ac_image_Put : ACode := .seq /-0-/ (.region [ ⟨(some 6), .mknil 1, none⟩] [6]) (.seq /-1-/ (.region [ ⟨(some 9), .mov (.t 0), none⟩, ⟨(some 10), .call f_image_own [(.t 9)], none⟩, ⟨(some 7), .mov (.t 10), none⟩] [0, 9, 10]) (.seq /-2-/ (.seq /-3-/ (.region [ ⟨(some 11), .mov (.t 2), none⟩, ⟨(some 12), .call f_image_valid [(.t 11)], none⟩, ⟨(some 13), .un .not (.t 12), none⟩] [11, 12]) (.cond (.t 13) (.seq /-4-/ (.region [ ⟨(some 14), .mov (.t 7), none⟩, ⟨(some 6), .mov (.t 14), none⟩] [1, 2, 7, 13, 14]) (.ret)) (.skip))) (.seq /-5-/ (.seq /-6-/ (.region [ ⟨(some 15), .mov (.t 2), none⟩, ⟨(some 16), .mov (.c (.int .i64 0)), none⟩] [2, 6, 13]) (.block 0 (.loop ac_image_Put_l0))) (ac_image_Put_k1))))

def rs_image_Put : List ARet := [.tmp 6]

set_option maxRecDepth 100000 in
theorem cf_image_Put : compF Try.prog f_image_Put (qRo []) = some (ac_image_Put.strip, rs_image_Put, 29) := by kernel_rfl


/-- decompiler/object.Encode$2 -/
def ac_object_Encode_2 : ACode := .region [ ⟨(some 4), .load false 1 (.t 1), none⟩, ⟨(some 5), .mov (.t 0), none⟩, ⟨(some 6), .call f_image_PutText [(.t 4), (.t 5)], none⟩, ⟨(some 3), .mov (.t 6), none⟩, ⟨(some 7), .ext 0 (.t 3), none⟩, ⟨(some 8), .ext 1 (.t 3), none⟩, ⟨none, .store 1 (.t 1) (.t 7), none⟩] [0, 1, 3, 4, 5, 6, 7, 8]

def rs_object_Encode_2 : List ARet := []

set_option maxRecDepth 100000 in
theorem cf_object_Encode_2 : compF Try.prog f_object_Encode_2 (qRo []) = some (ac_object_Encode_2.strip, rs_object_Encode_2, 9) := by kernel_rfl


/-- decompiler/image.PutText -/
def ac_image_PutText : ACode := .seq /-0-/ (.region [ ⟨(some 4), .mknil 1, none⟩, ⟨(some 5), .mov (.c (.int .i64 0)), none⟩] [4, 5]) (.seq /-1-/ (.seq /-2-/ (.region [ ⟨(some 6), .mov (.t 1), none⟩, ⟨(some 7), .slen (.t 6), none⟩, ⟨(some 8), .bin .gtr (.t 7) (.c (.int .i64 32)), none⟩] [6, 7]) (.cond (.t 8) (.seq /-3-/ (.region [ ⟨(some 4), .mknil 1, none⟩, ⟨(some 5), .mov (.c (.int .i64 6)), none⟩] [0, 1, 8]) (.ret)) (.skip))) (.seq /-4-/ (.region [ ⟨(some 9), .mov (.t 0), none⟩, ⟨(some 10), .call f_image_own [(.t 9)], none⟩, ⟨(some 11), .mov (.t 1), none⟩, ⟨(some 12), .slen (.t 11), none⟩, ⟨(some 13), .conv .u8 (.t 12), none⟩, ⟨(some 14), .buildSl 1 1 [.int .u8 0] [(0, (.t 13))], none⟩, ⟨(some 15), .append 1 1 (.t 10) (.t 14), none⟩, ⟨(some 16), .mov (.t 1), none⟩, ⟨(some 17), .xop .sapp [(.t 15), (.t 16)], none⟩, ⟨(some 4), .mov (.t 17), none⟩, ⟨(some 5), .mov (.c (.int .i64 0)), none⟩] [0, 1, 8, 9, 10, 11, 12, 13, 14, 15, 16, 17]) (.ret)))

def rs_image_PutText : List ARet := [.tmp 4, .tmp 5]

set_option maxRecDepth 100000 in
theorem cf_image_PutText : compF Try.prog f_image_PutText (qRo []) = some (ac_image_PutText.strip, rs_image_PutText, 18) := by kernel_rfl


/-- decompiler/object.truth -/
def ac_object_truth : ACode := .seq /-0-/ (.region [ ⟨(some 2), .mov (.c (.int .u32 0)), none⟩] [2]) (.seq /-1-/ (.seq /-2-/ (.region [ ⟨(some 3), .mov (.t 0), none⟩] [0]) (.cond (.t 3) (.seq /-3-/ (.region [ ⟨(some 2), .mov (.c (.int .u32 1)), none⟩] [3]) (.ret)) (.skip))) (.seq /-4-/ (.region [ ⟨(some 2), .mov (.c (.int .u32 0)), none⟩] [3]) (.ret)))

def rs_object_truth : List ARet := [.tmp 2]

set_option maxRecDepth 100000 in
theorem cf_object_truth : compF Try.prog f_object_truth (qRo []) = some (ac_object_truth.strip, rs_object_truth, 4) := by kernel_rfl

/-- decompiler/object.Same$1 -/
def ac_object_Same_1 : ACode := .seq /-0-/ (.region [ ⟨(some 2), .rbox (.t 0), none⟩, ⟨(some 3), .rbox (.t 1), none⟩, ⟨(some 4), .mov (.c (.bool false)), none⟩] [0, 1, 4]) (.seq /-1-/ (.region [ ⟨(some 5), .fldaddr 0 1 (.t 2), none⟩, ⟨(some 6), .load false 1 (.t 5), none⟩, ⟨(some 7), .fldaddr 0 1 (.t 3), none⟩, ⟨(some 8), .load false 1 (.t 7), none⟩, ⟨(some 9), .xop (.seq false) [(.t 6), (.t 8)], none⟩, ⟨(some 10), .mov (.t 9), none⟩, ⟨(some 11), .fldaddr 1 1 (.t 2), (some (10, true))⟩, ⟨(some 12), .load false 1 (.t 11), (some (10, true))⟩, ⟨(some 13), .fldaddr 1 1 (.t 3), (some (10, true))⟩, ⟨(some 14), .load false 1 (.t 13), (some (10, true))⟩, ⟨(some 15), .bin .eql (.t 12) (.t 14), (some (10, true))⟩, ⟨(some 16), .pick (.t 10) (.t 15) (.c (.bool false)), none⟩, ⟨(some 17), .mov (.t 16), none⟩, ⟨(some 18), .fldaddr 2 1 (.t 2), (some (17, true))⟩, ⟨(some 19), .load false 1 (.t 18), (some (17, true))⟩, ⟨(some 20), .fldaddr 2 1 (.t 3), (some (17, true))⟩, ⟨(some 21), .load false 1 (.t 20), (some (17, true))⟩, ⟨(some 22), .call f_slices_Equal_byte_byte [(.t 19), (.t 21)], (some (17, true))⟩, ⟨(some 23), .pick (.t 17) (.t 22) (.c (.bool false)), none⟩, ⟨(some 24), .mov (.t 23), none⟩, ⟨(some 25), .fldaddr 3 1 (.t 2), (some (24, true))⟩, ⟨(some 26), .load false 1 (.t 25), (some (24, true))⟩, ⟨(some 27), .fldaddr 3 1 (.t 3), (some (24, true))⟩, ⟨(some 28), .load false 1 (.t 27), (some (24, true))⟩, ⟨(some 29), .eqb false (.t 26) (.t 28), (some (24, true))⟩, ⟨(some 30), .pick (.t 24) (.t 29) (.c (.bool false)), none⟩, ⟨(some 31), .mov (.t 30), none⟩, ⟨(some 32), .fldaddr 4 1 (.t 2), (some (31, true))⟩, ⟨(some 33), .load false 1 (.t 32), (some (31, true))⟩, ⟨(some 34), .fldaddr 4 1 (.t 3), (some (31, true))⟩, ⟨(some 35), .load false 1 (.t 34), (some (31, true))⟩, ⟨(some 36), .eqb false (.t 33) (.t 35), (some (31, true))⟩, ⟨(some 37), .pick (.t 31) (.t 36) (.c (.bool false)), none⟩, ⟨(some 4), .mov (.t 37), none⟩] [2, 3, 5, 6, 7, 8, 9, 10, 11, 12, 13, 14, 15, 16, 17, 18, 19, 20, 21, 22, 23, 24, 25, 26, 27, 28, 29, 30, 31, 32, 33, 34, 35, 36, 37]) (.ret))

def rs_object_Same_1 : List ARet := [.tmp 4]

set_option maxRecDepth 100000 in
theorem cf_object_Same_1 : compF Try.prog f_object_Same_1 (qRo [2, 3]) = some (ac_object_Same_1.strip, rs_object_Same_1, 38) := by kernel_rfl


/-- decompiler/image.own -/
def ac_image_own : ACode := .seq /-0-/ (.region [ ⟨(some 2), .mknil 1, none⟩] [2]) (.seq /-1-/ (.region [ ⟨(some 4), .mov (.t 0), none⟩, ⟨(some 5), .call f_slices_Clone_byte_byte [(.t 4)], none⟩, ⟨(some 3), .mov (.t 5), none⟩] [0, 4, 5]) (.seq /-2-/ (.region [ ⟨(some 6), .mov (.t 3), none⟩, ⟨(some 7), .mov (.t 3), none⟩, ⟨(some 8), .len (.t 7), none⟩, ⟨(some 9), .mov (.t 3), none⟩, ⟨(some 10), .len (.t 9), none⟩, ⟨(some 11), .xop (.sl3 1) [(.t 6), (.t 8), (.t 10)], none⟩, ⟨(some 2), .mov (.t 11), none⟩] [3, 6, 7, 8, 9, 10, 11]) (.ret)))

def rs_image_own : List ARet := [.tmp 2]

set_option maxRecDepth 100000 in
theorem cf_image_own : compF Try.prog f_image_own (qRo []) = some (ac_image_own.strip, rs_image_own, 12) := by kernel_rfl


/-- decompiler/image.valid -/
def ac_image_valid : ACode := .seq /-0-/ (.region [ ⟨(some 2), .mov (.c (.bool false)), none⟩] [2]) (.seq /-1-/ (.region [ ⟨(some 3), .mov (.t 0), none⟩, ⟨(some 4), .bin .eql (.t 3) (.c (.int .i64 1)), none⟩, ⟨(some 5), .mov (.t 4), none⟩, ⟨(some 6), .mov (.t 0), (some (5, false))⟩, ⟨(some 7), .bin .eql (.t 6) (.c (.int .i64 2)), (some (5, false))⟩, ⟨(some 8), .pick (.t 5) (.c (.bool true)) (.t 7), none⟩, ⟨(some 9), .mov (.t 8), none⟩, ⟨(some 10), .mov (.t 0), (some (9, false))⟩, ⟨(some 11), .bin .eql (.t 10) (.c (.int .i64 4)), (some (9, false))⟩, ⟨(some 12), .pick (.t 9) (.c (.bool true)) (.t 11), none⟩, ⟨(some 2), .mov (.t 12), none⟩] [0, 3, 4, 5, 6, 7, 8, 9, 10, 11, 12]) (.ret))

def rs_image_valid : List ARet := [.tmp 2]

set_option maxRecDepth 100000 in
theorem cf_image_valid : compF Try.prog f_image_valid (qRo []) = some (ac_image_valid.strip, rs_image_valid, 13) := by kernel_rfl

end Go.Ab

namespace Go.Ab
open Go.RowKit Go.Proofs

def encB (l : List UInt8) : AV := encL 1 cByte l
def Sec.cells (s : Sec) : List AV := [.str s.name, .int .u32 (s.addr.toNat : Int), encB s.data, .bool s.wr, .bool s.ex]
def Sym.cells (s : Sym) : List AV := [.str s.name, .int .u32 (s.addr.toNat : Int), .int .i64 s.kind]
def Rel.cells (r : Rel) : List AV := [.int .i64 r.sec, .int .i64 r.off, .int .i64 r.kind, .str r.sym, .int .i32 r.add]
def Bin.cells (o : Bin) : List AV := [.int .u32 (o.entry.toNat : Int), encL 5 Sec.cells o.secs, encL 3 Sym.cells o.syms, encL 5 Rel.cells o.rels]

theorem u32_lt (x : UInt32) : x.toNat < 4294967296 := x.toNat_lt
theorem u8_lt (x : UInt8) : x.toNat < 256 := x.toNat_lt
theorem str_len (s : ByteArray) : s.data.toList.length = s.size := by rw [Array.length_toList]; rfl

/-- All bytes before i are right. -/
def okTo (s : ByteArray) (i : Nat) : Prop := ∀ j (h : j < s.data.toList.length), j < i → okByte (s.data.toList[j]).toNat = true

theorem okTo_end {s : ByteArray} (h : okTo s s.size) : s.data.toList.all (fun b => okByte b.toNat) = true := by
  rw [List.all_eq_true]
  intro b hb
  obtain ⟨i, hi, rfl⟩ := List.mem_iff_getElem.1 hb
  exact h i hi (by rw [str_len] at hi; exact hi)
theorem okTo_no {s : ByteArray} {i : Nat} (h : i < s.data.toList.length) (hb : okByte (s.data.toList[i]).toNat = false) : s.data.toList.all (fun b => okByte b.toNat) = false := by
  rw [List.all_eq_false]
  exact ⟨_, List.getElem_mem h, by rw [hb]; decide⟩
theorem okTo_succ {s : ByteArray} {i : Nat} (h : i < s.data.toList.length) (hi : okTo s i) (hb : okByte (s.data.toList[i]).toNat = true) : okTo s (i + 1) := by
  intro j hj hji
  by_cases h2 : j = i
  · subst h2; exact hb
  · exact hi j hj (by omega)

theorem byte_class (n : Nat) (h : n < 256) : n ≤ 45 ∨ n = 46 ∨ n = 47 ∨ (48 ≤ n ∧ n ≤ 57) ∨ (58 ≤ n ∧ n ≤ 64) ∨ (65 ≤ n ∧ n ≤ 90) ∨ (91 ≤ n ∧ n ≤ 94) ∨ n = 95 ∨ n = 96 ∨ (97 ≤ n ∧ n ≤ 122) ∨ (123 ≤ n ∧ n ≤ 255) := by omega

end Go.Ab

namespace Go.Ab
open Go.RowKit Go.Proofs

theorem section_name_ok (s : ByteArray) (hs : s.size ≤ big) : PureFn Try.prog f_section_name [.str s] (· = .bool (nameOk s)) := by
  refine fn_x cf_section_name rfl ?_
  unfold ac_section_name
  have hB : big = 9223372036854775807 := rfl
  have hl := str_len s
  (repeat (first | (simp (disch := first | exact dis1 | fail) only [evA, Nat.reduceBEq, Nat.reduceAdd, Nat.reduceLeDiff, boxR, rboxR, allocR, fldR, binI, unR, pickR, mknilR, mkslR, buildSlR, buildR, extR, convI, eqB, evU, wrap64]) | (with_reducible intro _) | ((with_reducible apply And.intro); omega)))
  refine loopX_intro (fun i : Nat => ([(0, .str s), (6, .own 0 0 0 0 s.size), (7, .int .i64 s.size), (8, .int .i64 i)], [(0, .row 1 (s.data.toList.map cByte) 0)])) 1 (fun i => i ≤ s.size ∧ okTo s i) (fun i => s.size - i) 0 ⟨Nat.zero_le _, fun j _ h => absurd h (by omega)⟩ (Ent.keep rfl (by (try simp [subK, Kn.get, beq_eq]) <;> (repeat' with_reducible apply And.intro) <;> first | rfl | omega | (simp; done))) ?_
  rintro i ⟨hi, hok⟩ wf
  unfold ac_section_name_l0
  (repeat (first | (simp (disch := first | exact dis1 | fail) only [evA, Nat.reduceBEq, Nat.reduceAdd, Nat.reduceLeDiff, boxR, rboxR, allocR, fldR, binI, unR, pickR, mknilR, mkslR, buildSlR, buildR, extR, convI, eqB, evU, wrap64]) | (with_reducible intro _) | ((with_reducible apply And.intro); omega)))
  (refine condX_intro (fun h => ?_) (fun h => ?_)) <;> (try simp only [decide_eq_true_eq, decide_eq_false_iff_not, Bool.not_eq_true', Bool.not_eq_false', Bool.and_eq_true, Bool.or_eq_true, not_true_eq_false, not_false_eq_true] at h)
  · have hil : i < s.data.toList.length := by omega
    have hb8 := u8_lt s.data.toList[i]
    have hno := okTo_no hil
    have hsucc := okTo_succ hil hok
    (repeat (first | (simp (disch := first | exact dis1 | fail) only [evA, Nat.reduceBEq, Nat.reduceAdd, Nat.reduceLeDiff, boxR, rboxR, allocR, fldR, binI, unR, pickR, mknilR, mkslR, buildSlR, buildR, extR, convI, eqB, evU, wrap64, getD_map hil, cByte]) | (with_reducible intro _) | ((with_reducible apply And.intro); omega)))
    generalize (s.data.toList[i]).toNat = n at *
    rcases byte_class n hb8 with hc | hc | hc | hc | hc | hc | hc | hc | hc | hc | hc
    all_goals
      (repeat (first | (simp (disch := first | exact dis1 | fail) only [evA, Nat.reduceBEq, Nat.reduceAdd, Nat.reduceLeDiff, boxR, rboxR, allocR, fldR, binI, unR, pickR, mknilR, mkslR, buildSlR, buildR, extR, convI, eqB, evU, wrap64, dT, dF]) | (with_reducible intro _) | ((with_reducible apply And.intro); omega)))
      first
        | exact ⟨i + 1, ⟨by omega, hsucc (by unfold okByte; simp only [Bool.or_eq_true, decide_eq_true_eq]; omega)⟩, by omega, Ent.keep rfl (by (try simp [subK, Kn.get, beq_eq]) <;> (repeat' with_reducible apply And.intro) <;> first | rfl | omega | (simp; done))⟩
        | ((repeat (first | (simp (disch := first | exact dis1 | fail) only [evA, Nat.reduceBEq, Nat.reduceAdd, Nat.reduceLeDiff, boxR, rboxR, allocR, fldR, binI, unR, pickR, mknilR, mkslR, buildSlR, buildR, extR, convI, eqB, evU, wrap64, rs_section_name]) | (with_reducible intro _) | ((with_reducible apply And.intro); omega)))
           refine ⟨_, .bool _ _, ?_⟩
           unfold nameOk
           rw [hno (by unfold okByte; simp only [Bool.or_eq_false_iff, decide_eq_false_iff_not]; omega)]
           rfl)
  · have hall := okTo_end (s := s) (by rw [show s.size = i by omega]; exact hok)
    unfold ac_section_name_k1
    (repeat (first | (simp (disch := first | exact dis1 | fail) only [evA, Nat.reduceBEq, Nat.reduceAdd, Nat.reduceLeDiff, boxR, rboxR, allocR, fldR, binI, unR, pickR, mknilR, mkslR, buildSlR, buildR, extR, convI, eqB, evU, wrap64]) | (with_reducible intro _) | ((with_reducible apply And.intro); omega)))
    by_cases h1 : (1 : Int) ≤ s.size
    · (repeat (first | (simp (disch := first | exact dis1 | fail) only [evA, Nat.reduceBEq, Nat.reduceAdd, Nat.reduceLeDiff, boxR, rboxR, allocR, fldR, binI, unR, pickR, mknilR, mkslR, buildSlR, buildR, extR, convI, eqB, evU, wrap64, dT, rs_section_name]) | (with_reducible intro _) | ((with_reducible apply And.intro); omega)))
      refine ⟨_, .bool _ _, ?_⟩
      unfold nameOk
      rw [hall, decide_eq_true (show 1 ≤ s.size by omega)]
      simp only [Bool.true_and]
      congr 1
      exact decide_eq_decide.2 (by omega)
    · (repeat (first | (simp (disch := first | exact dis1 | fail) only [evA, Nat.reduceBEq, Nat.reduceAdd, Nat.reduceLeDiff, boxR, rboxR, allocR, fldR, binI, unR, pickR, mknilR, mkslR, buildSlR, buildR, extR, convI, eqB, evU, wrap64, dF, rs_section_name]) | (with_reducible intro _) | ((with_reducible apply And.intro); omega)))
      refine ⟨_, .bool _ _, ?_⟩
      unfold nameOk
      rw [decide_eq_false (show ¬ 1 ≤ s.size by omega)]
      simp

theorem symbol_name_ok (s : ByteArray) (hs : s.size ≤ big) : PureFn Try.prog f_symbol_name [.str s] (· = .bool (nameOk s)) := by
  refine fn_x cf_symbol_name rfl ?_
  unfold ac_symbol_name
  have hB : big = 9223372036854775807 := rfl
  have hl := str_len s
  (repeat (first | (simp (disch := first | exact dis1 | fail) only [evA, Nat.reduceBEq, Nat.reduceAdd, Nat.reduceLeDiff, boxR, rboxR, allocR, fldR, binI, unR, pickR, mknilR, mkslR, buildSlR, buildR, extR, convI, eqB, evU, wrap64]) | (with_reducible intro _) | ((with_reducible apply And.intro); omega)))
  refine loopX_intro (fun i : Nat => ([(0, .str s), (6, .own 0 0 0 0 s.size), (7, .int .i64 s.size), (8, .int .i64 i)], [(0, .row 1 (s.data.toList.map cByte) 0)])) 1 (fun i => i ≤ s.size ∧ okTo s i) (fun i => s.size - i) 0 ⟨Nat.zero_le _, fun j _ h => absurd h (by omega)⟩ (Ent.keep rfl (by (try simp [subK, Kn.get, beq_eq]) <;> (repeat' with_reducible apply And.intro) <;> first | rfl | omega | (simp; done))) ?_
  rintro i ⟨hi, hok⟩ wf
  unfold ac_symbol_name_l0
  (repeat (first | (simp (disch := first | exact dis1 | fail) only [evA, Nat.reduceBEq, Nat.reduceAdd, Nat.reduceLeDiff, boxR, rboxR, allocR, fldR, binI, unR, pickR, mknilR, mkslR, buildSlR, buildR, extR, convI, eqB, evU, wrap64]) | (with_reducible intro _) | ((with_reducible apply And.intro); omega)))
  (refine condX_intro (fun h => ?_) (fun h => ?_)) <;> (try simp only [decide_eq_true_eq, decide_eq_false_iff_not, Bool.not_eq_true', Bool.not_eq_false', Bool.and_eq_true, Bool.or_eq_true, not_true_eq_false, not_false_eq_true] at h)
  · have hil : i < s.data.toList.length := by omega
    have hb8 := u8_lt s.data.toList[i]
    have hno := okTo_no hil
    have hsucc := okTo_succ hil hok
    (repeat (first | (simp (disch := first | exact dis1 | fail) only [evA, Nat.reduceBEq, Nat.reduceAdd, Nat.reduceLeDiff, boxR, rboxR, allocR, fldR, binI, unR, pickR, mknilR, mkslR, buildSlR, buildR, extR, convI, eqB, evU, wrap64, getD_map hil, cByte]) | (with_reducible intro _) | ((with_reducible apply And.intro); omega)))
    generalize (s.data.toList[i]).toNat = n at *
    rcases byte_class n hb8 with hc | hc | hc | hc | hc | hc | hc | hc | hc | hc | hc
    all_goals
      (repeat (first | (simp (disch := first | exact dis1 | fail) only [evA, Nat.reduceBEq, Nat.reduceAdd, Nat.reduceLeDiff, boxR, rboxR, allocR, fldR, binI, unR, pickR, mknilR, mkslR, buildSlR, buildR, extR, convI, eqB, evU, wrap64, dT, dF]) | (with_reducible intro _) | ((with_reducible apply And.intro); omega)))
      first
        | exact ⟨i + 1, ⟨by omega, hsucc (by unfold okByte; simp only [Bool.or_eq_true, decide_eq_true_eq]; omega)⟩, by omega, Ent.keep rfl (by (try simp [subK, Kn.get, beq_eq]) <;> (repeat' with_reducible apply And.intro) <;> first | rfl | omega | (simp; done))⟩
        | ((repeat (first | (simp (disch := first | exact dis1 | fail) only [evA, Nat.reduceBEq, Nat.reduceAdd, Nat.reduceLeDiff, boxR, rboxR, allocR, fldR, binI, unR, pickR, mknilR, mkslR, buildSlR, buildR, extR, convI, eqB, evU, wrap64, rs_symbol_name]) | (with_reducible intro _) | ((with_reducible apply And.intro); omega)))
           refine ⟨_, .bool _ _, ?_⟩
           unfold nameOk
           rw [hno (by unfold okByte; simp only [Bool.or_eq_false_iff, decide_eq_false_iff_not]; omega)]
           rfl)
  · have hall := okTo_end (s := s) (by rw [show s.size = i by omega]; exact hok)
    unfold ac_symbol_name_k1
    (repeat (first | (simp (disch := first | exact dis1 | fail) only [evA, Nat.reduceBEq, Nat.reduceAdd, Nat.reduceLeDiff, boxR, rboxR, allocR, fldR, binI, unR, pickR, mknilR, mkslR, buildSlR, buildR, extR, convI, eqB, evU, wrap64]) | (with_reducible intro _) | ((with_reducible apply And.intro); omega)))
    by_cases h1 : (1 : Int) ≤ s.size
    · (repeat (first | (simp (disch := first | exact dis1 | fail) only [evA, Nat.reduceBEq, Nat.reduceAdd, Nat.reduceLeDiff, boxR, rboxR, allocR, fldR, binI, unR, pickR, mknilR, mkslR, buildSlR, buildR, extR, convI, eqB, evU, wrap64, dT, rs_symbol_name]) | (with_reducible intro _) | ((with_reducible apply And.intro); omega)))
      refine ⟨_, .bool _ _, ?_⟩
      unfold nameOk
      rw [hall, decide_eq_true (show 1 ≤ s.size by omega)]
      simp only [Bool.true_and]
      congr 1
      exact decide_eq_decide.2 (by omega)
    · (repeat (first | (simp (disch := first | exact dis1 | fail) only [evA, Nat.reduceBEq, Nat.reduceAdd, Nat.reduceLeDiff, boxR, rboxR, allocR, fldR, binI, unR, pickR, mknilR, mkslR, buildSlR, buildR, extR, convI, eqB, evU, wrap64, dF, rs_symbol_name]) | (with_reducible intro _) | ((with_reducible apply And.intro); omega)))
      refine ⟨_, .bool _ _, ?_⟩
      unfold nameOk
      rw [decide_eq_false (show ¬ 1 ≤ s.size by omega)]
      simp

end Go.Ab

namespace Go.Ab
open Go.RowKit Go.Proofs

theorem wrapU64 {n : Int} (h1 : 0 ≤ n) (h2 : n ≤ 18446744073709551615) : IntKind.u64.wrap n = n := IntWalk.u64_in n ⟨h1, h2⟩
theorem wrapU32 {n : Int} (h1 : 0 ≤ n) (h2 : n ≤ 4294967295) : IntKind.u32.wrap n = n := IntWalk.u32_in n ⟨h1, h2⟩
def Sec.ok (s : Sec) : Prop := s.data.length ≤ 1000000 ∧ s.name.size ≤ big

/-- Nothing is known of the data. -/
def Sec.okN (s : Sec) : Prop := s.name.size ≤ big
theorem Sec.okOf {s : Sec} (h : s.okN) (hd : s.data.length ≤ 1000000) : s.ok := ⟨hd, h⟩

theorem Sec.to_le (s : Sec) : s.to ≤ 4294967295 := by unfold Sec.to; omega

theorem section_space_ok (s : Sec) (hs : s.ok) : PureFn Try.prog f_section_space [.agg s.cells] (· = .agg [.int .u32 (s.addr.toNat : Int), .int .u32 (s.to : Int)]) := by
  refine fn_x cf_section_space rfl ?_
  unfold ac_section_space
  have hB : big = 9223372036854775807 := rfl
  have ha := u32_lt s.addr
  have hl := hs.1
  (repeat (first | (simp (disch := first | exact dis1 | fail) only [evA, Nat.reduceBEq, Nat.reduceAdd, Nat.reduceLeDiff, boxR, rboxR, allocR, fldR, binI, unR, pickR, mknilR, mkslR, buildSlR, buildR, extR, convI, eqB, evU, wrap64, Sec.cells, encB, wrapU64]) | (with_reducible intro _) | ((with_reducible apply And.intro); omega)))
  have e : (if (4294967295 : Int) < (s.addr.toNat : Int) + (s.data.length : Int) then (4294967295 : Int) else (s.addr.toNat : Int) + (s.data.length : Int)) = (s.to : Int) := by
    unfold Sec.to
    split <;> omega
  have ht := s.to_le
  (repeat (first | (simp (disch := first | exact dis1 | fail) only [evA, Nat.reduceBEq, Nat.reduceAdd, Nat.reduceLeDiff, boxR, rboxR, allocR, fldR, binI, unR, pickR, mknilR, mkslR, buildSlR, buildR, extR, convI, eqB, evU, wrap64, e, wrapU32, rs_section_space]) | (with_reducible intro _) | ((with_reducible apply And.intro); omega)))
  exact ⟨_, vw_flat rfl, rfl⟩

theorem section_stack_ok : PureFn Try.prog f_section_stack [] (· = .agg [.int .u32 978944, .int .u32 983040]) := by
  refine fn_x cf_section_stack rfl ?_
  unfold ac_section_stack
  (repeat (first | (simp (disch := first | exact dis1 | fail) only [evA, Nat.reduceBEq, Nat.reduceAdd, Nat.reduceLeDiff, boxR, rboxR, allocR, fldR, binI, unR, pickR, mknilR, mkslR, buildSlR, buildR, extR, convI, eqB, evU, wrap64, rs_section_stack]) | (with_reducible intro _) | ((with_reducible apply And.intro); omega)))
  exact ⟨_, vw_flat rfl, rfl⟩

theorem section_meet_ok (a b c d : Nat) : PureFn Try.prog f_section_meet [.agg [.int .u32 (a : Int), .int .u32 (b : Int)], .agg [.int .u32 (c : Int), .int .u32 (d : Int)]] (· = .bool (decide (max a c < min b d))) := by
  refine fn_x cf_section_meet rfl ?_
  unfold ac_section_meet
  (repeat (first | (simp (disch := first | exact dis1 | fail) only [evA, Nat.reduceBEq, Nat.reduceAdd, Nat.reduceLeDiff, boxR, rboxR, allocR, fldR, binI, unR, pickR, mknilR, mkslR, buildSlR, buildR, extR, convI, eqB, evU, wrap64, rs_section_meet]) | (with_reducible intro _) | ((with_reducible apply And.intro); omega)))
  refine ⟨_, .bool _ _, ?_⟩
  congr 1
  refine decide_eq_decide.2 ?_
  split <;> split <;> omega

end Go.Ab
