/-
  Part 1 of the proof: how the calls of this program run, over values instead of memory, and what each function computes.
-/
import Derived.Test.YtmlhipilbnjhiaaGreatProg
import Derived.Shelf.SlIterI.Nil
import Derived.Shelf.SortM.Plain
import Derived.Shelf.SortM.SortNone
set_option linter.unusedVariables false
set_option linter.unusedSimpArgs false
set_option linter.unnecessarySimpa false
set_option linter.unusedSectionVars false

namespace Go.Proofs
open Go.RowKit Go.Maps Go.Sort Go.Shelf

def layKeys_ren : Go.Shelf.Ren := ⟨fun | 7 => 169 | 10 => 183 | n => n, fun | 23 => 69 | 26 => 3 | 3 => 4 | 28 => 164 | 0 => 0 | 27 => 163 | 33 => 115 | 4 => 4 | n => n, fun | n => n⟩

set_option maxRecDepth 100000 in
theorem layKeys : Go.Proofs.SlLaysZI.n7 Tryz.prog layKeys_ren := {
  mixed := by kernel_rfl,
  f7 := ⟨Tryz.f169.name, by decide, Tryz.func169.trans (congrArg some (by kernel_rfl))⟩,
  f10 := ⟨Tryz.f183.name, by decide, Tryz.func183.trans (congrArg some (by kernel_rfl))⟩,
  t0 := Tryz.underlying0,
  a0 := Tryz.isAgg0,
  z0 := Tryz.sizeOf0,
  v0 := Tryz.zeroValue0,
  t4 := Tryz.underlying4,
  a4 := Tryz.isAgg4,
  z4 := Tryz.sizeOf4,
  v4 := Tryz.zeroValue4,
  t23 := Tryz.underlying69,
  a23 := Tryz.isAgg69,
  z23 := Tryz.sizeOf69,
  v23 := Tryz.zeroValue69,
  t26 := Tryz.underlying3,
  a26 := Tryz.isAgg3,
  z26 := Tryz.sizeOf3,
  v26 := Tryz.zeroValue3,
  t27 := Tryz.underlying163,
  a27 := Tryz.isAgg163,
  z27 := Tryz.sizeOf163,
  v27 := Tryz.zeroValue163,
  t28 := Tryz.underlying164,
  a28 := Tryz.isAgg164,
  z28 := Tryz.sizeOf164,
  v28 := Tryz.zeroValue164,
  t33 := Tryz.underlying115,
  a33 := Tryz.isAgg115,
  z33 := Tryz.sizeOf115,
  v33 := Tryz.zeroValue115 }

def laySorted_ren : Go.Shelf.Ren := ⟨fun | 6 => 168 | 8 => 182 | 9 => 57 | 11 => 186 | 13 => 106 | 12 => 105 | 23 => 151 | 24 => 152 | 14 => 142 | 15 => 143 | 16 => 144 | 17 => 145 | 18 => 146 | 19 => 147 | 20 => 148 | 21 => 149 | 22 => 150 | 25 => 173 | 26 => 174 | 27 => 175 | 28 => 176 | 29 => 177 | 30 => 178 | 31 => 185 | n => n, fun | 26 => 3 | 28 => 164 | 24 => 36 | 0 => 0 | 3 => 3 | 37 => 120 | 48 => 22 | 50 => 152 | 4 => 4 | 40 => 144 | 39 => 143 | 45 => 148 | 5 => 5 | 9 => 9 | 51 => 167 | 55 => 171 | 57 => 176 | 58 => 177 | 33 => 115 | n => n, fun | n => n⟩

set_option maxRecDepth 100000 in
theorem laySorted : Go.Proofs.SlLaysZI.n6 Tryz.prog laySorted_ren := {
  mixed := by kernel_rfl,
  f6 := ⟨Tryz.f168.name, by decide, Tryz.func168.trans (congrArg some (by kernel_rfl))⟩,
  f8 := ⟨Tryz.f182.name, by decide, Tryz.func182.trans (congrArg some (by kernel_rfl))⟩,
  f11 := ⟨Tryz.f186.name, by decide, Tryz.func186.trans (congrArg some (by kernel_rfl))⟩,
  t0 := Tryz.underlying0,
  a0 := Tryz.isAgg0,
  z0 := Tryz.sizeOf0,
  v0 := Tryz.zeroValue0,
  t24 := Tryz.underlying36,
  a24 := Tryz.isAgg36,
  z24 := Tryz.sizeOf36,
  v24 := Tryz.zeroValue36,
  t26 := Tryz.underlying3,
  a26 := Tryz.isAgg3,
  z26 := Tryz.sizeOf3,
  v26 := Tryz.zeroValue3,
  t28 := Tryz.underlying164,
  a28 := Tryz.isAgg164,
  z28 := Tryz.sizeOf164,
  v28 := Tryz.zeroValue164,
  i26 := by kernel_rfl }

def laySort_ren : Go.Shelf.Ren := ⟨fun | 5 => 57 | 8 => 106 | 7 => 105 | 19 => 151 | 20 => 152 | 10 => 142 | 11 => 143 | 12 => 144 | 13 => 145 | 14 => 146 | 15 => 147 | 16 => 148 | 17 => 149 | 18 => 150 | 30 => 173 | 31 => 174 | 32 => 175 | 33 => 176 | 34 => 177 | 35 => 178 | 40 => 185 | n => n, fun | 23 => 36 | 25 => 3 | 3 => 3 | 32 => 120 | 22 => 36 | 0 => 0 | 44 => 22 | 46 => 152 | 4 => 4 | 36 => 144 | 35 => 143 | 41 => 148 | 5 => 5 | 9 => 9 | 53 => 167 | 57 => 171 | 63 => 176 | 64 => 177 | n => n, fun | n => n⟩

set_option maxRecDepth 100000 in
theorem laySort : Go.Proofs.SlLaysM.n5 Tryz.prog laySort_ren := {
  mixed := by kernel_rfl,
  f5 := ⟨Tryz.f57.name, by decide, Tryz.func57.trans (congrArg some (by kernel_rfl))⟩,
  f7 := ⟨Tryz.f105.name, by decide, Tryz.func105.trans (congrArg some (by kernel_rfl))⟩,
  f8 := Tryz.func106.trans (congrArg some (by kernel_rfl)),
  f10 := ⟨Tryz.f142.name, by decide, Tryz.func142.trans (congrArg some (by kernel_rfl))⟩,
  f11 := ⟨Tryz.f143.name, by decide, Tryz.func143.trans (congrArg some (by kernel_rfl))⟩,
  f12 := ⟨Tryz.f144.name, by decide, Tryz.func144.trans (congrArg some (by kernel_rfl))⟩,
  f13 := ⟨Tryz.f145.name, by decide, Tryz.func145.trans (congrArg some (by kernel_rfl))⟩,
  f14 := ⟨Tryz.f146.name, by decide, Tryz.func146.trans (congrArg some (by kernel_rfl))⟩,
  f15 := ⟨Tryz.f147.name, by decide, Tryz.func147.trans (congrArg some (by kernel_rfl))⟩,
  f16 := ⟨Tryz.f148.name, by decide, Tryz.func148.trans (congrArg some (by kernel_rfl))⟩,
  f17 := ⟨Tryz.f149.name, by decide, Tryz.func149.trans (congrArg some (by kernel_rfl))⟩,
  f18 := ⟨Tryz.f150.name, by decide, Tryz.func150.trans (congrArg some (by kernel_rfl))⟩,
  f19 := Tryz.func151.trans (congrArg some (by kernel_rfl)),
  f20 := Tryz.func152.trans (congrArg some (by kernel_rfl)),
  f30 := ⟨Tryz.f173.name, by decide, Tryz.func173.trans (congrArg some (by kernel_rfl))⟩,
  f31 := Tryz.func174.trans (congrArg some (by kernel_rfl)),
  f32 := Tryz.func175.trans (congrArg some (by kernel_rfl)),
  f33 := ⟨Tryz.f176.name, by decide, Tryz.func176.trans (congrArg some (by kernel_rfl))⟩,
  f34 := ⟨Tryz.f177.name, by decide, Tryz.func177.trans (congrArg some (by kernel_rfl))⟩,
  f35 := ⟨Tryz.f178.name, by decide, Tryz.func178.trans (congrArg some (by kernel_rfl))⟩,
  f40 := ⟨Tryz.f185.name, by decide, Tryz.func185.trans (congrArg some (by kernel_rfl))⟩,
  t0 := Tryz.underlying0,
  a0 := Tryz.isAgg0,
  z0 := Tryz.sizeOf0,
  v0 := Tryz.zeroValue0,
  t3 := Tryz.underlying3,
  a3 := Tryz.isAgg3,
  z3 := Tryz.sizeOf3,
  v3 := Tryz.zeroValue3,
  t4 := Tryz.underlying4,
  a4 := Tryz.isAgg4,
  z4 := Tryz.sizeOf4,
  v4 := Tryz.zeroValue4,
  t5 := Tryz.underlying5,
  a5 := Tryz.isAgg5,
  z5 := Tryz.sizeOf5,
  v5 := Tryz.zeroValue5,
  t9 := Tryz.underlying9,
  a9 := Tryz.isAgg9,
  z9 := Tryz.sizeOf9,
  v9 := Tryz.zeroValue9,
  t22 := Tryz.underlying36,
  a22 := Tryz.isAgg36,
  z22 := Tryz.sizeOf36,
  v22 := Tryz.zeroValue36,
  t23 := Tryz.underlying36,
  a23 := Tryz.isAgg36,
  z23 := Tryz.sizeOf36,
  v23 := Tryz.zeroValue36,
  t25 := Tryz.underlying3,
  a25 := Tryz.isAgg3,
  z25 := Tryz.sizeOf3,
  v25 := Tryz.zeroValue3,
  t32 := Tryz.underlying120,
  a32 := Tryz.isAgg120,
  z32 := Tryz.sizeOf120,
  v32 := Tryz.zeroValue120,
  t35 := Tryz.underlying143,
  a35 := Tryz.isAgg143,
  z35 := Tryz.sizeOf143,
  v35 := Tryz.zeroValue143,
  t36 := Tryz.underlying144,
  a36 := Tryz.isAgg144,
  z36 := Tryz.sizeOf144,
  v36 := Tryz.zeroValue144,
  t41 := Tryz.underlying148,
  a41 := Tryz.isAgg148,
  z41 := Tryz.sizeOf148,
  v41 := Tryz.zeroValue148,
  t44 := Tryz.underlying22,
  a44 := Tryz.isAgg22,
  z44 := Tryz.sizeOf22,
  v44 := Tryz.zeroValue22,
  t46 := Tryz.underlying152,
  a46 := Tryz.isAgg152,
  z46 := Tryz.sizeOf152,
  v46 := Tryz.zeroValue152,
  t53 := Tryz.underlying167,
  a53 := Tryz.isAgg167,
  z53 := Tryz.sizeOf167,
  v53 := Tryz.zeroValue167,
  t57 := Tryz.underlying171,
  a57 := Tryz.isAgg171,
  z57 := Tryz.sizeOf171,
  v57 := Tryz.zeroValue171,
  t63 := Tryz.underlying176,
  a63 := Tryz.isAgg176,
  z63 := Tryz.sizeOf176,
  v63 := Tryz.zeroValue176,
  t64 := Tryz.underlying177,
  a64 := Tryz.isAgg177,
  z64 := Tryz.sizeOf177,
  v64 := Tryz.zeroValue177 }

theorem layEnterSort : ∀ args w, (callFunc 57 args).run Tryz.prog w = .ok (.enter 57 args) w := enters_of Tryz.func57 (by kernel_rfl) rfl
theorem layEnterKeys1 : ∀ args w, (callFunc 183 args).run Tryz.prog w = .ok (.enter 183 args) w := enters_of Tryz.func183 (by kernel_rfl) rfl

end Go.Proofs
