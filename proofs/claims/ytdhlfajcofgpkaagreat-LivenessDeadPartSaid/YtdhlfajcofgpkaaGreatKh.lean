/-
  Part 8 of the proof: how the calls of this program run, over values instead of memory, and what each function computes.
-/
import Derived.KernelRfl
import Derived.Test.YtdhlfajcofgpkaaGreatKg
set_option maxRecDepth 100000
set_option linter.unusedVariables false
set_option linter.unusedSimpArgs false
set_option linter.unnecessarySimpa false
set_option linter.unusedSectionVars false

namespace Go.Ab
open Go.RowKit Go.Proofs
def zcg : ACode := .seq (.seq (.region [ (oN 66 (.mov (.t 8))), (oN 67 (.fldaddr 1 1 (.t 2))), (oN 68 (.load false 1 (.t 67))), (oN 69 (.len (.t 68))), (oN 70 (.bin .lss (.t 66) (.t 69)))] [66, 67, 68, 69]) (.cond (.t 70) (.skip) (.exit 0))) (.seq (.block 1 (.seq (.draw ( .step (oN 73 (.fldaddr 1 1 (.t 5))) ( .step (oN 74 (.load false 1 (.t 73))) ( .step (oN 75 (.mov (.t 8))) ( .step (oN 76 (.idx 2 (.t 74) (.t 75))) ( .step (oN 77 (.fldaddr 0 1 (.t 76))) ( .step (oN 78 (.load false 1 (.t 77))) ( .step (oN 79 (.fldaddr 1 1 (.t 2))) ( .step (oN 80 (.load false 1 (.t 79))) ( .step (oN 81 (.mov (.t 8))) ( .step (oN 82 (.idx 2 (.t 80) (.t 81))) ( .step (oN 83 (.fldaddr 0 1 (.t 82))) ( .step (oN 84 (.load false 1 (.t 83))) ( .step (oN 85 (.bin .neq (.t 78) (.t 84))) ( .step (oN 86 (.mov (.t 85))) ( .step (oG 87 86 false (.fldaddr 1 1 (.t 5))) ( .step (oG 88 86 false (.load false 1 (.t 87))) ( .step (oG 89 86 false (.mov (.t 8))) ( .step (oG 90 86 false (.idx 2 (.t 88) (.t 89))) ( .step (oG 91 86 false (.fldaddr 1 1 (.t 90))) ( .step (oG 92 86 false (.load false 1 (.t 91))) ( .step (oG 93 86 false (.fldaddr 1 1 (.t 2))) ( .step (oG 94 86 false (.load false 1 (.t 93))) ( .step (oG 95 86 false (.mov (.t 8))) ( .step (oG 96 86 false (.idx 2 (.t 94) (.t 95))) ( .step (oG 97 86 false (.fldaddr 1 1 (.t 96))) ( .step (oG 98 86 false (.load false 1 (.t 97))) ( .step (oG 99 86 false (.callq zhA [(.t 92), (.t 98)])) ( .step (oG 100 86 false (.un .not (.t 99))) ( .step (oN 101 (.pick (.t 86) (.c (.bool true)) (.t 100))) ( .done)))))))))))))))))))))))))))))) [70, 73, 74, 75, 76, 77, 78, 79, 80, 81, 82, 83, 84, 85, 86, 87, 88, 89, 90, 91, 92, 93, 94, 95, 96, 97, 98, 99, 100]) (.cond (.t 101) (.seq (.region [ (oN 4 (.mov (.c (.bool false))))] [1, 2, 5, 8, 101]) (.ret)) (.skip)))) (.region [ (oN 71 (.mov (.t 8))), (oN 72 (.bin .add (.t 71) (.c (.int .i64 1)))), (oN 8 (.mov (.t 72)))] [4, 71, 72, 101]))
def zch : ACode := .seq (.region [ (oN 103 (.load true 2 (.t 5))), (oN 104 (.mov (.t 1))), (oN 105 (.call zbr [(.t 103), (.t 104)])), (oN 102 (.mov (.t 105))), (oN 106 (.ext 0 (.t 102))), (oN 107 (.ext 1 (.t 102))), (oN 108 (.ext 2 (.t 102))), (oN 9 (.alloc [.int .u32 0, .nilsl])), ⟨none, .store 2 (.t 9) (.t 106), none⟩, (oN 10 (.mov (.t 107))), (oN 11 (.mov (.t 108)))] [1, 2, 5, 8, 9, 102, 103, 104, 105, 106, 107, 108]) (.seq (.region [ (oN 109 (.mov (.t 10))), (oN 110 (.bin .eql (.t 109) (.c (.int .i64 0)))), (oN 111 (.mov (.t 110))), (oG 112 111 true (.mov (.t 11))), (oG 113 111 true (.bin .eql (.t 112) (.c (.int .i64 0)))), (oN 114 (.pick (.t 111) (.t 113) (.c (.bool false)))), (oN 115 (.mov (.t 114))), (oG 116 115 true (.call zbb [])), (oN 117 (.pick (.t 115) (.t 116) (.c (.bool false)))), (oN 4 (.mov (.t 117)))] [10, 11, 109, 110, 111, 112, 113, 114, 115, 116, 117]) (.ret))
def zc6 : ACode := .seq (.region [ (oN 2 (.rbox (.t 0))), (oN 4 (.mov (.c (.bool false))))] [0, 4]) (.seq (.seq (.region [ (oN 12 (.load true 2 (.t 2))), (oN 13 (.mov (.t 1))), (oN 14 (.call ziG [(.t 12), (.t 13)])), (oN 15 (.un .not (.t 14)))] [12, 13, 14]) (.cond (.t 15) (.seq (.region [ (oN 16 (.call zbb [])), (oN 4 (.mov (.t 16)))] [1, 2, 15, 16]) (.ret)) (.skip))) (.seq (.region [ (oN 18 (.load true 2 (.t 2))), (oN 19 (.mov (.t 1))), (oN 20 (.call zbr [(.t 18), (.t 19)])), (oN 17 (.mov (.t 20))), (oN 21 (.ext 0 (.t 17))), (oN 22 (.ext 1 (.t 17))), (oN 23 (.ext 2 (.t 17))), (oN 5 (.alloc [.int .u32 0, .nilsl])), ⟨none, .store 2 (.t 5) (.t 21), none⟩, (oN 6 (.mov (.t 22))), (oN 7 (.mov (.t 23)))] [4, 15, 17, 18, 19, 20, 21, 22, 23]) (.seq (.seq (.region [ (oN 24 (.mov (.t 7))), (oN 25 (.bin .neq (.t 24) (.c (.int .i64 0))))] [24]) (.cond (.t 25) (.seq (.region [ (oN 26 (.fldaddr 1 1 (.t 5))), (oN 27 (.load false 1 (.t 26))), (oN 28 (.len (.t 27))), (oN 29 (.bin .eql (.t 28) (.c (.int .i64 0)))), (oN 30 (.mov (.t 29))), (oG 31 30 true (.mov (.t 6))), (oG 32 30 true (.bin .eql (.t 31) (.c (.int .i64 0)))), (oN 33 (.pick (.t 30) (.t 32) (.c (.bool false)))), (oN 34 (.mov (.t 33))), (oG 35 34 true (.mov (.t 7))), (oG 36 34 true (.load true 2 (.t 2))), (oG 37 34 true (.call zdS [(.t 36)])), (oG 38 34 true (.bin .eql (.t 35) (.t 37))), (oN 39 (.pick (.t 34) (.t 38) (.c (.bool false)))), (oN 40 (.mov (.t 39))), (oG 41 40 true (.call zbb [])), (oN 42 (.pick (.t 40) (.t 41) (.c (.bool false)))), (oN 4 (.mov (.t 42)))] [1, 2, 5, 6, 7, 25, 26, 27, 28, 29, 30, 31, 32, 33, 34, 35, 36, 37, 38, 39, 40, 41, 42]) (.ret)) (.skip))) (.seq (.seq (.draw ( .step (oN 43 (.fldaddr 1 1 (.t 5))) ( .step (oN 44 (.load false 1 (.t 43))) ( .step (oN 45 (.len (.t 44))) ( .step (oN 46 (.fldaddr 1 1 (.t 2))) ( .step (oN 47 (.load false 1 (.t 46))) ( .step (oN 48 (.len (.t 47))) ( .step (oN 49 (.bin .neq (.t 45) (.t 48))) ( .step (oN 50 (.mov (.t 49))) ( .step (oG 51 50 false (.load true 2 (.t 2))) ( .step (oG 52 50 false (.callq zcz [(.t 51)])) ( .step (oG 53 50 false (.load true 2 (.t 5))) ( .step (oG 54 50 false (.callq zcz [(.t 53)])) ( .step (oG 55 50 false (.bin .sub (.t 52) (.t 54))) ( .step (oG 56 50 false (.mov (.t 6))) ( .step (oG 57 50 false (.bin .neq (.t 55) (.t 56))) ( .step (oN 58 (.pick (.t 50) (.c (.bool true)) (.t 57))) ( .step (oN 59 (.mov (.t 58))) ( .step (oG 60 59 false (.fldaddr 0 1 (.t 5))) ( .step (oG 61 59 false (.load false 1 (.t 60))) ( .step (oG 62 59 false (.fldaddr 0 1 (.t 2))) ( .step (oG 63 59 false (.load false 1 (.t 62))) ( .step (oG 64 59 false (.bin .neq (.t 61) (.t 63))) ( .step (oN 65 (.pick (.t 59) (.c (.bool true)) (.t 64))) ( .done)))))))))))))))))))))))) [4, 6, 7, 25, 43, 44, 45, 46, 47, 48, 49, 50, 51, 52, 53, 54, 55, 56, 57, 58, 59, 60, 61, 62, 63, 64]) (.cond (.t 65) (.seq (.region [ (oN 4 (.mov (.c (.bool false))))] [1, 2, 5, 65]) (.ret)) (.skip))) (.seq (.seq (.region [ (oN 8 (.mov (.c (.int .i64 0))))] [4, 65]) (.block 0 (.loop zcg))) (zch))))))
def zaS : List ARet := [.tmp 4]
theorem zgB : zah Tryz.prog zdh (qRo [2]) = some (zc6.strip, zaS, 118) := by kernel_rfl
def zhD : ACode := .seq (.seq (.region [ (oN 20 (.mov (.t 5))), (oN 21 (.fldaddr 1 1 (.t 2))), (oN 22 (.load false 1 (.t 21))), (oN 23 (.len (.t 22))), (oN 24 (.bin .lss (.t 20) (.t 23)))] [20, 21, 22, 23]) (.cond (.t 24) (.skip) (.exit 0))) (.seq (.block 1 (.seq (.region [ (oN 27 (.fldaddr 1 1 (.t 2))), (oN 28 (.load false 1 (.t 27))), (oN 29 (.mov (.t 5))), (oN 30 (.idx 2 (.t 28) (.t 29))), (oN 31 (.fldaddr 1 1 (.t 30))), (oN 32 (.load false 1 (.t 31))), (oN 33 (.len (.t 32))), (oN 34 (.bin .gtr (.t 33) (.c (.int .i64 12))))] [24, 27, 28, 29, 30, 31, 32, 33]) (.cond (.t 34) (.seq (.region [ (oN 4 (.mov (.c (.bool false))))] [2, 5, 34]) (.ret)) (.skip)))) (.region [ (oN 25 (.mov (.t 5))), (oN 26 (.bin .add (.t 25) (.c (.int .i64 1)))), (oN 5 (.mov (.t 26)))] [4, 25, 26, 34]))
def zhw : ACode := .seq (.region [ (oN 4 (.mov (.c (.bool true))))] [2, 5]) (.ret)
def zkh : ACode := .seq (.region [ (oN 2 (.rbox (.t 0))), (oN 4 (.mov (.c (.bool false))))] [0, 4]) (.seq (.seq (.region [ (oN 6 (.fldaddr 1 1 (.t 2))), (oN 7 (.load false 1 (.t 6))), (oN 8 (.len (.t 7))), (oN 9 (.bin .gtr (.t 8) (.c (.int .i64 12)))), (oN 10 (.mov (.t 9))), (oG 11 10 false (.mov (.t 1))), (oG 12 10 false (.len (.t 11))), (oG 13 10 false (.bin .gtr (.t 12) (.c (.int .i64 20)))), (oN 14 (.pick (.t 10) (.c (.bool true)) (.t 13))), (oN 15 (.mov (.t 14))), (oG 16 15 false (.load true 2 (.t 2))), (oG 17 15 false (.call zd2 [(.t 16), (.c (.int .i64 8))])), (oG 18 15 false (.un .not (.t 17))), (oN 19 (.pick (.t 15) (.c (.bool true)) (.t 18)))] [1, 6, 7, 8, 9, 10, 11, 12, 13, 14, 15, 16, 17, 18]) (.cond (.t 19) (.seq (.region [ (oN 4 (.mov (.c (.bool false))))] [2, 19]) (.ret)) (.skip))) (.seq (.seq (.region [ (oN 5 (.mov (.c (.int .i64 0))))] [4, 19]) (.block 0 (.loop zhD))) (zhw)))
def zcR : List ARet := [.tmp 4]
theorem zpa : zah Tryz.prog ziG (qRo [2]) = some (zkh.strip, zcR, 35) := by kernel_rfl
def zcN : ACode := .seq (.seq (.region [ (oN 56 (.mov (.t 17))), (oN 57 (.bin .geq (.t 56) (.c (.int .i64 0))))] [56]) (.cond (.t 57) (.skip) (.exit 4))) (.seq (.block 5 (.seq (.seq (.region [ (oN 60 (.mov (.t 15))), (oN 61 (.mov (.t 17))), (oN 62 (.idx 8 (.t 60) (.t 61))), (oN 63 (.load true 8 (.t 62))), (oN 64 (.mov (.t 14))), (oN 65 (.call zcq [(.t 63), (.t 64)]))] [57, 60, 61, 62, 63, 64]) (.cond (.t 65) (.seq (.region [ (oN 66 (.mov (.t 9))), (oN 67 (.bin .add (.t 66) (.c (.int .i64 1)))), (oN 9 (.mov (.t 67)))] [10, 65, 66, 67]) (.seq (.region [ (oN 10 (.mov (.c (.bool true))))] []) (.exit 5))) (.skip))) (.seq (.region [ (oN 68 (.mov (.t 14))), (oN 69 (.mov (.t 15))), (oN 70 (.mov (.t 17))), (oN 71 (.idx 8 (.t 69) (.t 70))), (oN 72 (.load true 8 (.t 71))), (oN 73 (.mov (.t 1))), (oN 74 (.call zc0 [(.t 68), (.t 72), (.t 73)]))] [65, 68, 69, 70, 71, 72, 73, 74]) (.region [ (oN 75 (.mov (.t 16))), (oN 76 (.mov (.t 15))), (oN 77 (.mov (.t 17))), (oN 78 (.idx 8 (.t 76) (.t 77))), (oN 79 (.load true 8 (.t 78))), (oN 80 (.buildSl 8 1 [.int .i64 0, .int .i64 0, .int .i64 0, .int .i64 0, .int .i64 0, .int .u32 0, .nilsl, .nilsl] [(0, (.t 79))])), (oN 81 (.append 8 96 (.t 75) (.t 80))), (oN 16 (.mov (.t 81)))] [75, 76, 77, 78, 79, 80, 81])))) (.region [ (oN 58 (.mov (.t 17))), (oN 59 (.bin .sub (.t 58) (.c (.int .i64 1)))), (oN 17 (.mov (.t 59)))] [58, 59]))
def zcP : ACode := .seq (.region [ (oN 82 (.mov (.t 16))), (oN 83 (.call zak [(.t 82)]))] [14, 15, 17, 82, 83]) (.region [ (oN 84 (.fldaddr 1 1 (.t 8))), (oN 85 (.load false 1 (.t 84))), (oN 86 (.mov (.t 13))), (oN 87 (.mov (.t 16))), (oN 88 (.idx 2 (.t 85) (.t 86))), (oN 89 (.fldaddr 1 1 (.t 88))), ⟨none, .store 1 (.t 89) (.t 87), none⟩] [13, 16, 84, 85, 86, 87, 88, 89])
def zcM : ACode := .region [ (oN 90 (.bin .add (.t 36) (.c (.int .i64 1)))), (oN 36 (.mov (.t 90)))] [90]
def zcO : ACode := .seq (.region [ (oN 37 (.bin .lss (.t 36) (.t 35)))] []) (.seq (.cond (.t 37) (.skip) (.exit 2)) (.seq (.block 3 (.seq (.region [ (oN 38 (.mov (.t 36))), (oN 13 (.mov (.t 38)))] [37, 38]) (.seq (.region [ (oN 39 (.xop .mkmap [])), (oN 14 (.mov (.t 39)))] [39]) (.seq (.region [ (oN 40 (.mov (.t 14))), (oN 41 (.mov (.t 12))), (oN 42 (.mov (.t 13))), (oN 43 (.idx 1 (.t 41) (.t 42))), (oN 44 (.load false 1 (.t 43))), (oN 45 (.call zc [(.t 44)])), (oN 46 (.call zt [(.t 40), (.t 45)]))] [40, 41, 42, 43, 44, 45, 46]) (.seq (.region [ (oN 47 (.fldaddr 1 1 (.t 8))), (oN 48 (.load false 1 (.t 47))), (oN 49 (.mov (.t 13))), (oN 50 (.idx 2 (.t 48) (.t 49))), (oN 51 (.fldaddr 1 1 (.t 50))), (oN 52 (.load false 1 (.t 51))), (oN 15 (.mov (.t 52)))] [47, 48, 49, 50, 51, 52]) (.seq (.region [ (oN 16 (.mknil 8))] []) (.seq (.seq (.region [ (oN 53 (.mov (.t 15))), (oN 54 (.len (.t 53))), (oN 55 (.bin .sub (.t 54) (.c (.int .i64 1)))), (oN 17 (.mov (.t 55)))] [53, 54, 55]) (.block 4 (.loop zcN))) (zcP)))))))) (zcM)))
def zcE : ACode := .seq (.seq (.region [ (oN 26 (.mov (.t 10)))] [10]) (.cond (.t 26) (.skip) (.exit 0))) (.block 1 (.seq (.region [ (oN 10 (.mov (.c (.bool false))))] [26]) (.seq (.region [ (oN 28 (.load true 2 (.t 8))), (oN 29 (.mov (.t 1))), (oN 30 (.call zbc [(.t 28), (.t 29)])), (oN 27 (.mov (.t 30))), (oN 31 (.ext 0 (.t 27))), (oN 32 (.ext 1 (.t 27))), (oN 11 (.mov (.t 31))), (oN 12 (.mov (.t 32)))] [11, 27, 28, 29, 30, 31, 32]) (.seq (.region [ (oN 33 (.fldaddr 1 1 (.t 8))), (oN 34 (.load false 1 (.t 33))), (oN 35 (.len (.t 34))), (oN 36 (.mov (.c (.int .i64 0))))] [33, 34]) (.block 2 (.loop zcO))))))
def zbC : ACode := .seq (.region [ (oN 91 (.load true 2 (.t 8))), (oN 92 (.mov (.t 9))), ⟨none, .store 2 (.t 4) (.t 91), none⟩, (oN 5 (.mov (.t 92))), (oN 6 (.mov (.c (.int .i64 0))))] [1, 8, 9, 10, 12, 35, 36, 91, 92]) (.ret)
def zgT : ACode := .seq (.region [ (oN 2 (.rbox (.t 0))), (oN 4 (.alloc [.int .u32 0, .nilsl])), (oN 5 (.mov (.c (.int .i64 0)))), (oN 6 (.mov (.c (.int .i64 0))))] [0, 5, 6]) (.seq (.seq (.region [ (oN 18 (.load true 2 (.t 2))), (oN 19 (.call zeH [(.t 18)])), (oN 7 (.mov (.t 19)))] [18, 19]) (.seq (.region [ (oN 20 (.mov (.t 7))), (oN 21 (.bin .neq (.t 20) (.c (.int .i64 0))))] [20]) (.cond (.t 21) (.seq (.region [ (oN 22 (.build [.int .u32 0, .nilsl] [])), (oN 23 (.mov (.t 7))), ⟨none, .store 2 (.t 4) (.t 22), none⟩, (oN 5 (.mov (.c (.int .i64 0)))), (oN 6 (.mov (.t 23)))] [1, 2, 7, 21, 22, 23]) (.ret)) (.skip)))) (.seq (.region [ (oN 24 (.load true 2 (.t 2))), (oN 25 (.call zdi [(.t 24)])), (oN 8 (.alloc [.int .u32 0, .nilsl])), ⟨none, .store 2 (.t 8) (.t 25), none⟩] [2, 5, 6, 7, 21, 24, 25]) (.seq (.region [ (oN 9 (.mov (.c (.int .i64 0))))] []) (.seq (.seq (.region [ (oN 10 (.mov (.c (.bool true))))] []) (.block 0 (.loop zcE))) (zbC)))))
def zd1 : List ARet := [.cell 4 true 2, .tmp 5, .tmp 6]
theorem zkC : zah Tryz.prog zbr (qRo [2]) = some (zgT.strip, zd1, 93) := by kernel_rfl
def zcG : ACode := .seq (.region [ (oN 26 (.bin .lss (.t 25) (.t 24)))] []) (.seq (.cond (.t 26) (.skip) (.exit 0)) (.seq (.block 1 (.seq (.region [ (oN 27 (.mov (.t 25))), (oN 10 (.mov (.t 27)))] [26, 27]) (.draw ( .step (oN 28 (.mov (.t 8))) ( .step (oN 29 (.mov (.t 10))) ( .step (oN 30 (.mov (.t 9))) ( .step (oN 31 (.mov (.t 10))) ( .step (oN 32 (.mov (.t 6))) ( .step (oN 33 (.mov (.t 10))) ( .step (oN 37 (.mov (.t 7))) ( .step (oN 38 (.mov (.t 10))) ( .alt (oN 34 (.idx 1 (.t 32) (.t 33))) ( .alt (oN 35 (.load false 1 (.t 34))) ( .alt (oN 36 (.call zc [(.t 35)])) ( .alt (oN 39 (.idx 1 (.t 37) (.t 38))) ( .step (oN 40 (.load false 1 (.t 39))) ( .alt (oN 41 (.call zc [(.t 40)])) ( .step (oN 42 (.idx 1 (.t 28) (.t 29))) ( .alt ⟨none, .store 1 (.t 42) (.t 36), none⟩ ( .step (oN 43 (.idx 1 (.t 30) (.t 31))) ( .alt ⟨none, .store 1 (.t 43) (.t 41), none⟩ ( .done) ( .stop))) ( .stop))) ( .stop))) ( .stop)) ( .alt (oN 39 (.idx 1 (.t 37) (.t 38))) ( .alt (oN 36 (.call zc [(.t 35)])) ( .step (oN 40 (.load false 1 (.t 39))) ( .alt (oN 41 (.call zc [(.t 40)])) ( .step (oN 42 (.idx 1 (.t 28) (.t 29))) ( .alt ⟨none, .store 1 (.t 42) (.t 36), none⟩ ( .step (oN 43 (.idx 1 (.t 30) (.t 31))) ( .alt ⟨none, .store 1 (.t 43) (.t 41), none⟩ ( .done) ( .stop))) ( .stop))) ( .stop))) ( .alt (oN 40 (.load false 1 (.t 39))) ( .alt (oN 36 (.call zc [(.t 35)])) ( .alt (oN 41 (.call zc [(.t 40)])) ( .step (oN 42 (.idx 1 (.t 28) (.t 29))) ( .alt ⟨none, .store 1 (.t 42) (.t 36), none⟩ ( .step (oN 43 (.idx 1 (.t 30) (.t 31))) ( .alt ⟨none, .store 1 (.t 43) (.t 41), none⟩ ( .done) ( .stop))) ( .stop))) ( .stop)) ( .stop)) ( .stop))) ( .stop))) ( .alt (oN 39 (.idx 1 (.t 37) (.t 38))) ( .alt (oN 35 (.load false 1 (.t 34))) ( .alt (oN 36 (.call zc [(.t 35)])) ( .step (oN 40 (.load false 1 (.t 39))) ( .alt (oN 41 (.call zc [(.t 40)])) ( .step (oN 42 (.idx 1 (.t 28) (.t 29))) ( .alt ⟨none, .store 1 (.t 42) (.t 36), none⟩ ( .step (oN 43 (.idx 1 (.t 30) (.t 31))) ( .alt ⟨none, .store 1 (.t 43) (.t 41), none⟩ ( .done) ( .stop))) ( .stop))) ( .stop))) ( .alt (oN 40 (.load false 1 (.t 39))) ( .alt (oN 36 (.call zc [(.t 35)])) ( .alt (oN 41 (.call zc [(.t 40)])) ( .step (oN 42 (.idx 1 (.t 28) (.t 29))) ( .alt ⟨none, .store 1 (.t 42) (.t 36), none⟩ ( .step (oN 43 (.idx 1 (.t 30) (.t 31))) ( .alt ⟨none, .store 1 (.t 43) (.t 41), none⟩ ( .done) ( .stop))) ( .stop))) ( .stop)) ( .stop)) ( .stop))) ( .alt (oN 40 (.load false 1 (.t 39))) ( .alt (oN 35 (.load false 1 (.t 34))) ( .alt (oN 36 (.call zc [(.t 35)])) ( .alt (oN 41 (.call zc [(.t 40)])) ( .step (oN 42 (.idx 1 (.t 28) (.t 29))) ( .alt ⟨none, .store 1 (.t 42) (.t 36), none⟩ ( .step (oN 43 (.idx 1 (.t 30) (.t 31))) ( .alt ⟨none, .store 1 (.t 43) (.t 41), none⟩ ( .done) ( .stop))) ( .stop))) ( .stop)) ( .stop)) ( .stop)) ( .stop))) ( .stop))) ( .alt (oN 39 (.idx 1 (.t 37) (.t 38))) ( .alt (oN 34 (.idx 1 (.t 32) (.t 33))) ( .alt (oN 35 (.load false 1 (.t 34))) ( .alt (oN 36 (.call zc [(.t 35)])) ( .step (oN 40 (.load false 1 (.t 39))) ( .alt (oN 41 (.call zc [(.t 40)])) ( .step (oN 42 (.idx 1 (.t 28) (.t 29))) ( .alt ⟨none, .store 1 (.t 42) (.t 36), none⟩ ( .step (oN 43 (.idx 1 (.t 30) (.t 31))) ( .alt ⟨none, .store 1 (.t 43) (.t 41), none⟩ ( .done) ( .stop))) ( .stop))) ( .stop))) ( .alt (oN 40 (.load false 1 (.t 39))) ( .alt (oN 36 (.call zc [(.t 35)])) ( .alt (oN 41 (.call zc [(.t 40)])) ( .step (oN 42 (.idx 1 (.t 28) (.t 29))) ( .alt ⟨none, .store 1 (.t 42) (.t 36), none⟩ ( .step (oN 43 (.idx 1 (.t 30) (.t 31))) ( .alt ⟨none, .store 1 (.t 43) (.t 41), none⟩ ( .done) ( .stop))) ( .stop))) ( .stop)) ( .stop)) ( .stop))) ( .alt (oN 40 (.load false 1 (.t 39))) ( .alt (oN 35 (.load false 1 (.t 34))) ( .alt (oN 36 (.call zc [(.t 35)])) ( .alt (oN 41 (.call zc [(.t 40)])) ( .step (oN 42 (.idx 1 (.t 28) (.t 29))) ( .alt ⟨none, .store 1 (.t 42) (.t 36), none⟩ ( .step (oN 43 (.idx 1 (.t 30) (.t 31))) ( .alt ⟨none, .store 1 (.t 43) (.t 41), none⟩ ( .done) ( .stop))) ( .stop))) ( .stop)) ( .stop)) ( .stop)) ( .stop))) ( .alt (oN 40 (.load false 1 (.t 39))) ( .alt (oN 34 (.idx 1 (.t 32) (.t 33))) ( .alt (oN 35 (.load false 1 (.t 34))) ( .alt (oN 36 (.call zc [(.t 35)])) ( .alt (oN 41 (.call zc [(.t 40)])) ( .step (oN 42 (.idx 1 (.t 28) (.t 29))) ( .alt ⟨none, .store 1 (.t 42) (.t 36), none⟩ ( .step (oN 43 (.idx 1 (.t 30) (.t 31))) ( .alt ⟨none, .store 1 (.t 43) (.t 41), none⟩ ( .done) ( .stop))) ( .stop))) ( .stop)) ( .stop)) ( .stop)) ( .stop)) ( .stop))) ( .stop))))))))))) [10, 28, 29, 30, 31, 32, 33, 34, 35, 36, 37, 38, 39, 40, 41, 42, 43]))) (.region [ (oN 44 (.bin .add (.t 25) (.c (.int .i64 1)))), (oN 25 (.mov (.t 44)))] [44])))
def zcD : ACode := .seq (.region [ (oN 45 (.mov (.t 8))), (oN 46 (.mov (.t 9))), (oN 4 (.mov (.t 45))), (oN 5 (.mov (.t 46)))] [6, 7, 8, 9, 24, 25, 45, 46]) (.ret)
def zgP : ACode := .seq (.region [ (oN 2 (.rbox (.t 0))), (oN 4 (.mknil 1)), (oN 5 (.mknil 1))] [0, 4, 5]) (.seq (.region [ (oN 12 (.load true 2 (.t 2))), (oN 13 (.mov (.t 1))), (oN 14 (.call zbc [(.t 12), (.t 13)])), (oN 11 (.mov (.t 14))), (oN 15 (.ext 0 (.t 11))), (oN 16 (.ext 1 (.t 11))), (oN 6 (.mov (.t 15))), (oN 7 (.mov (.t 16)))] [1, 2, 11, 12, 13, 14, 15, 16]) (.seq (.draw ( .step (oN 17 (.mov (.t 6))) ( .step (oN 18 (.len (.t 17))) ( .step (oN 20 (.mov (.t 7))) ( .step (oN 21 (.len (.t 20))) ( .alt (oN 19 (.mksl 1 24 [.nilsl] (.t 18) (.t 18))) ( .step (oN 8 (.mov (.t 19))) ( .alt (oN 22 (.mksl 1 24 [.nilsl] (.t 21) (.t 21))) ( .step (oN 9 (.mov (.t 22))) ( .done)) ( .stop))) ( .alt (oN 22 (.mksl 1 24 [.nilsl] (.t 21) (.t 21))) ( .alt (oN 19 (.mksl 1 24 [.nilsl] (.t 18) (.t 18))) ( .step (oN 8 (.mov (.t 19))) ( .step (oN 9 (.mov (.t 22))) ( .done))) ( .stop)) ( .stop))))))) [17, 18, 19, 20, 21, 22]) (.seq (.seq (.region [ (oN 23 (.mov (.t 6))), (oN 24 (.len (.t 23))), (oN 25 (.mov (.c (.int .i64 0))))] [23]) (.block 0 (.loop zcG))) (zcD))))
def zdW : List ARet := [.tmp 4, .tmp 5]
theorem zkE : zah Tryz.prog ze3 (qRoL [2] [(6, [0, 1, 2, 3, 4, 5, 6, 7, 9, 10, 11, 12, 14, 15, 16, 17, 18, 19, 20, 21, 22, 23, 24, 25, 26, 27, 28, 29, 30, 31, 32, 33, 34, 35, 36, 37, 38, 39, 40, 41, 42, 43, 44, 45, 46, 47, 48, 49, 50, 51, 52, 53, 54, 55, 56, 57, 58, 59, 60, 61, 62, 63, 64, 65, 66, 67, 68, 69, 70, 71, 72, 73, 74, 75, 76, 77, 78, 79, 80, 81, 82, 83, 84, 85, 86, 87, 88, 89, 90, 91, 92, 93, 94, 95, 96, 97, 98, 99, 100, 101, 102, 103, 104, 105, 106, 107, 108, 109, 110, 111, 112, 113, 114, 115, 116, 117, 118, 119, 120, 121, 122, 123, 124, 125, 126, 127, 128, 129, 130, 131, 132, 133, 134, 135, 136, 137, 138, 139, 140, 141, 142, 143, 144, 145, 146, 147, 148, 149])]) = some (zgP.strip, zdW, 47) := by kernel_rfl
def zfx : ACode := .seq (.seq (.region [ (oN 11 (.mov (.t 5))), (oN 12 (.mov (.t 0))), (oN 13 (.len (.t 12))), (oN 14 (.bin .lss (.t 11) (.t 13)))] [11, 12, 13]) (.cond (.t 14) (.skip) (.exit 0))) (.seq (.block 1 (.seq (.draw ( .step (oN 17 (.mov (.t 0))) ( .step (oN 18 (.mov (.t 5))) ( .step (oN 19 (.idx 1 (.t 17) (.t 18))) ( .step (oN 20 (.load false 1 (.t 19))) ( .step (oN 21 (.mov (.t 1))) ( .step (oN 22 (.mov (.t 5))) ( .step (oN 23 (.idx 1 (.t 21) (.t 22))) ( .step (oN 24 (.load false 1 (.t 23))) ( .step (oN 25 (.bin .neq (.t 20) (.t 24))) ( .done)))))))))) [14, 17, 18, 19, 20, 21, 22, 23, 24]) (.cond (.t 25) (.seq (.region [ (oN 4 (.mov (.c (.bool false))))] [0, 1, 5, 25]) (.ret)) (.skip)))) (.region [ (oN 15 (.mov (.t 5))), (oN 16 (.bin .add (.t 15) (.c (.int .i64 1)))), (oN 5 (.mov (.t 16)))] [4, 15, 16, 25]))
def zfk : ACode := .seq (.region [ (oN 4 (.mov (.c (.bool true))))] [0, 1, 5]) (.ret)
def zg6 : ACode := .seq (.region [ (oN 4 (.mov (.c (.bool false))))] [4]) (.seq (.seq (.region [ (oN 6 (.mov (.t 0))), (oN 7 (.len (.t 6))), (oN 8 (.mov (.t 1))), (oN 9 (.len (.t 8))), (oN 10 (.bin .neq (.t 7) (.t 9)))] [6, 7, 8, 9]) (.cond (.t 10) (.seq (.region [ (oN 4 (.mov (.c (.bool false))))] [0, 1, 10]) (.ret)) (.skip))) (.seq (.seq (.region [ (oN 5 (.mov (.c (.int .i64 0))))] [4, 10]) (.block 0 (.loop zfx))) (zfk)))
def zc4 : List ARet := [.tmp 4]
theorem zl3 : zah Tryz.prog zdF (qRo []) = some (zg6.strip, zc4, 26) := by kernel_rfl
def zeK : ACode := .seq (.region [ (oN 11 (.bin .lss (.t 10) (.t 9)))] []) (.seq (.cond (.t 11) (.skip) (.exit 0)) (.seq (.block 1 (.seq (.region [ (oN 12 (.idx 5 (.t 8) (.t 10))), (oN 13 (.load true 5 (.t 12))), (oN 5 (.alloc [.int .i64 0, .int .u32 0, .int .i64 0, .int .i64 0, .nilsl])), ⟨none, .store 5 (.t 5) (.t 13), none⟩] [11, 12, 13]) (.region [ (oN 14 (.mov (.t 3))), (oN 15 (.load true 5 (.t 5))), (oN 16 (.call zk1 [(.t 15)])), (oN 17 (.call zt [(.t 14), (.t 16)]))] [5, 14, 15, 16, 17]))) (.region [ (oN 18 (.bin .add (.t 10) (.c (.int .i64 1)))), (oN 10 (.mov (.t 18)))] [18])))
def zeC : ACode := .seq (.region [ (oN 19 (.mov (.t 3))), (oN 20 (.call zc [(.t 19)])), (oN 2 (.mov (.t 20)))] [3, 8, 9, 10, 19, 20]) (.ret)
def zgL : ACode := .seq (.region [ (oN 1 (.rbox (.t 0))), (oN 2 (.mknil 1))] [0, 2]) (.seq (.region [ (oN 6 (.xop .mkmap [])), (oN 3 (.mov (.t 6)))] [6]) (.seq (.seq (.region [ (oN 7 (.fldaddr 6 1 (.t 1))), (oN 8 (.load false 1 (.t 7))), (oN 9 (.len (.t 8))), (oN 10 (.mov (.c (.int .i64 0))))] [1, 7]) (.block 0 (.loop zeK))) (zeC)))
def zgE : List ARet := [.tmp 2]
theorem zkF : zah Tryz.prog zc9 (qRo [1]) = some (zgL.strip, zgE, 21) := by kernel_rfl
def zgF : ACode := .seq (.region [ (oN 1 (.rbox (.t 0))), (oN 2 (.mknil 1))] [0, 2]) (.seq (.seq (.region [ (oN 3 (.fldaddr 0 1 (.t 1))), (oN 4 (.load false 1 (.t 3))), (oN 5 (.bin .eql (.t 4) (.c (.int .i64 1)))), (oN 6 (.mov (.t 5))), (oG 7 6 false (.fldaddr 0 1 (.t 1))), (oG 8 6 false (.load false 1 (.t 7))), (oG 9 6 false (.bin .eql (.t 8) (.c (.int .i64 3)))), (oN 10 (.pick (.t 6) (.c (.bool true)) (.t 9)))] [3, 4, 5, 6, 7, 8, 9]) (.cond (.t 10) (.seq (.region [ (oN 11 (.fldaddr 1 1 (.t 1))), (oN 12 (.load false 1 (.t 11))), (oN 13 (.buildSl 1 1 [.int .i64 0] [(0, (.t 12))])), (oN 2 (.mov (.t 13)))] [1, 10, 11, 12, 13]) (.ret)) (.skip))) (.seq (.region [ (oN 2 (.mknil 1))] [1, 10]) (.ret)))
def zcB : List ARet := [.tmp 2]
theorem zkn : zah Tryz.prog zc5 (qRo [1]) = some (zgF.strip, zcB, 14) := by kernel_rfl
def zem : ACode := .seq (.seq (.region [ (oN 5 (.mov (.t 4))), (oN 6 (.fldaddr 1 1 (.t 1))), (oN 7 (.load false 1 (.t 6))), (oN 8 (.len (.t 7))), (oN 9 (.bin .lss (.t 5) (.t 8))), (oN 10 (.mov (.t 9))), (oG 11 10 true (.mov (.t 3))), (oG 12 10 true (.bin .lss (.t 11) (.c (.int .i64 1000)))), (oN 13 (.pick (.t 10) (.t 12) (.c (.bool false))))] [5, 6, 7, 8, 9, 10, 11, 12]) (.cond (.t 13) (.skip) (.exit 0))) (.seq (.block 1 (.region [ (oN 16 (.mov (.t 3))), (oN 17 (.fldaddr 1 1 (.t 1))), (oN 18 (.load false 1 (.t 17))), (oN 19 (.mov (.t 4))), (oN 20 (.idx 2 (.t 18) (.t 19))), (oN 21 (.fldaddr 1 1 (.t 20))), (oN 22 (.load false 1 (.t 21))), (oN 23 (.len (.t 22))), (oN 24 (.xop .min [(.t 23), (.c (.int .i64 1000))])), (oN 25 (.bin .add (.t 16) (.t 24))), (oN 3 (.mov (.t 25)))] [13, 16, 17, 18, 19, 20, 21, 22, 23, 24, 25])) (.region [ (oN 14 (.mov (.t 4))), (oN 15 (.bin .add (.t 14) (.c (.int .i64 1)))), (oN 4 (.mov (.t 15)))] [14, 15]))
def zeg : ACode := .seq (.region [ (oN 26 (.mov (.t 3))), (oN 27 (.xop .min [(.t 26), (.c (.int .i64 1000))])), (oN 2 (.mov (.t 27)))] [1, 3, 4, 26, 27]) (.ret)
def zfO : ACode := .seq (.region [ (oN 1 (.rbox (.t 0))), (oN 2 (.mov (.c (.int .i64 0))))] [0, 2]) (.seq (.region [ (oN 3 (.mov (.c (.int .i64 0))))] []) (.seq (.seq (.region [ (oN 4 (.mov (.c (.int .i64 0))))] []) (.block 0 (.loop zem))) (zeg)))
def zfZ : List ARet := [.tmp 2]
theorem zjI : zah Tryz.prog zcz (qRo [1]) = some (zfO.strip, zfZ, 28) := by kernel_rfl
def zgY : ACode := .seq (.seq (.region [ (oN 7 (.mov (.t 6))), (oN 8 (.mov (.t 1))), (oN 9 (.len (.t 8))), (oN 10 (.bin .lss (.t 7) (.t 9)))] [7, 8, 9]) (.cond (.t 10) (.skip) (.exit 0))) (.seq (.block 1 (.seq (.draw ( .step (oN 13 (.mov (.t 5))) ( .step (oN 14 (.mov (.t 0))) ( .step (oN 15 (.len (.t 14))) ( .step (oN 16 (.bin .lss (.t 13) (.t 15))) ( .step (oN 17 (.mov (.t 16))) ( .step (oG 18 17 true (.mov (.t 0))) ( .step (oG 19 17 true (.mov (.t 5))) ( .step (oG 20 17 true (.idx 8 (.t 18) (.t 19))) ( .step (oG 21 17 true (.load true 8 (.t 20))) ( .step (oG 22 17 true (.mov (.t 1))) ( .step (oG 23 17 true (.mov (.t 6))) ( .step (oG 24 17 true (.idx 8 (.t 22) (.t 23))) ( .step (oG 25 17 true (.load true 8 (.t 24))) ( .step (oG 26 17 true (.callq zfL [(.t 21), (.t 25)])) ( .step (oN 27 (.pick (.t 17) (.t 26) (.c (.bool false)))) ( .done)))))))))))))))) [10, 13, 14, 15, 16, 17, 18, 19, 20, 21, 22, 23, 24, 25, 26]) (.cond (.t 27) (.region [ (oN 28 (.mov (.t 5))), (oN 29 (.bin .add (.t 28) (.c (.int .i64 1)))), (oN 5 (.mov (.t 29)))] [27, 28, 29]) (.seq (.region [ (oN 30 (.mov (.t 1))), (oN 31 (.mov (.t 6))), (oN 32 (.idx 8 (.t 30) (.t 31))), (oN 33 (.fldaddr 0 1 (.t 32))), (oN 34 (.load false 1 (.t 33))), (oN 35 (.bin .neq (.t 34) (.c (.int .i64 1))))] [27, 30, 31, 32, 33, 34]) (.cond (.t 35) (.seq (.region [ (oN 4 (.mov (.c (.bool false))))] [0, 1, 5, 6, 35]) (.ret)) (.skip)))))) (.region [ (oN 11 (.mov (.t 6))), (oN 12 (.bin .add (.t 11) (.c (.int .i64 1)))), (oN 6 (.mov (.t 12)))] [4, 11, 12, 35]))
def zdV : ACode := .seq (.region [ (oN 36 (.mov (.t 5))), (oN 37 (.mov (.t 0))), (oN 38 (.len (.t 37))), (oN 39 (.bin .eql (.t 36) (.t 38))), (oN 4 (.mov (.t 39)))] [0, 1, 5, 6, 36, 37, 38, 39]) (.ret)
def zi6 : ACode := .seq (.region [ (oN 4 (.mov (.c (.bool false))))] [4]) (.seq (.region [ (oN 5 (.mov (.c (.int .i64 0))))] []) (.seq (.seq (.region [ (oN 6 (.mov (.c (.int .i64 0))))] []) (.block 0 (.loop zgY))) (zdV)))
def zcV : List ARet := [.tmp 4]
theorem znO : zah Tryz.prog zhA (qRo []) = some (zi6.strip, zcV, 40) := by kernel_rfl
def zek : ACode := .seq (.seq (.region [ (oN 59 (.mov (.t 9))), (oN 60 (.fldaddr 6 1 (.t 8))), (oN 61 (.load false 1 (.t 60))), (oN 62 (.len (.t 61))), (oN 63 (.bin .lss (.t 59) (.t 62)))] [59, 60, 61, 62]) (.cond (.t 63) (.skip) (.exit 4))) (.seq (.block 5 (.seq (.region [ (oN 66 (.fldaddr 6 1 (.t 8))), (oN 67 (.load false 1 (.t 66))), (oN 68 (.mov (.t 9))), (oN 69 (.idx 5 (.t 67) (.t 68))), (oN 70 (.load true 5 (.t 69))), (oN 71 (.mov (.t 1))), (oN 72 (.mov (.t 5))), (oN 73 (.call zgg [(.t 70), (.t 71), (.t 72)])), (oN 5 (.mov (.t 73)))] [63, 66, 67, 68, 69, 70, 71, 72, 73]) (.seq (.region [ (oN 74 (.mov (.t 5))), (oN 75 (.bin .lss (.t 74) (.c (.int .i64 0))))] [74]) (.cond (.t 75) (.seq (.region [ (oN 4 (.mov (.c (.bool false))))] [1, 2, 5, 6, 7, 8, 9, 75]) (.ret)) (.skip))))) (.region [ (oN 64 (.mov (.t 9))), (oN 65 (.bin .add (.t 64) (.c (.int .i64 1)))), (oN 9 (.mov (.t 65)))] [4, 64, 65, 75]))
def zec : ACode := .region [ (oN 38 (.mov (.t 7))), (oN 39 (.bin .add (.t 38) (.c (.int .i64 1)))), (oN 7 (.mov (.t 39)))] [8, 9, 38, 39]
def zef : ACode := .seq (.seq (.region [ (oN 29 (.mov (.t 7))), (oN 30 (.fldaddr 1 1 (.t 2))), (oN 31 (.load false 1 (.t 30))), (oN 32 (.mov (.t 6))), (oN 33 (.idx 2 (.t 31) (.t 32))), (oN 34 (.fldaddr 1 1 (.t 33))), (oN 35 (.load false 1 (.t 34))), (oN 36 (.len (.t 35))), (oN 37 (.bin .lss (.t 29) (.t 36)))] [29, 30, 31, 32, 33, 34, 35, 36]) (.cond (.t 37) (.skip) (.exit 2))) (.seq (.block 3 (.seq (.region [ (oN 40 (.fldaddr 1 1 (.t 2))), (oN 41 (.load false 1 (.t 40))), (oN 42 (.mov (.t 6))), (oN 43 (.idx 2 (.t 41) (.t 42))), (oN 44 (.fldaddr 1 1 (.t 43))), (oN 45 (.load false 1 (.t 44))), (oN 46 (.mov (.t 7))), (oN 47 (.idx 8 (.t 45) (.t 46))), (oN 48 (.load true 8 (.t 47))), (oN 8 (.alloc [.int .i64 0, .int .i64 0, .int .i64 0, .int .i64 0, .int .i64 0, .int .u32 0, .nilsl, .nilsl])), ⟨none, .store 8 (.t 8) (.t 48), none⟩] [37, 40, 41, 42, 43, 44, 45, 46, 47, 48]) (.seq (.seq (.region [ (oN 49 (.fldaddr 6 1 (.t 8))), (oN 50 (.load false 1 (.t 49))), (oN 51 (.len (.t 50))), (oN 52 (.bin .gtr (.t 51) (.c (.int .i64 4)))), (oN 53 (.mov (.t 52))), (oG 54 53 false (.fldaddr 7 1 (.t 8))), (oG 55 53 false (.load false 1 (.t 54))), (oG 56 53 false (.len (.t 55))), (oG 57 53 false (.bin .gtr (.t 56) (.c (.int .i64 100)))), (oN 58 (.pick (.t 53) (.c (.bool true)) (.t 57)))] [49, 50, 51, 52, 53, 54, 55, 56, 57]) (.cond (.t 58) (.seq (.region [ (oN 4 (.mov (.c (.bool false))))] [1, 2, 5, 6, 7, 8, 58]) (.ret)) (.skip))) (.seq (.region [ (oN 9 (.mov (.c (.int .i64 0))))] [4, 58]) (.block 4 (.loop zek)))))) (zec))
def zd7 : ACode := .region [ (oN 19 (.mov (.t 6))), (oN 20 (.bin .add (.t 19) (.c (.int .i64 1)))), (oN 6 (.mov (.t 20)))] [7, 19, 20]
def zeb : ACode := .seq (.seq (.region [ (oN 14 (.mov (.t 6))), (oN 15 (.fldaddr 1 1 (.t 2))), (oN 16 (.load false 1 (.t 15))), (oN 17 (.len (.t 16))), (oN 18 (.bin .lss (.t 14) (.t 17)))] [14, 15, 16, 17]) (.cond (.t 18) (.skip) (.exit 0))) (.seq (.block 1 (.seq (.seq (.region [ (oN 21 (.fldaddr 1 1 (.t 2))), (oN 22 (.load false 1 (.t 21))), (oN 23 (.mov (.t 6))), (oN 24 (.idx 2 (.t 22) (.t 23))), (oN 25 (.fldaddr 1 1 (.t 24))), (oN 26 (.load false 1 (.t 25))), (oN 27 (.len (.t 26))), (oN 28 (.bin .gtr (.t 27) (.c (.int .i64 1100))))] [18, 21, 22, 23, 24, 25, 26, 27]) (.cond (.t 28) (.seq (.region [ (oN 4 (.mov (.c (.bool false))))] [1, 2, 5, 6, 28]) (.ret)) (.skip))) (.seq (.region [ (oN 7 (.mov (.c (.int .i64 0))))] [4, 28]) (.block 2 (.loop zef))))) (zd7))
def zed : ACode := .seq (.region [ (oN 4 (.mov (.c (.bool true))))] [1, 2, 5, 6]) (.ret)
def zf4 : ACode := .seq (.region [ (oN 2 (.rbox (.t 0))), (oN 4 (.mov (.c (.bool false))))] [0, 4]) (.seq (.region [ (oN 5 (.mov (.c (.int .i64 20000))))] []) (.seq (.seq (.region [ (oN 10 (.fldaddr 1 1 (.t 2))), (oN 11 (.load false 1 (.t 10))), (oN 12 (.len (.t 11))), (oN 13 (.bin .gtr (.t 12) (.c (.int .i64 300))))] [10, 11, 12]) (.cond (.t 13) (.seq (.region [ (oN 4 (.mov (.c (.bool false))))] [1, 2, 5, 13]) (.ret)) (.skip))) (.seq (.seq (.region [ (oN 6 (.mov (.c (.int .i64 0))))] [4, 13]) (.block 0 (.loop zeb))) (zed))))
def zau : List ARet := [.tmp 4]
theorem zjB : zah Tryz.prog zd2 (qRo [2]) = some (zf4.strip, zau, 76) := by kernel_rfl
def zbW : ACode := .seq (.region [ (oN 36 (.bin .lss (.t 35) (.t 34)))] []) (.seq (.cond (.t 36) (.skip) (.exit 4)) (.seq (.block 5 (.seq (.region [ (oN 37 (.idx 5 (.t 33) (.t 35))), (oN 38 (.load true 5 (.t 37))), (oN 11 (.alloc [.int .i64 0, .int .u32 0, .int .i64 0, .int .i64 0, .nilsl])), ⟨none, .store 5 (.t 11) (.t 38), none⟩] [36, 37, 38]) (.region [ (oN 39 (.mov (.t 9))), (oN 40 (.load true 5 (.t 11))), (oN 41 (.call zcC [(.t 40)])), (oN 42 (.buildSl 5 1 [.int .i64 0, .int .u32 0, .int .i64 0, .int .i64 0, .nilsl] [(0, (.t 41))])), (oN 43 (.append 5 56 (.t 39) (.t 42))), (oN 9 (.mov (.t 43)))] [11, 39, 40, 41, 42, 43]))) (.region [ (oN 44 (.bin .add (.t 35) (.c (.int .i64 1)))), (oN 35 (.mov (.t 44)))] [44])))
def zbV : ACode := .seq (.region [ (oN 45 (.mov (.t 9))), (oN 46 (.fldaddr 7 1 (.t 8))), (oN 47 (.load false 1 (.t 46))), (oN 48 (.call za3 [(.t 47)])), (oN 49 (.fldaddr 6 1 (.t 8))), ⟨none, .store 1 (.t 49) (.t 45), none⟩, (oN 50 (.fldaddr 7 1 (.t 8))), ⟨none, .store 1 (.t 50) (.t 48), none⟩] [9, 33, 34, 35, 45, 46, 47, 48, 49, 50]) (.region [ (oN 51 (.fldaddr 1 1 (.t 6))), (oN 52 (.load false 1 (.t 51))), (oN 53 (.load true 8 (.t 8))), (oN 54 (.buildSl 8 1 [.int .i64 0, .int .i64 0, .int .i64 0, .int .i64 0, .int .i64 0, .int .u32 0, .nilsl, .nilsl] [(0, (.t 53))])), (oN 55 (.append 8 96 (.t 52) (.t 54))), (oN 56 (.fldaddr 1 1 (.t 6))), ⟨none, .store 1 (.t 56) (.t 55), none⟩] [8, 51, 52, 53, 54, 55, 56])
def zbX : ACode := .region [ (oN 57 (.bin .add (.t 28) (.c (.int .i64 1)))), (oN 28 (.mov (.t 57)))] [57]
def zbT : ACode := .seq (.region [ (oN 29 (.bin .lss (.t 28) (.t 27)))] []) (.seq (.cond (.t 29) (.skip) (.exit 2)) (.seq (.block 3 (.seq (.region [ (oN 30 (.idx 8 (.t 26) (.t 28))), (oN 31 (.load true 8 (.t 30))), (oN 8 (.alloc [.int .i64 0, .int .i64 0, .int .i64 0, .int .i64 0, .int .i64 0, .int .u32 0, .nilsl, .nilsl])), ⟨none, .store 8 (.t 8) (.t 31), none⟩] [29, 30, 31]) (.seq (.region [ (oN 9 (.mknil 5))] []) (.seq (.seq (.region [ (oN 32 (.fldaddr 6 1 (.t 8))), (oN 33 (.load false 1 (.t 32))), (oN 34 (.len (.t 33))), (oN 35 (.mov (.c (.int .i64 0))))] [32]) (.block 4 (.loop zbW))) (zbV))))) (zbX)))
def zb2 : ACode := .region [ (oN 58 (.fldaddr 1 1 (.t 3))), (oN 59 (.load false 1 (.t 58))), (oN 60 (.load true 2 (.t 6))), (oN 61 (.buildSl 2 1 [.int .u32 0, .nilsl] [(0, (.t 60))])), (oN 62 (.append 2 32 (.t 59) (.t 61))), (oN 63 (.fldaddr 1 1 (.t 3))), ⟨none, .store 1 (.t 63) (.t 62), none⟩] [6, 26, 27, 28, 58, 59, 60, 61, 62, 63]
def zb8 : ACode := .region [ (oN 64 (.bin .add (.t 18) (.c (.int .i64 1)))), (oN 18 (.mov (.t 64)))] [64]
def zdQ : ACode := .seq (.region [ (oN 19 (.bin .lss (.t 18) (.t 17)))] []) (.seq (.cond (.t 19) (.skip) (.exit 0)) (.seq (.block 1 (.seq (.region [ (oN 20 (.idx 2 (.t 16) (.t 18))), (oN 21 (.load true 2 (.t 20))), (oN 5 (.alloc [.int .u32 0, .nilsl])), ⟨none, .store 2 (.t 5) (.t 21), none⟩] [19, 20, 21]) (.seq (.region [ (oN 22 (.fldaddr 0 1 (.t 5))), (oN 23 (.load false 1 (.t 22))), (oN 24 (.build [.int .u32 0, .nilsl] [(0, 1, (.t 23))])), (oN 6 (.alloc [.int .u32 0, .nilsl])), ⟨none, .store 2 (.t 6) (.t 24), none⟩] [22, 23, 24]) (.seq (.seq (.region [ (oN 25 (.fldaddr 1 1 (.t 5))), (oN 26 (.load false 1 (.t 25))), (oN 27 (.len (.t 26))), (oN 28 (.mov (.c (.int .i64 0))))] [5, 25]) (.block 2 (.loop zbT))) (zb2))))) (zb8)))
def zdO : ACode := .seq (.region [ (oN 65 (.load true 2 (.t 3))), ⟨none, .store 2 (.t 2) (.t 65), none⟩] [3, 16, 17, 18, 65]) (.ret)
def zfp : ACode := .seq (.region [ (oN 1 (.rbox (.t 0))), (oN 2 (.alloc [.int .u32 0, .nilsl]))] [0]) (.seq (.region [ (oN 12 (.fldaddr 0 1 (.t 1))), (oN 13 (.load false 1 (.t 12))), (oN 14 (.build [.int .u32 0, .nilsl] [(0, 1, (.t 13))])), (oN 3 (.alloc [.int .u32 0, .nilsl])), ⟨none, .store 2 (.t 3) (.t 14), none⟩] [12, 13, 14]) (.seq (.seq (.region [ (oN 15 (.fldaddr 1 1 (.t 1))), (oN 16 (.load false 1 (.t 15))), (oN 17 (.len (.t 16))), (oN 18 (.mov (.c (.int .i64 0))))] [1, 15]) (.block 0 (.loop zdQ))) (zdO)))
def zfd : List ARet := [.cell 2 true 2]
theorem zji : zah Tryz.prog zdi (qRo [1]) = some (zfp.strip, zfd, 66) := by kernel_rfl
def zbm : ACode := .seq (.region [ (oN 28 (.bin .lss (.t 27) (.t 26)))] []) (.seq (.cond (.t 28) (.skip) (.exit 0)) (.seq (.block 1 (.seq (.region [ (oN 29 (.mov (.t 27))), (oN 8 (.mov (.t 29)))] [28, 29]) (.region [ (oN 30 (.mov (.t 6))), (oN 31 (.mov (.t 8))), (oN 32 (.mov (.t 7))), (oN 33 (.mov (.t 8))), (oN 34 (.xop .mkmap [])), (oN 35 (.xop .mkmap [])), (oN 36 (.idx 1 (.t 30) (.t 31))), ⟨none, .store 1 (.t 36) (.t 34), none⟩, (oN 37 (.idx 1 (.t 32) (.t 33))), ⟨none, .store 1 (.t 37) (.t 35), none⟩] [8, 30, 31, 32, 33, 34, 35, 36, 37]))) (.region [ (oN 38 (.bin .add (.t 27) (.c (.int .i64 1)))), (oN 27 (.mov (.t 38)))] [38])))
def zbk : ACode := .seq (.region [ (oN 65 (.bin .lss (.t 64) (.t 63)))] []) (.seq (.cond (.t 65) (.skip) (.exit 6)) (.seq (.block 7 (.seq (.region [ (oN 66 (.idx 1 (.t 62) (.t 64))), (oN 67 (.load false 1 (.t 66))), (oN 13 (.mov (.t 67)))] [65, 66, 67]) (.seq (.region [ (oN 68 (.mov (.t 13))), (oN 69 (.bin .geq (.t 68) (.c (.int .i64 0)))), (oN 70 (.mov (.t 69))), (oG 71 70 true (.mov (.t 13))), (oG 72 70 true (.fldaddr 1 1 (.t 2))), (oG 73 70 true (.load false 1 (.t 72))), (oG 74 70 true (.len (.t 73))), (oG 75 70 true (.bin .lss (.t 71) (.t 74))), (oN 76 (.pick (.t 70) (.t 75) (.c (.bool false))))] [68, 69, 70, 71, 72, 73, 74, 75]) (.cond (.t 76) (.draw ( .step (oN 77 (.mov (.t 7))) ( .step (oN 78 (.mov (.t 10))) ( .step (oN 81 (.mov (.t 6))) ( .step (oN 82 (.mov (.t 13))) ( .alt (oN 79 (.idx 1 (.t 77) (.t 78))) ( .alt (oN 80 (.load false 1 (.t 79))) ( .alt (oN 83 (.idx 1 (.t 81) (.t 82))) ( .alt (oN 84 (.load false 1 (.t 83))) ( .alt (oN 85 (.call zc [(.t 84)])) ( .alt (oN 86 (.call zt [(.t 80), (.t 85)])) ( .done) ( .stop)) ( .stop)) ( .stop)) ( .stop)) ( .alt (oN 83 (.idx 1 (.t 81) (.t 82))) ( .alt (oN 80 (.load false 1 (.t 79))) ( .alt (oN 84 (.load false 1 (.t 83))) ( .alt (oN 85 (.call zc [(.t 84)])) ( .alt (oN 86 (.call zt [(.t 80), (.t 85)])) ( .done) ( .stop)) ( .stop)) ( .stop)) ( .alt (oN 84 (.load false 1 (.t 83))) ( .alt (oN 80 (.load false 1 (.t 79))) ( .alt (oN 85 (.call zc [(.t 84)])) ( .alt (oN 86 (.call zt [(.t 80), (.t 85)])) ( .done) ( .stop)) ( .stop)) ( .alt (oN 85 (.call zc [(.t 84)])) ( .step (oN 80 (.load false 1 (.t 79))) ( .alt (oN 86 (.call zt [(.t 80), (.t 85)])) ( .done) ( .stop))) ( .stop))) ( .stop))) ( .stop))) ( .alt (oN 83 (.idx 1 (.t 81) (.t 82))) ( .alt (oN 79 (.idx 1 (.t 77) (.t 78))) ( .alt (oN 80 (.load false 1 (.t 79))) ( .alt (oN 84 (.load false 1 (.t 83))) ( .alt (oN 85 (.call zc [(.t 84)])) ( .alt (oN 86 (.call zt [(.t 80), (.t 85)])) ( .done) ( .stop)) ( .stop)) ( .stop)) ( .alt (oN 84 (.load false 1 (.t 83))) ( .alt (oN 80 (.load false 1 (.t 79))) ( .alt (oN 85 (.call zc [(.t 84)])) ( .alt (oN 86 (.call zt [(.t 80), (.t 85)])) ( .done) ( .stop)) ( .stop)) ( .alt (oN 85 (.call zc [(.t 84)])) ( .step (oN 80 (.load false 1 (.t 79))) ( .alt (oN 86 (.call zt [(.t 80), (.t 85)])) ( .done) ( .stop))) ( .stop))) ( .stop))) ( .alt (oN 84 (.load false 1 (.t 83))) ( .alt (oN 79 (.idx 1 (.t 77) (.t 78))) ( .alt (oN 80 (.load false 1 (.t 79))) ( .alt (oN 85 (.call zc [(.t 84)])) ( .alt (oN 86 (.call zt [(.t 80), (.t 85)])) ( .done) ( .stop)) ( .stop)) ( .alt (oN 85 (.call zc [(.t 84)])) ( .step (oN 80 (.load false 1 (.t 79))) ( .alt (oN 86 (.call zt [(.t 80), (.t 85)])) ( .done) ( .stop))) ( .stop))) ( .alt (oN 85 (.call zc [(.t 84)])) ( .alt (oN 79 (.idx 1 (.t 77) (.t 78))) ( .step (oN 80 (.load false 1 (.t 79))) ( .alt (oN 86 (.call zt [(.t 80), (.t 85)])) ( .done) ( .stop))) ( .stop)) ( .stop))) ( .stop))) ( .stop))))))) [13, 76, 77, 78, 79, 80, 81, 82, 83, 84, 85, 86]) (.skip))))) (.region [ (oN 87 (.bin .add (.t 64) (.c (.int .i64 1)))), (oN 64 (.mov (.t 87)))] [13, 76, 87])))
def zbg : ACode := .seq (.seq (.region [ (oN 99 (.mov (.t 15))), (oN 100 (.bin .geq (.t 99) (.c (.int .i64 0))))] [99]) (.cond (.t 100) (.skip) (.exit 8))) (.seq (.block 9 (.region [ (oN 103 (.mov (.t 14))), (oN 104 (.mov (.t 11))), (oN 105 (.mov (.t 15))), (oN 106 (.idx 8 (.t 104) (.t 105))), (oN 107 (.load true 8 (.t 106))), (oN 108 (.mov (.t 1))), (oN 109 (.call zc0 [(.t 103), (.t 107), (.t 108)]))] [100, 103, 104, 105, 106, 107, 108, 109])) (.region [ (oN 101 (.mov (.t 15))), (oN 102 (.bin .sub (.t 101) (.c (.int .i64 1)))), (oN 15 (.mov (.t 102)))] [101, 102]))
def zab : ACode := .seq (.draw ( .step (oN 110 (.mov (.t 6))) ( .step (oN 111 (.mov (.t 10))) ( .step (oN 114 (.mov (.t 14))) ( .alt (oN 112 (.idx 1 (.t 110) (.t 111))) ( .alt (oN 113 (.load false 1 (.t 112))) ( .alt (oN 115 (.call zc [(.t 114)])) ( .alt (oN 116 (.call zt [(.t 113), (.t 115)])) ( .done) ( .stop)) ( .stop)) ( .alt (oN 115 (.call zc [(.t 114)])) ( .step (oN 113 (.load false 1 (.t 112))) ( .alt (oN 116 (.call zt [(.t 113), (.t 115)])) ( .done) ( .stop))) ( .stop))) ( .alt (oN 115 (.call zc [(.t 114)])) ( .alt (oN 112 (.idx 1 (.t 110) (.t 111))) ( .step (oN 113 (.load false 1 (.t 112))) ( .alt (oN 116 (.call zt [(.t 113), (.t 115)])) ( .done) ( .stop))) ( .stop)) ( .stop)))))) [11, 14, 15, 110, 111, 112, 113, 114, 115]) (.cond (.t 116) (.region [ (oN 9 (.mov (.c (.bool true))))] [116]) (.skip))
def z8 : ACode := .seq (.region [ (oN 88 (.xop .mkmap [])), (oN 14 (.mov (.t 88)))] [62, 63, 64, 88]) (.seq (.region [ (oN 89 (.mov (.t 14))), (oN 90 (.mov (.t 7))), (oN 91 (.mov (.t 10))), (oN 92 (.idx 1 (.t 90) (.t 91))), (oN 93 (.load false 1 (.t 92))), (oN 94 (.call zc [(.t 93)])), (oN 95 (.call zt [(.t 89), (.t 94)]))] [89, 90, 91, 92, 93, 94, 95]) (.seq (.seq (.region [ (oN 96 (.mov (.t 11))), (oN 97 (.len (.t 96))), (oN 98 (.bin .sub (.t 97) (.c (.int .i64 1)))), (oN 15 (.mov (.t 98)))] [96, 97, 98]) (.block 8 (.loop zbg))) (zab)))
def zP : ACode := .region [ (oN 46 (.mov (.t 10))), (oN 47 (.bin .sub (.t 46) (.c (.int .i64 1)))), (oN 10 (.mov (.t 47)))] [46, 47, 116]
def zbj : ACode := .seq (.seq (.region [ (oN 44 (.mov (.t 10))), (oN 45 (.bin .geq (.t 44) (.c (.int .i64 0))))] [44]) (.cond (.t 45) (.skip) (.exit 4))) (.seq (.block 5 (.seq (.region [ (oN 48 (.fldaddr 1 1 (.t 2))), (oN 49 (.load false 1 (.t 48))), (oN 50 (.mov (.t 10))), (oN 51 (.idx 2 (.t 49) (.t 50))), (oN 52 (.fldaddr 1 1 (.t 51))), (oN 53 (.load false 1 (.t 52))), (oN 11 (.mov (.t 53)))] [45, 48, 49, 50, 51, 52, 53]) (.seq (.seq (.region [ (oN 54 (.mov (.t 11))), (oN 55 (.len (.t 54))), (oN 56 (.bin .eql (.t 55) (.c (.int .i64 0))))] [54, 55]) (.cond (.t 56) (.exit 5) (.skip))) (.seq (.seq (.region [ (oN 57 (.fldaddr 1 1 (.t 2))), (oN 58 (.load false 1 (.t 57))), (oN 59 (.mov (.t 10))), (oN 60 (.idx 2 (.t 58) (.t 59))), (oN 61 (.load true 2 (.t 60))), (oN 62 (.call zc2 [(.t 61)])), (oN 63 (.len (.t 62))), (oN 64 (.mov (.c (.int .i64 0))))] [56, 57, 58, 59, 60, 61]) (.block 6 (.loop zbk))) (z8))))) (zP))
def zbe : ACode := .seq (.seq (.region [ (oN 39 (.mov (.t 9)))] [9]) (.cond (.t 39) (.skip) (.exit 2))) (.block 3 (.seq (.region [ (oN 9 (.mov (.c (.bool false))))] [39]) (.seq (.region [ (oN 40 (.fldaddr 1 1 (.t 2))), (oN 41 (.load false 1 (.t 40))), (oN 42 (.len (.t 41))), (oN 43 (.bin .sub (.t 42) (.c (.int .i64 1)))), (oN 10 (.mov (.t 43)))] [40, 41, 42, 43]) (.block 4 (.loop zbj)))))
def zac : ACode := .seq (.region [ (oN 117 (.mov (.t 6))), (oN 118 (.mov (.t 7))), (oN 4 (.mov (.t 117))), (oN 5 (.mov (.t 118)))] [1, 2, 6, 7, 9, 10, 117, 118]) (.ret)
def zbl : ACode := .seq (.seq (.region [ (oN 9 (.mov (.c (.bool true))))] [26, 27]) (.block 2 (.loop zbe))) (zac)
def zdf : ACode := .seq (.region [ (oN 2 (.rbox (.t 0))), (oN 4 (.mknil 1)), (oN 5 (.mknil 1))] [0, 4, 5]) (.seq (.draw ( .step (oN 16 (.fldaddr 1 1 (.t 2))) ( .step (oN 20 (.fldaddr 1 1 (.t 2))) ( .alt (oN 17 (.load false 1 (.t 16))) ( .step (oN 18 (.len (.t 17))) ( .alt (oN 19 (.mksl 1 8 [.nilmp] (.t 18) (.t 18))) ( .step (oN 6 (.mov (.t 19))) ( .alt (oN 21 (.load false 1 (.t 20))) ( .step (oN 22 (.len (.t 21))) ( .alt (oN 23 (.mksl 1 8 [.nilmp] (.t 22) (.t 22))) ( .step (oN 7 (.mov (.t 23))) ( .done)) ( .stop))) ( .stop))) ( .alt (oN 21 (.load false 1 (.t 20))) ( .step (oN 22 (.len (.t 21))) ( .alt (oN 19 (.mksl 1 8 [.nilmp] (.t 18) (.t 18))) ( .step (oN 6 (.mov (.t 19))) ( .alt (oN 23 (.mksl 1 8 [.nilmp] (.t 22) (.t 22))) ( .step (oN 7 (.mov (.t 23))) ( .done)) ( .stop))) ( .alt (oN 23 (.mksl 1 8 [.nilmp] (.t 22) (.t 22))) ( .alt (oN 19 (.mksl 1 8 [.nilmp] (.t 18) (.t 18))) ( .step (oN 6 (.mov (.t 19))) ( .step (oN 7 (.mov (.t 23))) ( .done))) ( .stop)) ( .stop)))) ( .stop)))) ( .alt (oN 21 (.load false 1 (.t 20))) ( .step (oN 22 (.len (.t 21))) ( .alt (oN 17 (.load false 1 (.t 16))) ( .step (oN 18 (.len (.t 17))) ( .alt (oN 19 (.mksl 1 8 [.nilmp] (.t 18) (.t 18))) ( .step (oN 6 (.mov (.t 19))) ( .alt (oN 23 (.mksl 1 8 [.nilmp] (.t 22) (.t 22))) ( .step (oN 7 (.mov (.t 23))) ( .done)) ( .stop))) ( .alt (oN 23 (.mksl 1 8 [.nilmp] (.t 22) (.t 22))) ( .alt (oN 19 (.mksl 1 8 [.nilmp] (.t 18) (.t 18))) ( .step (oN 6 (.mov (.t 19))) ( .step (oN 7 (.mov (.t 23))) ( .done))) ( .stop)) ( .stop)))) ( .alt (oN 23 (.mksl 1 8 [.nilmp] (.t 22) (.t 22))) ( .alt (oN 17 (.load false 1 (.t 16))) ( .step (oN 18 (.len (.t 17))) ( .alt (oN 19 (.mksl 1 8 [.nilmp] (.t 18) (.t 18))) ( .step (oN 6 (.mov (.t 19))) ( .step (oN 7 (.mov (.t 23))) ( .done))) ( .stop))) ( .stop)) ( .stop)))) ( .stop))))) [16, 17, 18, 19, 20, 21, 22, 23]) (.seq (.seq (.region [ (oN 24 (.fldaddr 1 1 (.t 2))), (oN 25 (.load false 1 (.t 24))), (oN 26 (.len (.t 25))), (oN 27 (.mov (.c (.int .i64 0))))] [24, 25]) (.block 0 (.loop zbm))) (zbl)))
def zde : List ARet := [.tmp 4, .tmp 5]
theorem zg2 : zah Tryz.prog zbc (qRoL [2] [(19, [0, 1, 2, 3, 4, 5, 6, 7, 10, 11, 12, 13, 14, 15, 16, 17, 18, 19, 20, 21, 22, 23, 24, 25, 26, 27, 28, 29, 30, 31, 32, 33, 34, 35, 36, 37, 38, 39, 40, 41, 42, 43, 44, 45, 46, 47, 48, 49, 50, 51, 52, 53, 54, 55, 56, 57, 58, 59, 60, 61, 62, 63, 64, 65, 66, 67, 68, 69, 70, 71, 72, 73, 74, 75, 76, 77, 78, 79, 80, 81, 82, 83, 84, 85, 86, 87, 88, 89, 90, 91, 92, 93, 94, 95, 96, 97, 98, 99, 100, 101, 102, 103, 104, 105, 106, 107, 108, 109, 110, 111, 112, 113, 114, 115, 116, 117, 118, 119, 120, 121, 122, 123, 124, 125, 126, 127, 128, 129, 130, 131, 132, 133, 134, 135, 136, 137, 138, 139, 140, 141, 142, 143, 144, 145, 146, 147, 148, 149]), (27, [0, 1, 2, 3, 4, 7, 8, 9, 10, 11, 12, 13, 14, 15, 16, 17, 18, 19, 20, 21, 22, 23, 24, 25, 26, 27, 28, 29, 30, 31, 32, 33, 34, 35, 36, 37, 38, 39, 40, 41, 42, 43, 44, 45, 46, 47, 48, 49, 50, 51, 52, 53, 54, 55, 56, 57, 58, 59, 60, 61, 62, 63, 64, 65, 66, 67, 68, 69, 70, 71, 72, 73, 74, 75, 76, 77, 78, 79, 80, 81, 82, 83, 84, 85, 86, 87, 88, 89, 90, 91, 92, 93, 94, 95, 96, 97, 98, 99, 100, 101, 102, 103, 104, 105, 106, 107, 108, 109, 110, 111, 112, 113, 114, 115, 116, 117, 118, 119, 120, 121, 122, 123, 124, 125, 126, 127, 128, 129, 130, 131, 132, 133, 134, 135, 136, 137, 138, 139, 140, 141, 142, 143, 144, 145, 146, 147, 148, 149])]) = some (zdf.strip, zde, 119) := by kernel_rfl
def zbJ : ACode := .seq (.region [ (oN 11 (.bin .lss (.t 10) (.t 9)))] []) (.seq (.cond (.t 11) (.skip) (.exit 0)) (.seq (.block 1 (.seq (.region [ (oN 12 (.idx 1 (.t 8) (.t 10))), (oN 13 (.load false 1 (.t 12))), (oN 7 (.mov (.t 13)))] [11, 12, 13]) (.seq (.region [ (oN 14 (.mov (.t 0))), (oN 15 (.mov (.t 7))), (oN 16 (.xop (.mlook (some .i64) false (.bool false)) [(.t 14), (.t 15)])), (oN 17 (.un .not (.t 16)))] [14, 15, 16]) (.cond (.t 17) (.seq (.region [ (oN 18 (.mov (.t 0))), (oN 19 (.mov (.t 7))), ⟨none, .xop (.mset (some .i64)) [(.t 18), (.t 19), (.c (.bool true))], none⟩] [5, 7, 17, 18, 19]) (.region [ (oN 5 (.mov (.c (.bool true))))] [])) (.skip))))) (.region [ (oN 20 (.bin .add (.t 10) (.c (.int .i64 1)))), (oN 10 (.mov (.t 20)))] [7, 17, 20])))
def zbI : ACode := .seq (.region [ (oN 21 (.mov (.t 5))), (oN 4 (.mov (.t 21)))] [0, 5, 8, 9, 10, 21]) (.ret)
def zcL : ACode := .seq (.region [ (oN 4 (.mov (.c (.bool false))))] [4]) (.seq (.region [ (oN 5 (.mov (.c (.bool false))))] []) (.seq (.seq (.region [ (oN 8 (.mov (.t 1))), (oN 9 (.len (.t 8))), (oN 10 (.mov (.c (.int .i64 0))))] [1]) (.block 0 (.loop zbJ))) (zbI)))
def zcQ : List ARet := [.tmp 4]
theorem zeU : zah Tryz.prog zt (qRo []) = some (zcL.strip, zcQ, 22) := by kernel_rfl
def zbz : ACode := .seq (.region [ (oN 7 (.mnext (.t 6))), (oN 8 (.ext 0 (.t 7)))] [7]) (.seq (.cond (.t 8) (.skip) (.exit 0)) (.block 1 (.seq (.region [ (oN 9 (.xop .ment [(.t 6)])), (oN 10 (.ext 0 (.t 9))), (oN 4 (.mov (.t 10)))] [8, 9, 10]) (.region [ (oN 11 (.mov (.t 3))), (oN 12 (.mov (.t 4))), (oN 13 (.buildSl 1 1 [.int .i64 0] [(0, (.t 12))])), (oN 14 (.append 1 8 (.t 11) (.t 13))), (oN 3 (.mov (.t 14)))] [4, 11, 12, 13, 14]))))
def zbA : ACode := .seq (.region [ (oN 15 (.mov (.t 3))), (oN 16 (.call zbZ [(.t 15)]))] [6, 15, 16]) (.seq (.region [ (oN 17 (.mov (.t 3))), (oN 2 (.mov (.t 17)))] [3, 17]) (.ret))
def zcj : ACode := .seq (.region [ (oN 2 (.mknil 1))] [2]) (.seq (.region [ (oN 3 (.mknil 1))] []) (.seq (.seq (.region [ (oN 5 (.mov (.t 0))), (oN 6 (.xop .mrange [(.t 5)]))] [0, 5]) (.block 0 (.loop zbz))) (zbA)))
def zco : List ARet := [.tmp 2]
theorem zel : zah Tryz.prog zc (qRo []) = some (zcj.strip, zco, 18) := by kernel_rfl
def zdN : ACode := .seq (.region [ (oN 2 (.rbox (.t 0))), (oN 4 (.mov (.c (.bool false))))] [0, 4]) (.seq (.region [ (oN 5 (.fldaddr 0 1 (.t 2))), (oN 6 (.load false 1 (.t 5))), (oN 7 (.bin .eql (.t 6) (.c (.int .i64 1)))), (oN 8 (.mov (.t 7))), (oG 9 8 true (.mov (.t 1))), (oG 10 8 true (.fldaddr 1 1 (.t 2))), (oG 11 8 true (.load false 1 (.t 10))), (oG 12 8 true (.xop (.mlook (some .i64) false (.bool false)) [(.t 9), (.t 11)])), (oG 13 8 true (.un .not (.t 12))), (oN 14 (.pick (.t 8) (.t 13) (.c (.bool false)))), (oN 15 (.mov (.t 14))), (oG 16 15 true (.fldaddr 6 1 (.t 2))), (oG 17 15 true (.load false 1 (.t 16))), (oG 18 15 true (.call zE [(.t 17), (.c (.fn (.func za9) []))])), (oG 19 15 true (.un .not (.t 18))), (oN 20 (.pick (.t 15) (.t 19) (.c (.bool false)))), (oN 4 (.mov (.t 20)))] [1, 2, 5, 6, 7, 8, 9, 10, 11, 12, 13, 14, 15, 16, 17, 18, 19, 20]) (.ret))
def zba : List ARet := [.tmp 4]
theorem zhx : zah Tryz.prog zcq (qRo [2]) = some (zdN.strip, zba, 21) := by kernel_rfl
def zeW : ACode := .seq (.region [ (oN 12 (.bin .lss (.t 11) (.t 10)))] []) (.seq (.cond (.t 12) (.skip) (.exit 0)) (.seq (.block 1 (.seq (.region [ (oN 13 (.idx 1 (.t 9) (.t 11))), (oN 14 (.load false 1 (.t 13))), (oN 7 (.mov (.t 14)))] [12, 13, 14]) (.region [ (oN 15 (.mov (.t 0))), (oN 16 (.mov (.t 7))), ⟨none, .xop (.mdel (some .i64)) [(.t 15), (.t 16)], none⟩] [7, 15, 16]))) (.region [ (oN 17 (.bin .add (.t 11) (.c (.int .i64 1)))), (oN 11 (.mov (.t 17)))] [17])))
def zeM : ACode := .seq (.region [ (oN 18 (.mov (.t 0))), (oN 19 (.load true 8 (.t 4))), (oN 20 (.call zc9 [(.t 19)])), (oN 21 (.call zt [(.t 18), (.t 20)]))] [9, 10, 11, 18, 19, 20, 21]) (.seq (.region [ (oN 22 (.load true 8 (.t 4))), (oN 23 (.call zdp [(.t 22)]))] [4, 22]) (.cond (.t 23) (.region [ (oN 24 (.mov (.t 0))), (oN 25 (.mov (.t 2))), (oN 26 (.call zt [(.t 24), (.t 25)]))] [0, 2, 23, 24, 25, 26]) (.skip)))
def zgN : ACode := .seq (.region [ (oN 4 (.rbox (.t 1)))] [1]) (.seq (.seq (.region [ (oN 8 (.load true 8 (.t 4))), (oN 9 (.call zc5 [(.t 8)])), (oN 10 (.len (.t 9))), (oN 11 (.mov (.c (.int .i64 0))))] [8]) (.block 0 (.loop zeW))) (zeM))
def zd0 : List ARet := []
theorem zkB : zah Tryz.prog zc0 (qRo [4]) = some (zgN.strip, zd0, 27) := by kernel_rfl
def zaL : ACode := .seq (.seq (.region [ (oN 7 (.mov (.t 2))), (oN 8 (.mov (.t 3))), (oN 9 (.bin .lss (.t 7) (.t 8)))] [7, 8]) (.cond (.t 9) (.skip) (.exit 0))) (.seq (.block 1 (.draw ( .step (oN 14 (.mov (.t 0))) ( .step (oN 15 (.mov (.t 2))) ( .step (oN 16 (.mov (.t 0))) ( .step (oN 17 (.mov (.t 3))) ( .step (oN 18 (.mov (.t 0))) ( .step (oN 19 (.mov (.t 3))) ( .step (oN 20 (.idx 8 (.t 18) (.t 19))) ( .step (oN 21 (.load true 8 (.t 20))) ( .step (oN 22 (.mov (.t 0))) ( .step (oN 23 (.mov (.t 2))) ( .alt (oN 24 (.idx 8 (.t 22) (.t 23))) ( .step (oN 25 (.load true 8 (.t 24))) ( .step (oN 26 (.idx 8 (.t 14) (.t 15))) ( .alt ⟨none, .store 8 (.t 26) (.t 21), none⟩ ( .step (oN 27 (.idx 8 (.t 16) (.t 17))) ( .alt ⟨none, .store 8 (.t 27) (.t 25), none⟩ ( .done) ( .stop))) ( .stop)))) ( .stop)))))))))))) [9, 14, 15, 16, 17, 18, 19, 20, 21, 22, 23, 24, 25, 26, 27])) (.region [ (oN 10 (.mov (.t 2))), (oN 11 (.bin .add (.t 10) (.c (.int .i64 1)))), (oN 12 (.mov (.t 3))), (oN 13 (.bin .sub (.t 12) (.c (.int .i64 1)))), (oN 2 (.mov (.t 11))), (oN 3 (.mov (.t 13)))] [10, 11, 12, 13]))
def zaW : ACode := .seq (.region [ (oN 4 (.mov (.t 0))), (oN 5 (.len (.t 4))), (oN 6 (.bin .sub (.t 5) (.c (.int .i64 1)))), (oN 2 (.mov (.c (.int .i64 0)))), (oN 3 (.mov (.t 6)))] [4, 5, 6]) (.block 0 (.loop zaL))
def zaY : List ARet := []
theorem zcK : zah Tryz.prog zak (qRo []) = some (zaW.strip, zaY, 28) := by kernel_rfl
def zm5 : ACode := .seq (.region [ (oN 1 (.rbox (.t 0))), (oN 2 (.mknil 1))] [0, 2]) (.seq (.region [ (oN 3 (.alloc [.nilsl]))] []) (.seq (.region [ (oN 4 (.load true 5 (.t 1))), (oN 5 (.mkfn (.func zeO) [(.t 3)])), (oN 6 (.call zhT [(.t 4), (.t 5)]))] [1, 4, 5, 6]) (.seq (.region [ (oN 7 (.load false 1 (.t 3))), (oN 8 (.call zbZ [(.t 7)]))] [7, 8]) (.seq (.region [ (oN 9 (.load false 1 (.t 3))), (oN 10 (.call zbq [(.t 9)])), (oN 2 (.mov (.t 10)))] [3, 9, 10]) (.ret)))))
def znh : List ARet := [.tmp 2]
theorem zsr : zah Tryz.prog zk1 (qRo [1]) = some (zm5.strip, znh, 11) := by kernel_rfl
def zfu : ACode := .seq (.seq (.region [ (oN 63 (.mov (.t 5))), (oN 64 (.fldaddr 6 1 (.t 2))), (oN 65 (.load false 1 (.t 64))), (oN 66 (.len (.t 65))), (oN 67 (.bin .lss (.t 63) (.t 66)))] [63, 64, 65, 66]) (.cond (.t 67) (.skip) (.exit 0))) (.seq (.block 1 (.seq (.draw ( .step (oN 70 (.fldaddr 6 1 (.t 2))) ( .step (oN 71 (.load false 1 (.t 70))) ( .step (oN 72 (.mov (.t 5))) ( .step (oN 73 (.idx 5 (.t 71) (.t 72))) ( .step (oN 74 (.load true 5 (.t 73))) ( .step (oN 75 (.fldaddr 6 1 (.t 3))) ( .step (oN 76 (.load false 1 (.t 75))) ( .step (oN 77 (.mov (.t 5))) ( .step (oN 78 (.idx 5 (.t 76) (.t 77))) ( .step (oN 79 (.load true 5 (.t 78))) ( .step (oN 80 (.callq zhP [(.t 74), (.t 79)])) ( .step (oN 81 (.un .not (.t 80))) ( .done))))))))))))) [67, 70, 71, 72, 73, 74, 75, 76, 77, 78, 79, 80]) (.cond (.t 81) (.seq (.region [ (oN 4 (.mov (.c (.bool false))))] [2, 3, 5, 81]) (.ret)) (.skip)))) (.region [ (oN 68 (.mov (.t 5))), (oN 69 (.bin .add (.t 68) (.c (.int .i64 1)))), (oN 5 (.mov (.t 69)))] [4, 68, 69, 81]))
def zfb : ACode := .seq (.region [ (oN 4 (.mov (.c (.bool true))))] [2, 3, 5]) (.ret)
def zhb : ACode := .seq (.region [ (oN 2 (.rbox (.t 0))), (oN 3 (.rbox (.t 1))), (oN 4 (.mov (.c (.bool false))))] [0, 1, 4]) (.seq (.seq (.region [ (oN 6 (.fldaddr 0 1 (.t 2))), (oN 7 (.load false 1 (.t 6))), (oN 8 (.fldaddr 0 1 (.t 3))), (oN 9 (.load false 1 (.t 8))), (oN 10 (.bin .neq (.t 7) (.t 9))), (oN 11 (.mov (.t 10))), (oG 12 11 false (.fldaddr 1 1 (.t 2))), (oG 13 11 false (.load false 1 (.t 12))), (oG 14 11 false (.fldaddr 1 1 (.t 3))), (oG 15 11 false (.load false 1 (.t 14))), (oG 16 11 false (.bin .neq (.t 13) (.t 15))), (oN 17 (.pick (.t 11) (.c (.bool true)) (.t 16))), (oN 18 (.mov (.t 17))), (oG 19 18 false (.fldaddr 2 1 (.t 2))), (oG 20 18 false (.load false 1 (.t 19))), (oG 21 18 false (.fldaddr 2 1 (.t 3))), (oG 22 18 false (.load false 1 (.t 21))), (oG 23 18 false (.bin .neq (.t 20) (.t 22))), (oN 24 (.pick (.t 18) (.c (.bool true)) (.t 23))), (oN 25 (.mov (.t 24))), (oG 26 25 false (.fldaddr 3 1 (.t 2))), (oG 27 25 false (.load false 1 (.t 26))), (oG 28 25 false (.fldaddr 3 1 (.t 3))), (oG 29 25 false (.load false 1 (.t 28))), (oG 30 25 false (.bin .neq (.t 27) (.t 29))), (oN 31 (.pick (.t 25) (.c (.bool true)) (.t 30))), (oN 32 (.mov (.t 31))), (oG 33 32 false (.fldaddr 4 1 (.t 2))), (oG 34 32 false (.load false 1 (.t 33))), (oG 35 32 false (.fldaddr 4 1 (.t 3))), (oG 36 32 false (.load false 1 (.t 35))), (oG 37 32 false (.bin .neq (.t 34) (.t 36))), (oN 38 (.pick (.t 32) (.c (.bool true)) (.t 37))), (oN 39 (.mov (.t 38))), (oG 40 39 false (.fldaddr 5 1 (.t 2))), (oG 41 39 false (.load false 1 (.t 40))), (oG 42 39 false (.fldaddr 5 1 (.t 3))), (oG 43 39 false (.load false 1 (.t 42))), (oG 44 39 false (.bin .neq (.t 41) (.t 43))), (oN 45 (.pick (.t 39) (.c (.bool true)) (.t 44))), (oN 46 (.mov (.t 45))), (oG 47 46 false (.fldaddr 6 1 (.t 2))), (oG 48 46 false (.load false 1 (.t 47))), (oG 49 46 false (.len (.t 48))), (oG 50 46 false (.fldaddr 6 1 (.t 3))), (oG 51 46 false (.load false 1 (.t 50))), (oG 52 46 false (.len (.t 51))), (oG 53 46 false (.bin .neq (.t 49) (.t 52))), (oN 54 (.pick (.t 46) (.c (.bool true)) (.t 53))), (oN 55 (.mov (.t 54))), (oG 56 55 false (.fldaddr 7 1 (.t 2))), (oG 57 55 false (.load false 1 (.t 56))), (oG 58 55 false (.fldaddr 7 1 (.t 3))), (oG 59 55 false (.load false 1 (.t 58))), (oG 60 55 false (.call zdF [(.t 57), (.t 59)])), (oG 61 55 false (.un .not (.t 60))), (oN 62 (.pick (.t 55) (.c (.bool true)) (.t 61)))] [6, 7, 8, 9, 10, 11, 12, 13, 14, 15, 16, 17, 18, 19, 20, 21, 22, 23, 24, 25, 26, 27, 28, 29, 30, 31, 32, 33, 34, 35, 36, 37, 38, 39, 40, 41, 42, 43, 44, 45, 46, 47, 48, 49, 50, 51, 52, 53, 54, 55, 56, 57, 58, 59, 60, 61]) (.cond (.t 62) (.seq (.region [ (oN 4 (.mov (.c (.bool false))))] [2, 3, 62]) (.ret)) (.skip))) (.seq (.seq (.region [ (oN 5 (.mov (.c (.int .i64 0))))] [4, 62]) (.block 0 (.loop zfu))) (zfb)))
def zV : List ARet := [.tmp 4]
theorem zl2 : zah Tryz.prog zfL (qRo [2, 3]) = some (zhb.strip, zV, 82) := by kernel_rfl
def zea : ACode := .seq (.region [ (oN 10 (.bin .lss (.t 9) (.t 8)))] []) (.seq (.cond (.t 10) (.skip) (.exit 0)) (.seq (.block 1 (.seq (.region [ (oN 11 (.idx 5 (.t 7) (.t 9))), (oN 12 (.load true 5 (.t 11))), (oN 5 (.alloc [.int .i64 0, .int .u32 0, .int .i64 0, .int .i64 0, .nilsl])), ⟨none, .store 5 (.t 5) (.t 12), none⟩] [10, 11, 12]) (.region [ (oN 13 (.mov (.t 3))), (oN 14 (.load true 5 (.t 5))), (oN 15 (.call zcC [(.t 14)])), (oN 16 (.buildSl 5 1 [.int .i64 0, .int .u32 0, .int .i64 0, .int .i64 0, .nilsl] [(0, (.t 15))])), (oN 17 (.append 5 56 (.t 13) (.t 16))), (oN 3 (.mov (.t 17)))] [5, 13, 14, 15, 16, 17]))) (.region [ (oN 18 (.bin .add (.t 9) (.c (.int .i64 1)))), (oN 9 (.mov (.t 18)))] [18])))
def zee : ACode := .seq (.region [ (oN 19 (.mov (.t 3))), (oN 20 (.fldaddr 4 1 (.t 1))), ⟨none, .store 1 (.t 20) (.t 19), none⟩] [3, 7, 8, 9, 19, 20]) (.seq (.region [ (oN 21 (.load true 5 (.t 1))), ⟨none, .store 5 (.t 2) (.t 21), none⟩] [1, 21]) (.ret))
def zf7 : ACode := .seq (.region [ (oN 1 (.box (.t 0))), (oN 2 (.alloc [.int .i64 0, .int .u32 0, .int .i64 0, .int .i64 0, .nilsl]))] [0]) (.seq (.region [ (oN 3 (.mknil 5))] []) (.seq (.seq (.region [ (oN 6 (.fldaddr 4 1 (.t 1))), (oN 7 (.load false 1 (.t 6))), (oN 8 (.len (.t 7))), (oN 9 (.mov (.c (.int .i64 0))))] [6]) (.block 0 (.loop zea))) (zee)))
def zfU : List ARet := [.cell 2 true 5]
theorem zjt : zah Tryz.prog zcC (qRo []) = some (zf7.strip, zfU, 22) := by kernel_rfl
def zf3 : ACode := .seq (.region [ (oN 1 (.rbox (.t 0))), (oN 2 (.mov (.c (.bool false))))] [0, 2]) (.seq (.region [ (oN 3 (.fldaddr 0 1 (.t 1))), (oN 4 (.load false 1 (.t 3))), (oN 5 (.bin .eql (.t 4) (.c (.int .i64 18)))), (oN 6 (.mov (.t 5))), (oG 7 6 false (.fldaddr 4 1 (.t 1))), (oG 8 6 false (.load false 1 (.t 7))), (oG 9 6 false (.call zE [(.t 8), (.c (.fn (.func za9) []))])), (oN 10 (.pick (.t 6) (.c (.bool true)) (.t 9))), (oN 2 (.mov (.t 10)))] [1, 3, 4, 5, 6, 7, 8, 9, 10]) (.ret))
def zds : List ARet := [.tmp 2]
theorem zjz : zah Tryz.prog za9 (qRo [1]) = some (zf3.strip, zds, 11) := by kernel_rfl
def zfc : ACode := .seq (.region [ (oN 1 (.rbox (.t 0))), (oN 2 (.mov (.c (.bool false))))] [0, 2]) (.seq (.region [ (oN 3 (.fldaddr 0 1 (.t 1))), (oN 4 (.load false 1 (.t 3))), (oN 5 (.bin .eql (.t 4) (.c (.int .i64 9)))), (oN 6 (.mov (.t 5))), (oG 7 6 false (.fldaddr 0 1 (.t 1))), (oG 8 6 false (.load false 1 (.t 7))), (oG 9 6 false (.bin .eql (.t 8) (.c (.int .i64 10)))), (oN 10 (.pick (.t 6) (.c (.bool true)) (.t 9))), (oN 11 (.mov (.t 10))), (oG 12 11 false (.fldaddr 0 1 (.t 1))), (oG 13 11 false (.load false 1 (.t 12))), (oG 14 11 false (.bin .eql (.t 13) (.c (.int .i64 5)))), (oN 15 (.pick (.t 11) (.c (.bool true)) (.t 14))), (oN 2 (.mov (.t 15)))] [1, 3, 4, 5, 6, 7, 8, 9, 10, 11, 12, 13, 14, 15]) (.ret))
def zbL : List ARet := [.tmp 2]
theorem zi8 : zah Tryz.prog zdp (qRo [1]) = some (zfc.strip, zbL, 16) := by kernel_rfl
def zh5 : ACode := .seq (.region [ (oN 13 (.bin .lss (.t 12) (.t 11)))] []) (.seq (.cond (.t 13) (.skip) (.exit 0)) (.seq (.block 1 (.seq (.region [ (oN 14 (.idx 5 (.t 10) (.t 12))), (oN 15 (.load true 5 (.t 14))), (oN 5 (.alloc [.int .i64 0, .int .u32 0, .int .i64 0, .int .i64 0, .nilsl])), ⟨none, .store 5 (.t 5) (.t 15), none⟩] [13, 14, 15]) (.region [ (oN 16 (.load true 5 (.t 5))), (oN 17 (.mov (.t 1))), (oN 18 (.call zhT [(.t 16), (.t 17)]))] [5, 16, 17, 18]))) (.region [ (oN 19 (.bin .add (.t 12) (.c (.int .i64 1)))), (oN 12 (.mov (.t 19)))] [19])))
def zk3 : ACode := .seq (.region [ (oN 2 (.rbox (.t 0)))] [0]) (.seq (.region [ (oN 6 (.mov (.t 1))), (oN 7 (.load true 5 (.t 2))), (oN 8 (.callv (.t 6) [(.t 7)]))] [6, 7, 8]) (.seq (.region [ (oN 9 (.fldaddr 4 1 (.t 2))), (oN 10 (.load false 1 (.t 9))), (oN 11 (.len (.t 10))), (oN 12 (.mov (.c (.int .i64 0))))] [2, 9]) (.block 0 (.loop zh5))))
def zmm : List ARet := []
theorem zq7 : zah Tryz.prog zhT (qRo [2]) = some (zk3.strip, zmm, 20) := by kernel_rfl
def zkf : ACode := .seq (.region [ (oN 2 (.rbox (.t 0)))] [0]) (.seq (.region [ (oN 3 (.fldaddr 0 1 (.t 2))), (oN 4 (.load false 1 (.t 3))), (oN 5 (.bin .eql (.t 4) (.c (.int .i64 2))))] [3, 4]) (.cond (.t 5) (.region [ (oN 6 (.load false 1 (.t 1))), (oN 7 (.fldaddr 2 1 (.t 2))), (oN 8 (.load false 1 (.t 7))), (oN 9 (.buildSl 1 1 [.int .i64 0] [(0, (.t 8))])), (oN 10 (.append 1 8 (.t 6) (.t 9))), ⟨none, .store 1 (.t 1) (.t 10), none⟩] [1, 2, 5, 6, 7, 8, 9, 10]) (.skip)))
def zhh : List ARet := []
theorem zo4 : zah Tryz.prog zeO (qRo [2]) = some (zkf.strip, zhh, 11) := by kernel_rfl
def filR (p : Nat → Bool) (n : Nat) : List Nat := (List.range n).filter p
theorem zxg {p : Nat → Bool} {n : Nat} (h : p n = true) : filR p (n + 1) = filR p n ++ [n] := by unfold filR; rw [List.range_succ, List.filter_append]; simp [h]
theorem zwI {p : Nat → Bool} {n : Nat} (h : p n = false) : filR p (n + 1) = filR p n := by unfold filR; rw [List.range_succ, List.filter_append]; simp [h]
theorem zyv {p : Nat → Bool} {n : Nat} : (filR p n).length ≤ n := by unfold filR; exact Nat.le_trans (List.length_filter_le _ _) (by simp)
theorem zv7 {H H2 : AH} {σ : Nat → Nat → Option (Nat × Nat × Nat)} {D : Nat → Nat → Prop} {t : Bool} {r q g : Nat} {l m : List Int} (hD : D r q) (hg : H.get r q = some (.row 1 ((l ++ m).map cI) g)) (hb : l.length ≤ big) :
    Vw H H2 σ D t (.own r q g 0 l.length) (za l) := by
  refine .frz t r q g 0 l.length 1 ((l ++ m).map cI) _ hD hg hb (by simp) (fun i j hi hj => ?_)
  obtain rfl : j = 0 := by omega
  rw [Nat.zero_add, zx (show i < (l ++ m).length by simp; omega), zx hi, List.getElem_append_left hi]
  exact .int _ _ _
def zfl (l : List Int) (j : Nat) : Bool := j == 0 || (l.getD j 0 != l.getD (j - 1) 0)
def zal (l : List Int) (n : Nat) : List Int := (filR (zfl l) n).map (fun j => l.getD j 0)
def zdA (l : List Int) : List Int := zal l l.length
theorem zsX {l : List Int} {n : Nat} : (zal l n).length ≤ n := by
  unfold zal
  rw [List.length_map]
  exact zyv
theorem zjG {l : List Int} {j : Nat} (hj : j < l.length) (h : zfl l j = true) : zal l (j + 1) = zal l j ++ [l[j]] := by
  unfold zal
  rw [zxg h, List.map_append]
  simp [List.getD_eq_getElem?_getD, hj]
theorem zl0 {l : List Int} {j : Nat} (h : zfl l j = false) : zal l (j + 1) = zal l j := by
  unfold zal
  rw [zwI h]
theorem zmG {l : List Int} {n : Nat} (hn : n ≤ l.length) (h : ∀ j, j < n → zfl l j = true) : zal l n = l.take n := by
  induction n with
  | zero => rfl
  | succ n ih =>
    rw [zjG (by omega) (h n (by omega)), ih (by omega) (fun j hj => h j (by omega)), List.take_add_one, List.getElem?_eq_getElem (by omega)]
    rfl
theorem zf6 {l : List Int} {j : Nat} (h1 : 1 ≤ j) (hj : j < l.length) : zfl l j = (l[j] != l[j - 1]) := by
  unfold zfl
  rw [List.getD_eq_getElem?_getD, List.getD_eq_getElem?_getD, List.getElem?_eq_getElem hj, List.getElem?_eq_getElem (show j - 1 < l.length by omega)]
  simp
  omega
def curI (K l : List Int) : List Int := K ++ l.drop K.length
theorem zr2 {K l : List Int} (h : K.length ≤ l.length) : (curI K l).length = l.length := by simp [curI]; omega
theorem zxI {K l : List Int} {j : Nat} (h : K.length ≤ j) (hj : j < l.length) : (curI K l)[j]? = some l[j] := by
  unfold curI
  rw [List.getElem?_append_right h, List.getElem?_drop, show K.length + (j - K.length) = j by omega, List.getElem?_eq_getElem hj]
theorem zpA {K l : List Int} {j : Nat} (h : K.length ≤ j) (hj : j < l.length) : ((curI K l).map cI).getD j [] = [.int .i64 l[j]] := by
  simp [List.getD_eq_getElem?_getD, zxI h hj]
theorem zwr {K l : List Int} {v : Int} (h : K.length < l.length) : (curI K l).set K.length v = curI (K ++ [v]) l := by
  unfold curI
  rw [List.set_append_right _ _ (Nat.le_refl _), Nat.sub_self, List.drop_eq_getElem_cons h, List.set_cons_zero]
  simp
theorem zvA {K l : List Int} {v : Int} (h : K.length < l.length) : ((curI K l).map cI).set K.length [.int .i64 v] = (curI (K ++ [v]) l).map cI := by
  rw [← zwr h, List.map_set]
theorem zuG {l : List Int} {n : Nat} (h : n ≤ l.length) : curI (l.take n) l = l := by
  unfold curI
  rw [List.length_take, Nat.min_eq_left h, List.take_append_drop]
theorem znU (l : List Int) (g : Nat) (hl : l.length ≤ 100000000000) :
    zZ Tryz.prog zbq [.own 0 0 g 0 l.length] [(0, .row 1 (l.map cI) g)] 1
      (fun v H nx => ∃ m, v = .own 0 0 g 0 (zdA l).length ∧ H = [(0, .row 1 ((zdA l ++ m).map cI) g)] ∧ nx = 1) := by
  refine zce (fn_x zfF rfl ?_)
  unfold zcs
  have hB := hBig
  have fin : ∀ K m, (∀ j, j < l.length → zfl l j = true) → K = (4, AV.undef) → m = 0 → zdA l = l := fun K m h _ _ => by unfold zdA; rw [zmG (Nat.le_refl _) h, List.take_length]
  (repeat first | simp (disch := try exact dis1) only [evD, Nat.reduceBEq, Nat.reduceAdd, Nat.reduceLeDiff] | with_reducible intro _ | ((with_reducible apply And.intro); omega))
  (refine zas (fun h => ?_) (fun h => ?_)) <;> (try simp only [dcd] at h)
  · (repeat first | simp (disch := try exact dis1) only [evD, Nat.reduceBEq, Nat.reduceAdd, Nat.reduceLeDiff, zaF] | with_reducible intro _ | ((with_reducible apply And.intro); omega))
    have hall : ∀ j, j < l.length → zfl l j = true := fun j hj => by
      have : j = 0 := by omega
      subst this
      rfl
    have e := fin (4, .undef) 0 hall rfl rfl
    refine ⟨.own 0 0 g 0 l.length, [(0, .row 1 ((l ++ []).map cI) g)], 1, ?_, [], by rw [e], by rw [e], rfl⟩
    rw [List.append_nil]
    exact (Ent.tabB [(0, 0, 0)] [] rfl rfl rfl (by (try simp only [evWB, Nat.reduceBEq, Nat.reduceAdd, Nat.reduceSub, Nat.reduceLeDiff, Nat.reduceLT, implies_true]) <;> exact fin2) (by (try simp only [evWB, Nat.reduceBEq, Nat.reduceAdd, Nat.reduceSub, Nat.reduceLeDiff, Nat.reduceLT, implies_true]) <;> exact fin2))
  (repeat first | simp (disch := try exact dis1) only [evD, Nat.reduceBEq, Nat.reduceAdd, Nat.reduceLeDiff] | with_reducible intro _ | ((with_reducible apply And.intro); omega))
  refine zl (fun i : Nat => ([(0, .own 0 0 g 0 l.length), (3, .int .i64 i)], [(0, .row 1 (l.map cI) g)])) 1 (fun i => 1 ≤ i ∧ i ≤ l.length ∧ ∀ j, j < i → zfl l j = true) (fun i => l.length - i) 1 ⟨by omega, by omega, fun j hj => (by rw [show j = 0 by omega]; rfl)⟩ (Ent.tabB [(0, 0, 0)] [] rfl rfl rfl (by (try simp only [evWB, Nat.reduceBEq, Nat.reduceAdd, Nat.reduceSub, Nat.reduceLeDiff, Nat.reduceLT, implies_true]) <;> exact fin2) (by (try simp only [evWB, Nat.reduceBEq, Nat.reduceAdd, Nat.reduceSub, Nat.reduceLeDiff, Nat.reduceLT, implies_true]) <;> exact fin2)) ?_
  intro i ⟨hi1, hi2, hall⟩ wf
  unfold zbP
  (repeat first | simp (disch := try exact dis1) only [evD, Nat.reduceBEq, Nat.reduceAdd, Nat.reduceLeDiff] | with_reducible intro _ | ((with_reducible apply And.intro); omega))
  (refine zas (fun h2 => ?_) (fun h2 => ?_)) <;> (try simp only [dcd] at h2)
  · have hi' : i < l.length := by omega
    have hi1' : i - 1 < l.length := by omega
    have ei : ((i : Int) - 1).toNat = i - 1 := by omega
    (repeat first | simp (disch := try exact dis1) only [evD, Nat.reduceBEq, Nat.reduceAdd, Nat.reduceLeDiff, zx hi', ei, zx hi1'] | with_reducible intro _ | ((with_reducible apply And.intro); omega))
    (refine zas (fun h3 => ?_) (fun h3 => ?_)) <;> (try simp only [dcd] at h3)
    · have hne : zfl l i = false := by rw [zf6 hi1 hi']; simp; omega
      have hk0 : zal l i = l.take i := zmG (by omega) hall
      have hk1 : zal l (i + 1) = l.take i := by rw [zl0 hne, hk0]
      have hk1l : (zal l (i + 1)).length = i := by rw [hk1, List.length_take]; omega
      have hstart : curI (zal l (i + 1)) l = l := by rw [hk1, zuG (by omega)]
      have esl : ((l.length : Int) - i).toNat = l.length - i := by omega
      (repeat first | simp (disch := try exact dis1) only [evD, Nat.reduceBEq, Nat.reduceAdd, Nat.reduceLeDiff, esl] | with_reducible intro _ | ((with_reducible apply And.intro); omega))
      refine zl (fun a : Nat => ([(0, .own 0 0 g 0 l.length), (3, .int .i64 (zal l (i + a)).length), (4, .own 0 0 g i (l.length - i)), (5, .int .i64 a)], [(0, .row 1 ((curI (zal l (i + a)) l).map cI) g)])) 1
        (fun a => 1 ≤ a ∧ i + a ≤ l.length ∧ (zal l (i + a)).length < i + a) (fun a => l.length - (i + a)) 1 ⟨by omega, by omega, by omega⟩ (Ent.tabB [(0, 0, 0)] [] rfl rfl rfl (by (try simp only [evWB, Nat.reduceBEq, Nat.reduceAdd, Nat.reduceSub, Nat.reduceLeDiff, Nat.reduceLT, implies_true, hstart, hk1l]) <;> exact fin2) (by (try simp only [evWB, Nat.reduceBEq, Nat.reduceAdd, Nat.reduceSub, Nat.reduceLeDiff, Nat.reduceLT, implies_true, hstart, hk1l]) <;> exact fin2)) ?_
      intro a ⟨ha1, ha2, ha3⟩ wf
      unfold zbM
      (repeat first | simp (disch := try exact dis1) only [evD, Nat.reduceBEq, Nat.reduceAdd, Nat.reduceLeDiff] | with_reducible intro _ | ((with_reducible apply And.intro); omega))
      (refine zas (fun h4 => ?_) (fun h4 => ?_)) <;> (try simp only [dcd] at h4)
      · have ha' : i + a < l.length := by omega
        have ha1' : i + a - 1 < l.length := by omega
        have e1 : i + ((a : Int) - 1).toNat = i + a - 1 := by omega
        have g1 := zpA (K := zal l (i + a)) (l := l) (by omega) ha'
        have g2 := zpA (K := zal l (i + a)) (l := l) (by omega) ha1'
        have hcl := zr2 (K := zal l (i + a)) (l := l) (by omega)
        (repeat first | simp (disch := try exact dis1) only [evD, Nat.reduceBEq, Nat.reduceAdd, Nat.reduceLeDiff, e1, g1, g2] | with_reducible intro _ | ((with_reducible apply And.intro); omega))
        (refine zas (fun h5 => ?_) (fun h5 => ?_)) <;> (try simp only [dcd] at h5)
        · have hp : zfl l (i + a) = true := by rw [zf6 (by omega) ha']; simp; omega
          have hy := zjG ha' hp
          have hst := zvA (K := zal l (i + a)) (l := l) (v := l[i + a]) (by omega)
          rw [← hy] at hst
          have hyl : (zal l (i + a + 1)).length = (zal l (i + a)).length + 1 := by rw [hy]; simp
          (repeat first | simp (disch := try exact dis1) only [evD, Nat.reduceBEq, Nat.reduceAdd, Nat.reduceLeDiff, e1, g1, g2, hst] | with_reducible intro _ | ((with_reducible apply And.intro); omega))
          exact ⟨a + 1, ⟨by omega, by omega, by rw [show i + (a + 1) = i + a + 1 by omega, hyl]; omega⟩, by omega, (Ent.tabB [(0, 0, 0)] [] rfl rfl rfl (by (try simp only [evWB, Nat.reduceBEq, Nat.reduceAdd, Nat.reduceSub, Nat.reduceLeDiff, Nat.reduceLT, implies_true, show i + (a + 1) = i + a + 1 by omega, hyl]) <;> exact fin2) (by (try simp only [evWB, Nat.reduceBEq, Nat.reduceAdd, Nat.reduceSub, Nat.reduceLeDiff, Nat.reduceLT, implies_true, show i + (a + 1) = i + a + 1 by omega, hyl]) <;> exact fin2))⟩
        · have hp : zfl l (i + a) = false := by rw [zf6 (by omega) ha']; simp; omega
          have hy := zl0 hp
          (repeat first | simp (disch := try exact dis1) only [evD, Nat.reduceBEq, Nat.reduceAdd, Nat.reduceLeDiff] | with_reducible intro _ | ((with_reducible apply And.intro); omega))
          exact ⟨a + 1, ⟨by omega, by omega, by rw [show i + (a + 1) = i + a + 1 by omega, hy]; omega⟩, by omega, (Ent.tabB [(0, 0, 0)] [] rfl rfl rfl (by (try simp only [evWB, Nat.reduceBEq, Nat.reduceAdd, Nat.reduceSub, Nat.reduceLeDiff, Nat.reduceLT, implies_true, show i + (a + 1) = i + a + 1 by omega, hy]) <;> exact fin2) (by (try simp only [evWB, Nat.reduceBEq, Nat.reduceAdd, Nat.reduceSub, Nat.reduceLeDiff, Nat.reduceLT, implies_true, show i + (a + 1) = i + a + 1 by omega, hy]) <;> exact fin2))⟩
      · have hia : i + a = l.length := by omega
        rw [hia] at ha3 ⊢
        have hz : ((l.length : Int) - (zal l l.length).length).toNat = l.length - (zal l l.length).length := by omega
        have hcl := zr2 (K := zal l l.length) (l := l) (by omega)
        have hclr : ((curI (zal l l.length) l).map cI).take (zal l l.length).length ++ List.replicate (l.length - (zal l l.length).length) [AV.int .i64 0] ++ ((curI (zal l l.length) l).map cI).drop ((zal l l.length).length + (l.length - (zal l l.length).length)) = (zal l l.length ++ List.replicate (l.length - (zal l l.length).length) 0).map cI := by
          rw [List.drop_of_length_le (by rw [List.length_map, hcl]; omega), List.append_nil, ← List.map_take, List.map_append, List.map_replicate]
          congr 2
          unfold curI
          rw [List.take_append_of_le_length (Nat.le_refl _), List.take_length]
        unfold zbN
        (repeat first | simp (disch := try exact dis1) only [evD, Nat.reduceBEq, Nat.reduceAdd, Nat.reduceLeDiff, zaF, hz, hclr] | with_reducible intro _ | ((with_reducible apply And.intro); omega))
        refine ⟨.own 0 0 g 0 (zdA l).length, [(0, .row 1 ((zdA l ++ List.replicate (l.length - (zal l l.length).length) 0).map cI) g)], 1, ?_, _, rfl, rfl, rfl⟩
        exact (Ent.tabB [(0, 0, 0)] [] rfl rfl rfl (by (try simp only [evWB, Nat.reduceBEq, Nat.reduceAdd, Nat.reduceSub, Nat.reduceLeDiff, Nat.reduceLT, implies_true, zdA]) <;> exact fin2) (by (try simp only [evWB, Nat.reduceBEq, Nat.reduceAdd, Nat.reduceSub, Nat.reduceLeDiff, Nat.reduceLT, implies_true, zdA]) <;> exact fin2))
    · have hne : zfl l i = true := by rw [zf6 hi1 hi']; simp; omega
      unfold zbK
      (repeat first | simp (disch := try exact dis1) only [evD, Nat.reduceBEq, Nat.reduceAdd, Nat.reduceLeDiff] | with_reducible intro _ | ((with_reducible apply And.intro); omega))
      refine ⟨i + 1, ⟨by omega, by omega, fun j hj => ?_⟩, by omega, (Ent.tabB [(0, 0, 0)] [] rfl rfl rfl (by (try simp only [evWB, Nat.reduceBEq, Nat.reduceAdd, Nat.reduceSub, Nat.reduceLeDiff, Nat.reduceLT, implies_true]) <;> exact fin2) (by (try simp only [evWB, Nat.reduceBEq, Nat.reduceAdd, Nat.reduceSub, Nat.reduceLeDiff, Nat.reduceLT, implies_true]) <;> exact fin2))⟩
      by_cases hji : j = i
      · subst hji; exact hne
      · exact hall j (by omega)
  · obtain rfl : i = l.length := by omega
    unfold zbO
    have e := fin (4, .undef) 0 hall rfl rfl
    (repeat first | simp (disch := try exact dis1) only [evD, Nat.reduceBEq, Nat.reduceAdd, Nat.reduceLeDiff, zaF] | with_reducible intro _ | ((with_reducible apply And.intro); omega))
    refine ⟨.own 0 0 g 0 l.length, [(0, .row 1 ((l ++ []).map cI) g)], 1, ?_, [], by rw [e], by rw [e], rfl⟩
    rw [List.append_nil]
    exact (Ent.tabB [(0, 0, 0)] [] rfl rfl rfl (by (try simp only [evWB, Nat.reduceBEq, Nat.reduceAdd, Nat.reduceSub, Nat.reduceLeDiff, Nat.reduceLT, implies_true]) <;> exact fin2) (by (try simp only [evWB, Nat.reduceBEq, Nat.reduceAdd, Nat.reduceSub, Nat.reduceLeDiff, Nat.reduceLT, implies_true]) <;> exact fin2))
end Go.Ab
namespace Go.Ab
def insU (n : Int) : List Int → List Int
  | [] => [n]
  | x :: l => if x < n then x :: insU n l else if x = n then x :: l else n :: x :: l
def zd8 (a b : List Int) : List Int := b.foldl (fun a x => insU x a) a
def Asc (l : List Int) : Prop := l.Pairwise (· < ·)
theorem znP {n y : Int} : ∀ {l : List Int}, y ∈ insU n l ↔ y = n ∨ y ∈ l
  | [] => by simp [insU]
  | x :: l => by
    unfold insU
    split
    · rw [List.mem_cons, znP, List.mem_cons]
      constructor
      · rintro (h | h | h)
        · exact .inr (.inl h)
        · exact .inl h
        · exact .inr (.inr h)
      · rintro (h | h | h)
        · exact .inr (.inl h)
        · exact .inl h
        · exact .inr (.inr h)
    · split
      · rename_i h
        subst h
        simp
      · simp
theorem zr0 {n : Int} : ∀ {l : List Int}, Asc l → Asc (insU n l)
  | [], _ => by simp [insU, Asc]
  | x :: l, h => by
    have hx := fun y (hy : y ∈ l) => List.rel_of_pairwise_cons h hy
    have hl := List.Pairwise.of_cons h
    unfold insU
    split
    · rename_i h1
      refine List.Pairwise.cons (fun y hy => ?_) (zr0 hl)
      rcases znP.1 hy with rfl | hy
      · exact h1
      · exact hx y hy
    · split
      · exact h
      · refine List.Pairwise.cons (fun y hy => ?_) h
        rcases List.mem_cons.1 hy with rfl | hy
        · omega
        · have := hx y hy
          omega
theorem zdk {y : Int} : ∀ {b a : List Int}, y ∈ zd8 a b ↔ y ∈ a ∨ y ∈ b
  | [], a => by simp [zd8]
  | x :: b, a => by
    have := zdk (y := y) (b := b) (a := insU x a)
    unfold zd8 at this ⊢
    rw [List.foldl_cons, this, znP, List.mem_cons]
    constructor
    · rintro ((h | h) | h)
      · exact .inr (.inl h)
      · exact .inl h
      · exact .inr (.inr h)
    · rintro (h | h | h)
      · exact .inl (.inr h)
      · exact .inl (.inl h)
      · exact .inr h
theorem zdq : ∀ {b a : List Int}, Asc a → Asc (zd8 a b)
  | [], a, h => h
  | x :: b, a, h => by
    have := zdq (b := b) (zr0 (n := x) h)
    unfold zd8 at this ⊢
    rw [List.foldl_cons]
    exact this
theorem zlv {l : List Int} (h : Asc l) : l.Nodup := List.nodup_iff_pairwise_ne.2 (List.Pairwise.imp (fun h => by omega) h)
theorem znD : ∀ {a b : List Int}, Asc a → Asc b → (∀ x, x ∈ a ↔ x ∈ b) → a = b
  | [], [], _, _, _ => rfl
  | [], y :: b, _, _, h => by have := (h y).2 (by simp); cases this
  | x :: a, [], _, _, h => by have := (h x).1 (by simp); cases this
  | x :: a, y :: b, ha, hb, h => by
    have hx := fun z (hz : z ∈ a) => List.rel_of_pairwise_cons ha hz
    have hy := fun z (hz : z ∈ b) => List.rel_of_pairwise_cons hb hz
    have e : x = y := by
      rcases List.mem_cons.1 ((h x).1 (by simp)) with h1 | h1
      · exact h1
      · rcases List.mem_cons.1 ((h y).2 (by simp)) with h2 | h2
        · exact h2.symm
        · have := hx y h2
          have := hy x h1
          omega
    subst e
    congr 1
    refine znD (List.Pairwise.of_cons ha) (List.Pairwise.of_cons hb) fun z => ?_
    constructor
    · intro hz
      rcases List.mem_cons.1 ((h z).1 (List.mem_cons_of_mem _ hz)) with rfl | h1
      · have := hx z hz; omega
      · exact h1
    · intro hz
      rcases List.mem_cons.1 ((h z).2 (List.mem_cons_of_mem _ hz)) with rfl | h1
      · have := hy z hz; omega
      · exact h1
def zof (a b : List Int) : List Int := a.filter fun x => !decide (x ∈ b)
theorem zm8 {a b : List Int} {y : Int} : y ∈ zof a b ↔ y ∈ a ∧ y ∉ b := by
  unfold zof
  rw [List.mem_filter]
  simp
theorem zm6 {a b : List Int} (h : Asc a) : Asc (zof a b) := List.Pairwise.filter _ h
theorem zkY {a b : List Int} (ha : Asc a) (hb : Asc b) (h : ∀ x ∈ a, x ∈ b) : a.length ≤ b.length := by
  have := List.Nodup.length_le_of_subset (zlv ha) h
  exact this
theorem zta : ∀ {a b : List Int}, Asc a → Asc b → (∀ x ∈ a, x ∈ b) → a.length = b.length → a = b := by
  intro a b ha hb h hl
  refine znD ha hb fun x => ⟨h x, fun hx => ?_⟩
  refine Classical.byContradiction fun hn => ?_
  have h2 : ∀ y ∈ x :: a, y ∈ b := fun y hy => by
    rcases List.mem_cons.1 hy with rfl | hy
    · exact hx
    · exact h y hy
  have := List.Nodup.length_le_of_subset (List.nodup_cons.2 ⟨hn, zlv ha⟩) h2
  simp only [List.length_cons] at this
  omega
end Go.Ab
namespace Go.Ab
open Go.RowKit Go.Proofs
def endsOk : List St → Bool
  | [] => true
  | x :: l => (zhE x == l.isEmpty) && endsOk l
def inN (n : Int) (t : Int) : Bool := decide (0 ≤ t ∧ t < n)
def zD (l : List St) : List Int := match l.getLast? with
  | none => []
  | some s => zfm s
def zcH (l : List St) (n : Int) : Bool := !l.isEmpty && (endsOk l && (zD l).all (inN n))
theorem zqW {l : List St} {i : Nat} (h : i < l.length) : endsOk (l.drop i) = ((zhE l[i] == decide ((i : Int) = (l.length : Int) - 1)) && endsOk (l.drop (i + 1))) := by
  rw [List.drop_eq_getElem_cons h, endsOk]
  congr 2
  by_cases hi : i + 1 < l.length
  · rw [List.drop_eq_getElem_cons hi, decide_eq_false (by omega)]
    rfl
  · rw [List.drop_of_length_le (by omega), decide_eq_true (by omega)]
    rfl
theorem zv8 {l : List Int} {i : Nat} {p : Int → Bool} (h : i < l.length) : (l.drop i).all p = (p l[i] && (l.drop (i + 1)).all p) := by
  rw [List.drop_eq_getElem_cons h, List.all_cons]
theorem zhr {l : List St} (h : l.length - 1 < l.length) : zD l = zfm l[l.length - 1] := by
  unfold zD
  rw [List.getLast?_eq_getElem?, List.getElem?_eq_getElem h]
theorem zkN (b : Bl) (n : Int) : zB Tryz.prog zfD [.agg b.cells, .int .i64 n] (· = .bool (zcH b.stmts n)) := by
  refine fn_x zkL rfl ?_
  unfold zhv
  have hB := hBig
  obtain ⟨ad, l⟩ := b
  simp only [Bl.cells, zcH]
  by_cases h0 : l.length = 0
  · obtain rfl : l = [] := List.eq_nil_of_length_eq_zero h0
    (repeat first | simp (disch := try exact dis1) only [evD, Nat.reduceBEq, Nat.reduceAdd, Nat.reduceLeDiff, fldP, dT, List.length_nil, zaZ] | with_reducible intro _ | ((with_reducible apply And.intro); omega))
    exact ⟨_, .bool _ _, rfl⟩
  have he : l.isEmpty = false := by cases l with | nil => simp at h0 | cons a l => rfl
  rw [he]
  (repeat first | simp (disch := try exact dis1) only [evD, Nat.reduceBEq, Nat.reduceAdd, Nat.reduceLeDiff, fldP, dF] | with_reducible intro _ | ((with_reducible apply And.intro); omega))
  refine zl (fun i : Nat => ([(1, .int .i64 n), (2, encP 2 [.int .u32 ad, encL 8 St.cells l]), (5, .int .i64 i)], [])) 0 (fun i => i ≤ l.length ∧ endsOk (l.drop i) = endsOk l) (fun i => l.length - i) 0 ⟨Nat.zero_le _, rfl⟩ (Ent.keep rfl fin5) ?_
  rintro i ⟨hi, hgo⟩ wf
  unfold zfn
  by_cases hl : i < l.length
  · rw [zqW hl] at hgo
    (repeat first | simp (disch := try exact dis1) only [evD, Nat.reduceBEq, Nat.reduceAdd, Nat.reduceLeDiff, fldP, dT, zx hl, St.len, St.eight] | with_reducible intro _ | ((with_reducible apply And.intro); omega))
    refine zcc (zp (zqI l[i]) rfl) ?_
    generalize zhE l[i] = q at hgo
    by_cases hx : (i : Int) = (l.length : Int) - 1
    · rw [decide_eq_true hx] at hgo
      cases q with
      | true =>
        (repeat first | simp (disch := try exact dis1) only [evD, Nat.reduceBEq, Nat.reduceAdd, Nat.reduceLeDiff, fldP, dT] | with_reducible intro _ | ((with_reducible apply And.intro); omega))
        exact ⟨i + 1, ⟨by omega, by simpa using hgo⟩, by omega, Ent.keep rfl fin5⟩
      | false =>
        replace hgo : endsOk l = false := by rw [← hgo]; rfl
        rw [hgo]
        (repeat first | simp (disch := try exact dis1) only [evD, Nat.reduceBEq, Nat.reduceAdd, Nat.reduceLeDiff, fldP, dT, zaZ] | with_reducible intro _ | ((with_reducible apply And.intro); omega))
        exact ⟨_, .bool _ _, rfl⟩
    · rw [decide_eq_false hx] at hgo
      cases q with
      | false =>
        (repeat first | simp (disch := try exact dis1) only [evD, Nat.reduceBEq, Nat.reduceAdd, Nat.reduceLeDiff, fldP, dF] | with_reducible intro _ | ((with_reducible apply And.intro); omega))
        exact ⟨i + 1, ⟨by omega, by simpa using hgo⟩, by omega, Ent.keep rfl fin5⟩
      | true =>
        replace hgo : endsOk l = false := by rw [← hgo]; rfl
        rw [hgo]
        (repeat first | simp (disch := try exact dis1) only [evD, Nat.reduceBEq, Nat.reduceAdd, Nat.reduceLeDiff, fldP, dF, zaZ] | with_reducible intro _ | ((with_reducible apply And.intro); omega))
        exact ⟨_, .bool _ _, rfl⟩
  rw [List.drop_of_length_le (by omega), endsOk] at hgo
  rw [← hgo]
  have hlast : l.length - 1 < l.length := by omega
  have hidx : (((l.length : Nat) : Int) - 1).toNat = l.length - 1 := by omega
  rw [zhr hlast]
  (repeat first | simp (disch := try exact dis1) only [evD, Nat.reduceBEq, Nat.reduceAdd, Nat.reduceLeDiff, fldP, dF] | with_reducible intro _ | ((with_reducible apply And.intro); omega))
  unfold zfr
  (repeat first | simp (disch := try exact dis1) only [evD, Nat.reduceBEq, Nat.reduceAdd, Nat.reduceLeDiff, fldP, dT, hidx, zx hlast, St.len, St.eight] | with_reducible intro _ | ((with_reducible apply And.intro); omega))
  refine zm (zp (zmE l[l.length - 1]) rfl) ?_
  generalize zfm l[l.length - 1] = t
  generalize hR : t.all (inN n) = R
  (repeat first | simp (disch := try exact dis1) only [evD, Nat.reduceBEq, Nat.reduceAdd, Nat.reduceLeDiff] | with_reducible intro _ | ((with_reducible apply And.intro); omega))
  refine zl (fun i : Nat => ([(1, .int .i64 n), (6, za t), (7, .int .i64 i)], [])) 0 (fun i => i ≤ t.length ∧ (t.drop i).all (inN n) = R) (fun i => t.length - i) 0 ⟨Nat.zero_le _, hR⟩ (Ent.keep rfl fin5) ?_
  rintro i ⟨hi, hgo⟩ wf
  unfold zfq
  by_cases hl : i < t.length
  · rw [zv8 hl] at hgo
    unfold inN at hgo
    by_cases q0 : 0 ≤ t[i]
    · by_cases q1 : t[i] < n
      · rw [decide_eq_true ⟨q0, q1⟩, Bool.true_and] at hgo
        (repeat first | simp (disch := try exact dis1) only [evD, Nat.reduceBEq, Nat.reduceAdd, Nat.reduceLeDiff, fldP, dT, dF, za, zx hl] | with_reducible intro _ | ((with_reducible apply And.intro); omega))
        exact ⟨i + 1, ⟨by omega, hgo⟩, by omega, Ent.keep rfl fin5⟩
      · rw [decide_eq_false (fun h => q1 h.2), Bool.false_and] at hgo
        subst hgo
        (repeat first | simp (disch := try exact dis1) only [evD, Nat.reduceBEq, Nat.reduceAdd, Nat.reduceLeDiff, fldP, dT, dF, za, zx hl, zaZ] | with_reducible intro _ | ((with_reducible apply And.intro); omega))
        exact ⟨_, .bool _ _, rfl⟩
    · rw [decide_eq_false (fun h => q0 h.1), Bool.false_and] at hgo
      subst hgo
      (repeat first | simp (disch := try exact dis1) only [evD, Nat.reduceBEq, Nat.reduceAdd, Nat.reduceLeDiff, fldP, dT, dF, za, zx hl, zaZ] | with_reducible intro _ | ((with_reducible apply And.intro); omega))
      exact ⟨_, .bool _ _, rfl⟩
  · rw [List.drop_of_length_le (by omega)] at hgo
    replace hgo : R = true := by rw [← hgo]; rfl
    subst hgo
    (repeat first | simp (disch := try exact dis1) only [evD, Nat.reduceBEq, Nat.reduceAdd, Nat.reduceLeDiff, fldP, dF, za] | with_reducible intro _ | ((with_reducible apply And.intro); omega))
    unfold zfw
    (repeat first | simp (disch := try exact dis1) only [evD, Nat.reduceBEq, Nat.reduceAdd, Nat.reduceLeDiff, zaZ] | with_reducible intro _ | ((with_reducible apply And.intro); omega))
    exact ⟨_, .bool _ _, rfl⟩
end Go.Ab
namespace Go.Ab
mutual
def ze8 : Ex → List Int
  | .mk op _ v _ l => zg5 (if op = 2 then [v] else []) l
def zg5 : List Int → List Ex → List Int
  | a, [] => a
  | a, x :: l => zg5 (zd8 a (ze8 x)) l
end
mutual
def occX : Ex → List Int
  | .mk op _ v _ l => (if op = 2 then [v] else []) ++ zcn l
def zcn : List Ex → List Int
  | [] => []
  | x :: l => occX x ++ zcn l
end
mutual
theorem ziL {y : Int} : ∀ e : Ex, y ∈ ze8 e ↔ y ∈ occX e
  | .mk op _ v _ l => by rw [ze8, occX, zng, List.mem_append]
theorem zng {y : Int} : ∀ (a : List Int) (l : List Ex), y ∈ zg5 a l ↔ y ∈ a ∨ y ∈ zcn l
  | a, [] => by rw [zg5, zcn]; simp
  | a, x :: l => by rw [zg5, zng, zdk, ziL x, zcn, List.mem_append, or_assoc]
end
theorem zmL : ∀ (a : List Int) (l : List Ex), Asc a → Asc (zg5 a l)
  | a, [], h => by rw [zg5]; exact h
  | a, x :: l, h => by rw [zg5]; exact zmL _ l (zdq h)
theorem zui (e : Ex) : Asc (ze8 e) := by
  obtain ⟨op, n, v, w, l⟩ := e
  rw [ze8]
  refine zmL _ _ ?_
  split <;> simp [Asc]
def zkM : List Int → List Ex → List Int
  | a, [] => a
  | a, x :: l => zkM (zd8 a (ze8 x)) l
def zew (s : St) : List Int := zkM [] s.e
theorem zoi : ∀ (a : List Int) (l : List Ex), Asc a → Asc (zkM a l)
  | a, [], h => h
  | a, x :: l, h => zoi _ l (zdq h)
theorem zo5 {y : Int} : ∀ (a : List Int) (l : List Ex), y ∈ zkM a l ↔ y ∈ a ∨ y ∈ zcn l
  | a, [] => by rw [zkM, zcn]; simp
  | a, x :: l => by rw [zkM, zo5, zdk, ziL x, zcn, List.mem_append, or_assoc]
theorem zv0 (s : St) : Asc (zew s) := zoi _ _ (by simp [Asc])
def zjU (s : St) : List Int := if s.op = 1 ∨ s.op = 3 then [s.var] else []
def ziy (s : St) : Bool := decide (s.op = 9 ∨ s.op = 10 ∨ s.op = 5)
def zb1 (exit : List Int) (s : St) (after : List Int) : List Int :=
  if ziy s = true then zd8 (zd8 (zof after (zjU s)) (zew s)) exit else zd8 (zof after (zjU s)) (zew s)
def zbt (exit : List Int) (l : List St) (e : List Int) : List Int := l.foldr (zb1 exit) e
def ze5 (exit : List Int) (l : List St) (e : List Int) : List Int := if l.length = 0 then [] else zbt exit l e
def endT (ins : List (List Int)) (a : List Int) (t : Int) : List Int := if 0 ≤ t ∧ t < ins.length then zd8 a (ins.getD t.toNat []) else a
def endB (ins : List (List Int)) (l : List St) : List Int := (zD l).foldl (endT ins) []
theorem zrd {exit : List Int} {s : St} {a : List Int} (h : Asc a) : Asc (zb1 exit s a) := by
  unfold zb1
  split
  · exact zdq (zdq (zm6 h))
  · exact zdq (zm6 h)
theorem zdn {exit : List Int} {s : St} {a : List Int} {y : Int} : y ∈ zb1 exit s a ↔ (y ∈ a ∧ y ∉ zjU s) ∨ y ∈ zew s ∨ (ziy s = true ∧ y ∈ exit) := by
  unfold zb1
  split
  · rename_i h
    rw [zdk, zdk, zm8]
    simp [h, or_assoc]
  · rename_i h
    rw [zdk, zm8]
    simp [h]
theorem znl {exit : List Int} : ∀ {l : List St} {a : List Int}, Asc a → Asc (zbt exit l a)
  | [], _, h => h
  | s :: l, a, h => by
    show Asc (zb1 exit s (zbt exit l a))
    exact zrd (znl h)
theorem zqq {exit : List Int} {l : List St} {a : List Int} (h : Asc a) : Asc (ze5 exit l a) := by
  unfold ze5
  split
  · simp [Asc]
  · exact znl h
theorem zol {ins : List (List Int)} : ∀ {ts a : List Int}, Asc a → Asc (ts.foldl (endT ins) a)
  | [], _, h => h
  | t :: ts, a, h => by
    rw [List.foldl_cons]
    refine zol ?_
    unfold endT
    split
    · exact zdq h
    · exact h
theorem zsd {ins : List (List Int)} {l : List St} : Asc (endB ins l) := zol (by simp [Asc])
theorem zo9 {ins : List (List Int)} {y : Int} : ∀ {ts a : List Int}, y ∈ ts.foldl (endT ins) a ↔ y ∈ a ∨ ∃ t ∈ ts, (0 ≤ t ∧ t < ins.length) ∧ y ∈ ins.getD t.toNat []
  | [], a => by simp
  | t :: ts, a => by
    rw [List.foldl_cons, zo9]
    unfold endT
    split
    · rename_i h
      rw [zdk]
      constructor
      · rintro ((h1 | h1) | ⟨t', h1, h2⟩)
        · exact .inl h1
        · exact .inr ⟨t, by simp, h, h1⟩
        · exact .inr ⟨t', List.mem_cons_of_mem _ h1, h2⟩
      · rintro (h1 | ⟨t', h1, h2, h3⟩)
        · exact .inl (.inl h1)
        · rcases List.mem_cons.1 h1 with rfl | h1
          · exact .inl (.inr h3)
          · exact .inr ⟨t', h1, h2, h3⟩
    · rename_i h
      constructor
      · rintro (h1 | ⟨t', h1, h2⟩)
        · exact .inl h1
        · exact .inr ⟨t', List.mem_cons_of_mem _ h1, h2⟩
      · rintro (h1 | ⟨t', h1, h2, h3⟩)
        · exact .inl h1
        · rcases List.mem_cons.1 h1 with rfl | h1
          · exact absurd h2 h
          · exact .inr ⟨t', h1, h2, h3⟩
theorem zdy {ins : List (List Int)} {l : List St} {y : Int} : y ∈ endB ins l ↔ ∃ t ∈ zD l, (0 ≤ t ∧ t < ins.length) ∧ y ∈ ins.getD t.toNat [] := by
  unfold endB
  rw [zo9]
  simp
def newB (exit : List Int) (g : List Bl) (ins : List (List Int)) (i : Nat) : List Int := ze5 exit ((g.map (·.stmts)).getD i []) (endB ins ((g.map (·.stmts)).getD i []))
def zdU (exit : List Int) (g : List Bl) (ins : List (List Int)) (i : Nat) : List (List Int) :=
  if (newB exit g ins i).length = (ins.getD i []).length then ins else ins.set i (newB exit g ins i)
def zg1 (exit : List Int) (g : List Bl) : Nat → List (List Int) → List (List Int)
  | 0, ins => ins
  | n + 1, ins => zg1 exit g n (zdU exit g ins n)
structure LInv (exit : List Int) (g : List Bl) (ins : List (List Int)) : Prop where
  len : ins.length = g.length
  asc : ∀ i, Asc (ins.getD i [])
  sub : ∀ i, ∀ x ∈ ins.getD i [], x ∈ newB exit g ins i
theorem zmd {exit : List Int} {g : List Bl} {a b : List (List Int)} (hl : a.length = b.length) (h : ∀ i, ∀ x ∈ a.getD i [], x ∈ b.getD i []) (i : Nat) : ∀ x ∈ newB exit g a i, x ∈ newB exit g b i := by
  intro x hx
  unfold newB ze5 at *
  split at hx
  · cases hx
  · rename_i h0
    rw [if_neg h0]
    have he : ∀ y ∈ endB a ((g.map (·.stmts)).getD i []), y ∈ endB b ((g.map (·.stmts)).getD i []) := fun y hy => by
      obtain ⟨t, h1, h2, h3⟩ := zdy.1 hy
      exact zdy.2 ⟨t, h1, ⟨h2.1, by omega⟩, h _ y h3⟩
    revert x
    generalize (g.map (·.stmts)).getD i [] = l at he h0
    generalize endB a l = ea at he
    generalize endB b l = eb at he
    clear h0
    induction l with
    | nil => exact he
    | cons s l ih =>
      intro x hx
      have hx : x ∈ zb1 exit s (zbt exit l ea) := hx
      show x ∈ zb1 exit s (zbt exit l eb)
      rw [zdn] at hx ⊢
      rcases hx with ⟨h1, h2⟩ | h1
      · exact .inl ⟨ih x h1, h2⟩
      · exact .inr h1
theorem zjh {exit : List Int} {g : List Bl} {ins : List (List Int)} {i : Nat} : Asc (newB exit g ins i) := zqq zsd
theorem zgl {α : Type} {l : List α} {i j : Nat} {a d : α} (h : i < l.length) : (l.set i a).getD j d = if j = i then a else l.getD j d := by
  rw [List.getD_eq_getElem?_getD, List.getD_eq_getElem?_getD, List.getElem?_set]
  by_cases hij : i = j
  · subst hij; simp [h]
  · rw [if_neg hij, if_neg (fun e => hij e.symm)]
theorem LInv.step {exit : List Int} {g : List Bl} {ins : List (List Int)} (h : LInv exit g ins) {i : Nat} (hi : i < g.length) :
    LInv exit g (zdU exit g ins i) ∧ (∀ j, ∀ x ∈ ins.getD j [], x ∈ (zdU exit g ins i).getD j []) ∧ (zdU exit g ins i).getD i [] = newB exit g ins i := by
  have hil : i < ins.length := by rw [h.len]; exact hi
  unfold zdU
  split
  · rename_i he
    refine ⟨h, fun j x hx => hx, ?_⟩
    exact zta (h.asc i) zjh (h.sub i) he.symm
  · have hgrow : ∀ j, ∀ x ∈ ins.getD j [], x ∈ (ins.set i (newB exit g ins i)).getD j [] := fun j x hx => by
      rw [zgl hil]
      split
      · rename_i hji; subst hji; exact h.sub j x hx
      · exact hx
    have hlen : ins.length = (ins.set i (newB exit g ins i)).length := by simp
    refine ⟨⟨by simp [h.len], fun j => ?_, fun j x hx => ?_⟩, hgrow, by rw [zgl hil, if_pos rfl]⟩
    · rw [zgl hil]
      split
      · exact zjh
      · exact h.asc j
    · rw [zgl hil] at hx
      split at hx
      · rename_i hji
        subst hji
        exact zmd hlen hgrow j x hx
      · exact zmd hlen hgrow j x (h.sub j x hx)
def zcb (ins : List (List Int)) : Nat := (ins.map (·.length)).sum
def univ (exit : List Int) (g : List Bl) : List Int := exit ++ g.flatMap fun b => b.stmts.flatMap zew
theorem zvb {exit : List Int} {g : List Bl} {ins : List (List Int)} (h : ∀ i, ∀ x ∈ ins.getD i [], x ∈ univ exit g) (i : Nat) : ∀ x ∈ newB exit g ins i, x ∈ univ exit g := by
  unfold newB ze5
  split
  · intro x hx; cases hx
  · have he : ∀ y ∈ endB ins ((g.map (·.stmts)).getD i []), y ∈ univ exit g := fun y hy => by
      obtain ⟨t, h1, h2, h3⟩ := zdy.1 hy
      exact h _ y h3
    have hs : ∀ s ∈ (g.map (·.stmts)).getD i [], ∀ y ∈ zew s, y ∈ univ exit g := fun s hs y hy => by
      by_cases hi : i < g.length
      · rw [List.getD_eq_getElem?_getD, List.getElem?_map, List.getElem?_eq_getElem hi] at hs
        exact List.mem_append_right _ (List.mem_flatMap.2 ⟨g[i], List.getElem_mem hi, List.mem_flatMap.2 ⟨s, hs, hy⟩⟩)
      · rw [List.getD_eq_getElem?_getD, List.getElem?_map, List.getElem?_eq_none (by omega)] at hs
        cases hs
    generalize (g.map (·.stmts)).getD i [] = l at he hs
    generalize endB ins l = e at he
    induction l with
    | nil => exact he
    | cons s l ih =>
      intro x hx
      have hx : x ∈ zb1 exit s (zbt exit l e) := hx
      rw [zdn] at hx
      rcases hx with ⟨h1, h2⟩ | h1 | ⟨_, h1⟩
      · exact ih (fun s' hs' => hs s' (List.mem_cons_of_mem _ hs')) x h1
      · exact hs s (by simp) x h1
      · exact List.mem_append_left _ h1
structure LInvU (exit : List Int) (g : List Bl) (ins : List (List Int)) : Prop extends LInv exit g ins where
  uni : ∀ i, ∀ x ∈ ins.getD i [], x ∈ univ exit g
theorem zmn : ∀ (l : List (List Int)) (i : Nat) (a : List Int), i < l.length → zcb (l.set i a) + (l.getD i []).length = zcb l + a.length
  | [], i, a, h => by simp at h
  | b :: l, 0, a, h => by simp only [zcb, List.set_cons_zero, List.map_cons, List.sum_cons, List.getD_cons_zero]; omega
  | b :: l, i + 1, a, h => by
    have := zmn l i a (by simpa using h)
    simp only [zcb, List.set_cons_succ, List.map_cons, List.sum_cons, List.getD_cons_succ] at *
    omega
theorem LInvU.step {exit : List Int} {g : List Bl} {ins : List (List Int)} (h : LInvU exit g ins) {i : Nat} (hi : i < g.length) : LInvU exit g (zdU exit g ins i) := by
  obtain ⟨h1, h2, h3⟩ := h.toLInv.step hi
  refine ⟨h1, fun j x hx => ?_⟩
  unfold zdU at hx
  split at hx
  · exact h.uni j x hx
  · rw [zgl (by rw [h.len]; exact hi)] at hx
    split at hx
    · exact zvb h.uni i x hx
    · exact h.uni j x hx
theorem LInvU.total_step {exit : List Int} {g : List Bl} {ins : List (List Int)} (h : LInvU exit g ins) {i : Nat} (hi : i < g.length) : zcb ins ≤ zcb (zdU exit g ins i) ∧ (zcb ins = zcb (zdU exit g ins i) → zdU exit g ins i = ins) := by
  unfold zdU
  split
  · exact ⟨Nat.le_refl _, fun _ => rfl⟩
  · rename_i hne
    have h1 := zmn ins i (newB exit g ins i) (by rw [h.len]; exact hi)
    have h2 := zkY (h.asc i) zjh (h.sub i)
    exact ⟨by omega, fun he => by omega⟩
theorem LInvU.pass {exit : List Int} {g : List Bl} : ∀ {n : Nat} {ins : List (List Int)}, LInvU exit g ins → n ≤ g.length → LInvU exit g (zg1 exit g n ins) ∧ zcb ins ≤ zcb (zg1 exit g n ins) ∧ (zcb ins = zcb (zg1 exit g n ins) → zg1 exit g n ins = ins ∧ ∀ i, i < n → zdU exit g ins i = ins)
  | 0, ins, h, _ => ⟨h, Nat.le_refl _, fun _ => ⟨rfl, fun i hi => absurd hi (Nat.not_lt_zero _)⟩⟩
  | n + 1, ins, h, hn => by
    have h1 := h.step (i := n) (by omega)
    obtain ⟨h2, h3⟩ := h.total_step (i := n) (by omega)
    obtain ⟨h4, h5, h6⟩ := LInvU.pass (n := n) h1 (by omega)
    refine ⟨h4, Nat.le_trans h2 h5, fun he => ?_⟩
    have he2 : zcb (zg1 exit g n (zdU exit g ins n)) = zcb ins := he.symm
    have e1 := h3 (by omega)
    obtain ⟨h7, h8⟩ := h6 (by omega)
    rw [e1] at h7 h8
    refine ⟨by show zg1 exit g n (zdU exit g ins n) = ins; rw [e1]; exact h7, fun i hi => ?_⟩
    by_cases hin : i = n
    · subst hin; exact e1
    · exact h8 i (by omega)
theorem zrx {n m : Nat} : ∀ {l : List (List Int)}, l.length = n → (∀ a ∈ l, a.length ≤ m) → zcb l ≤ n * m
  | [], rfl, _ => by simp [zcb]
  | a :: l, rfl, h => by
    have h1 := zrx (l := l) (n := l.length) (m := m) rfl (fun b hb => h b (List.mem_cons_of_mem _ hb))
    have h2 := h a (by simp)
    simp only [zcb, List.map_cons, List.sum_cons, List.length_cons] at *
    rw [Nat.add_mul]
    omega
theorem LInvU.bound {exit : List Int} {g : List Bl} {ins : List (List Int)} (h : LInvU exit g ins) : zcb ins ≤ g.length * (univ exit g).length := by
  refine zrx h.len fun a ha => ?_
  obtain ⟨i, hi, rfl⟩ := List.mem_iff_getElem.1 ha
  have e : ins.getD i [] = ins[i] := by rw [List.getD_eq_getElem?_getD, List.getElem?_eq_getElem hi]; rfl
  have := List.Nodup.length_le_of_subset (zlv (h.asc i)) (h.uni i)
  rwa [e] at this
def fixL (exit : List Int) (g : List Bl) : Nat → List (List Int) → List (List Int)
  | 0, ins => ins
  | k + 1, ins => if zcb (zg1 exit g g.length ins) = zcb ins then ins else fixL exit g k (zg1 exit g g.length ins)
def zi2 (exit : List Int) (g : List Bl) : Nat := g.length * (univ exit g).length + 1
def zaX (exit : List Int) (g : List Bl) : List (List Int) := fixL exit g (zi2 exit g) (g.map fun _ => [])
def zW (exit : List Int) (g : List Bl) (i : Nat) : List Int := endB (zaX exit g) ((g.map (·.stmts)).getD i [])
theorem zlq (exit : List Int) (g : List Bl) : LInvU exit g (g.map fun _ => []) := by
  have e : ∀ i, (g.map fun _ => ([] : List Int)).getD i [] = [] := fun i => by
    rw [List.getD_eq_getElem?_getD, List.getElem?_map]
    cases g[i]? <;> rfl
  exact ⟨⟨by simp, fun i => by rw [e]; simp [Asc], fun i x hx => by rw [e] at hx; cases hx⟩, fun i x hx => by rw [e] at hx; cases hx⟩
theorem zsi {exit : List Int} {g : List Bl} : ∀ (k : Nat) {ins : List (List Int)}, LInvU exit g ins → zi2 exit g ≤ k + zcb ins → LInvU exit g (fixL exit g k ins) ∧ ∀ i, i < g.length → newB exit g (fixL exit g k ins) i = (fixL exit g k ins).getD i []
  | 0, ins, h, h1 => by have := h.bound; unfold zi2 at h1; omega
  | k + 1, ins, h, h1 => by
    rw [fixL]
    obtain ⟨h3, h4, h5⟩ := h.pass (Nat.le_refl _)
    split
    · rename_i he
      obtain ⟨_, h6⟩ := h5 he.symm
      refine ⟨h, fun i hi => ?_⟩
      have := (h.toLInv.step hi).2.2
      rw [h6 i hi] at this
      exact this.symm
    · exact zsi k h3 (by omega)
theorem zhV (exit : List Int) (g : List Bl) : LInvU exit g (zaX exit g) ∧ ∀ i, i < g.length → newB exit g (zaX exit g) i = (zaX exit g).getD i [] := zsi _ (zlq exit g) (by omega)
end Go.Ab
