/-
  Part 8 of the proof: how the calls of this program run, over values instead of memory, and what each function computes.
-/
import Derived.KernelRfl
import Derived.Test.YtdhlfajcofgpkaaGreatKg
set_option maxRecDepth 100000
set_option linter.unusedVariables false
set_option linter.unusedSimpArgs false
set_option linter.unnecessarySimpa false
set_option linter.unusedSectionVars false

namespace Go.Ab
open Go.RowKit Go.Proofs
def za5 : ACode := .seq (.seq (.region [ (oN 61 (.mov (.t 12))), (oN 62 (.mov (.t 11))), (oN 63 (.len (.t 62))), (oN 64 (.bin .lss (.t 61) (.t 63)))] [61, 62, 63]) (.cond (.t 64) (.skip) (.exit 2))) (.seq (.block 3 (.region [ (oN 67 (.mov (.t 8))), (oN 68 (.mov (.t 5))), (oN 69 (.mov (.t 11))), (oN 70 (.mov (.t 12))), (oN 71 (.idx 1 (.t 69) (.t 70))), (oN 72 (.load false 1 (.t 71))), (oN 73 (.idx 1 (.t 68) (.t 72))), (oN 74 (.load false 1 (.t 73))), (oN 75 (.call zeQ [(.t 67), (.t 74)])), (oN 8 (.mov (.t 75)))] [64, 67, 68, 69, 70, 71, 72, 73, 74, 75])) (.region [ (oN 65 (.mov (.t 12))), (oN 66 (.bin .add (.t 65) (.c (.int .i64 1)))), (oN 12 (.mov (.t 66)))] [65, 66]))
def za9 : ACode := .seq (.seq (.region [ (oN 114 (.mov (.t 16))), (oN 115 (.mov (.t 15))), (oN 116 (.len (.t 115))), (oN 117 (.bin .lss (.t 114) (.t 116)))] [114, 115, 116]) (.cond (.t 117) (.skip) (.exit 6))) (.seq (.block 7 (.seq (.region [ (oN 120 (.mov (.t 10))), (oN 121 (.mov (.t 15))), (oN 122 (.mov (.t 16))), (oN 123 (.idx 1 (.t 121) (.t 122))), (oN 124 (.load false 1 (.t 123))), (oN 125 (.call ziZ [(.t 120), (.t 124)])), (oN 126 (.un .not (.t 125)))] [117, 120, 121, 122, 123, 124, 125]) (.cond (.t 126) (.region [ (oN 127 (.mov (.t 9))), (oN 128 (.mov (.t 15))), (oN 129 (.mov (.t 16))), (oN 130 (.idx 1 (.t 128) (.t 129))), (oN 131 (.load false 1 (.t 130))), (oN 132 (.call zdU [(.t 127), (.t 131)])), (oN 9 (.mov (.t 132)))] [126, 127, 128, 129, 130, 131, 132]) (.skip)))) (.region [ (oN 118 (.mov (.t 16))), (oN 119 (.bin .add (.t 118) (.c (.int .i64 1)))), (oN 16 (.mov (.t 119)))] [118, 119, 126]))
def za8 : ACode := .region [ (oN 133 (.mov (.t 10))), (oN 134 (.load true 8 (.t 14))), (oN 135 (.call zcd [(.t 134)])), (oN 136 (.call zeQ [(.t 133), (.t 135)])), (oN 10 (.mov (.t 136)))] [14, 15, 16, 133, 134, 135, 136]
def za6 : ACode := .region [ (oN 85 (.mov (.t 13))), (oN 86 (.bin .add (.t 85) (.c (.int .i64 1)))), (oN 13 (.mov (.t 86)))] [85, 86]
def zba : ACode := .seq (.seq (.region [ (oN 76 (.mov (.t 13))), (oN 77 (.fldaddr 1 1 (.t 2))), (oN 78 (.load false 1 (.t 77))), (oN 79 (.mov (.t 7))), (oN 80 (.idx 2 (.t 78) (.t 79))), (oN 81 (.fldaddr 1 1 (.t 80))), (oN 82 (.load false 1 (.t 81))), (oN 83 (.len (.t 82))), (oN 84 (.bin .lss (.t 76) (.t 83)))] [76, 77, 78, 79, 80, 81, 82, 83]) (.cond (.t 84) (.skip) (.exit 4))) (.seq (.block 5 (.seq (.region [ (oN 87 (.fldaddr 1 1 (.t 2))), (oN 88 (.load false 1 (.t 87))), (oN 89 (.mov (.t 7))), (oN 90 (.idx 2 (.t 88) (.t 89))), (oN 91 (.fldaddr 1 1 (.t 90))), (oN 92 (.load false 1 (.t 91))), (oN 93 (.mov (.t 13))), (oN 94 (.idx 8 (.t 92) (.t 93))), (oN 95 (.load true 8 (.t 94))), (oN 14 (.alloc [.int .i64 0, .int .i64 0, .int .i64 0, .int .i64 0, .int .i64 0, .int .u32 0, .nilsl, .nilsl])), ⟨none, .store 8 (.t 14) (.t 95), none⟩] [84, 87, 88, 89, 90, 91, 92, 93, 94, 95]) (.seq (.region [ (oN 96 (.load true 8 (.t 14))), (oN 97 (.call zca [(.t 96)])), (oN 15 (.mov (.t 97)))] [96, 97]) (.seq (.seq (.region [ (oN 98 (.fldaddr 0 1 (.t 14))), (oN 99 (.load false 1 (.t 98))), (oN 100 (.bin .eql (.t 99) (.c (.int .i64 9)))), (oN 101 (.mov (.t 100))), (oG 102 101 false (.fldaddr 0 1 (.t 14))), (oG 103 101 false (.load false 1 (.t 102))), (oG 104 101 false (.bin .eql (.t 103) (.c (.int .i64 10)))), (oN 105 (.pick (.t 101) (.c (.bool true)) (.t 104))), (oN 106 (.mov (.t 105))), (oG 107 106 false (.fldaddr 0 1 (.t 14))), (oG 108 106 false (.load false 1 (.t 107))), (oG 109 106 false (.bin .eql (.t 108) (.c (.int .i64 5)))), (oN 110 (.pick (.t 106) (.c (.bool true)) (.t 109)))] [98, 99, 100, 101, 102, 103, 104, 105, 106, 107, 108, 109]) (.cond (.t 110) (.region [ (oN 111 (.mov (.t 15))), (oN 112 (.mov (.t 1))), (oN 113 (.call zeQ [(.t 111), (.t 112)])), (oN 15 (.mov (.t 113)))] [110, 111, 112, 113]) (.skip))) (.seq (.seq (.region [ (oN 16 (.mov (.c (.int .i64 0))))] [110]) (.block 6 (.loop za9))) (za8)))))) (za6))
def za4 : ACode := .seq (.seq (.region [ (oN 137 (.mov (.t 17))), (oN 138 (.mov (.t 6))), (oN 139 (.mov (.t 7))), (oN 140 (.idx 1 (.t 138) (.t 139))), (oN 141 (.load false 1 (.t 140))), (oN 142 (.len (.t 141))), (oN 143 (.bin .lss (.t 137) (.t 142)))] [137, 138, 139, 140, 141, 142]) (.cond (.t 143) (.skip) (.exit 8))) (.seq (.block 9 (.seq (.region [ (oN 146 (.mov (.t 10))), (oN 147 (.mov (.t 6))), (oN 148 (.mov (.t 7))), (oN 149 (.idx 1 (.t 147) (.t 148))), (oN 150 (.load false 1 (.t 149))), (oN 151 (.mov (.t 17))), (oN 152 (.idx 1 (.t 150) (.t 151))), (oN 153 (.load false 1 (.t 152))), (oN 154 (.call ziZ [(.t 146), (.t 153)])), (oN 155 (.un .not (.t 154)))] [143, 146, 147, 148, 149, 150, 151, 152, 153, 154]) (.cond (.t 155) (.region [ (oN 156 (.mov (.t 9))), (oN 157 (.mov (.t 6))), (oN 158 (.mov (.t 7))), (oN 159 (.idx 1 (.t 157) (.t 158))), (oN 160 (.load false 1 (.t 159))), (oN 161 (.mov (.t 17))), (oN 162 (.idx 1 (.t 160) (.t 161))), (oN 163 (.load false 1 (.t 162))), (oN 164 (.call zdU [(.t 156), (.t 163)])), (oN 9 (.mov (.t 164)))] [155, 156, 157, 158, 159, 160, 161, 162, 163, 164]) (.skip)))) (.region [ (oN 144 (.mov (.t 17))), (oN 145 (.bin .add (.t 144) (.c (.int .i64 1)))), (oN 17 (.mov (.t 145)))] [144, 145, 155]))
def za7 : ACode := .seq (.region [ (oN 165 (.mov (.t 6))), (oN 166 (.mov (.t 7))), (oN 167 (.idx 1 (.t 165) (.t 166))), (oN 168 (.load false 1 (.t 167))), (oN 169 (.mov (.t 8))), (oN 170 (.call zcA [(.t 168), (.t 169)])), (oN 171 (.un .not (.t 170))), (oN 172 (.mov (.t 171))), (oG 173 172 false (.mov (.t 5))), (oG 174 172 false (.mov (.t 7))), (oG 175 172 false (.idx 1 (.t 173) (.t 174))), (oG 176 172 false (.load false 1 (.t 175))), (oG 177 172 false (.mov (.t 9))), (oG 178 172 false (.call zcA [(.t 176), (.t 177)])), (oG 179 172 false (.un .not (.t 178))), (oN 180 (.pick (.t 172) (.c (.bool true)) (.t 179)))] [8, 9, 10, 17, 165, 166, 167, 168, 169, 170, 171, 172, 173, 174, 175, 176, 177, 178, 179]) (.cond (.t 180) (.seq (.region [ (oN 4 (.mov (.c (.bool false))))] [1, 2, 5, 6, 7, 180]) (.ret)) (.skip))
def zao : ACode := .seq (.seq (.region [ (oN 17 (.mov (.c (.int .i64 0))))] [13]) (.block 8 (.loop za4))) (za7)
def zap : ACode := .seq (.seq (.region [ (oN 13 (.mov (.c (.int .i64 0))))] [11, 12]) (.block 4 (.loop zba))) (zao)
def zbb : ACode := .region [ (oN 53 (.mov (.t 7))), (oN 54 (.bin .add (.t 53) (.c (.int .i64 1)))), (oN 7 (.mov (.t 54)))] [4, 53, 54, 180]
def zbS : ACode := .seq (.seq (.region [ (oN 48 (.mov (.t 7))), (oN 49 (.fldaddr 1 1 (.t 2))), (oN 50 (.load false 1 (.t 49))), (oN 51 (.len (.t 50))), (oN 52 (.bin .lss (.t 48) (.t 51)))] [48, 49, 50, 51]) (.cond (.t 52) (.skip) (.exit 0))) (.seq (.block 1 (.seq (.region [ (oN 8 (.mknil 1)), (oN 9 (.mknil 1)), (oN 10 (.mknil 1))] [52]) (.seq (.region [ (oN 55 (.fldaddr 1 1 (.t 2))), (oN 56 (.load false 1 (.t 55))), (oN 57 (.mov (.t 7))), (oN 58 (.idx 2 (.t 56) (.t 57))), (oN 59 (.load true 2 (.t 58))), (oN 60 (.call zd2 [(.t 59)])), (oN 11 (.mov (.t 60)))] [55, 56, 57, 58, 59, 60]) (.seq (.seq (.region [ (oN 12 (.mov (.c (.int .i64 0))))] []) (.block 2 (.loop za5))) (zap))))) (zbb))
def zbQ : ACode := .seq (.region [ (oN 181 (.call zbR [])), (oN 4 (.mov (.t 181)))] [1, 2, 5, 6, 7, 181]) (.ret)
def zcX : ACode := .seq (.region [ (oN 2 (.rbox (.t 0))), (oN 4 (.mov (.c (.bool false))))] [0, 4]) (.seq (.seq (.region [ (oN 18 (.load true 2 (.t 2))), (oN 19 (.mov (.t 1))), (oN 20 (.call ziC [(.t 18), (.t 19)])), (oN 21 (.un .not (.t 20))), (oN 22 (.mov (.t 21))), (oG 23 22 false (.load true 2 (.t 2))), (oG 24 22 false (.call zdX [(.t 23)])), (oG 25 22 false (.bin .neq (.t 24) (.c (.int .i64 0)))), (oN 26 (.pick (.t 22) (.c (.bool true)) (.t 25)))] [18, 19, 20, 21, 22, 23, 24, 25]) (.cond (.t 26) (.seq (.region [ (oN 27 (.call zbR [])), (oN 4 (.mov (.t 27)))] [1, 2, 26, 27]) (.ret)) (.skip))) (.seq (.region [ (oN 29 (.load true 2 (.t 2))), (oN 30 (.mov (.t 1))), (oN 31 (.call zde [(.t 29), (.t 30)])), (oN 28 (.mov (.t 31))), (oN 32 (.ext 0 (.t 28))), (oN 33 (.ext 1 (.t 28))), (oN 5 (.mov (.t 32))), (oN 6 (.mov (.t 33)))] [4, 26, 28, 29, 30, 31, 32, 33]) (.seq (.seq (.region [ (oN 34 (.mov (.t 5))), (oN 35 (.len (.t 34))), (oN 36 (.fldaddr 1 1 (.t 2))), (oN 37 (.load false 1 (.t 36))), (oN 38 (.len (.t 37))), (oN 39 (.bin .neq (.t 35) (.t 38))), (oN 40 (.mov (.t 39))), (oG 41 40 false (.mov (.t 6))), (oG 42 40 false (.len (.t 41))), (oG 43 40 false (.fldaddr 1 1 (.t 2))), (oG 44 40 false (.load false 1 (.t 43))), (oG 45 40 false (.len (.t 44))), (oG 46 40 false (.bin .neq (.t 42) (.t 45))), (oN 47 (.pick (.t 40) (.c (.bool true)) (.t 46)))] [34, 35, 36, 37, 38, 39, 40, 41, 42, 43, 44, 45, 46]) (.cond (.t 47) (.seq (.region [ (oN 4 (.mov (.c (.bool false))))] [1, 2, 5, 6, 47]) (.ret)) (.skip))) (.seq (.seq (.region [ (oN 7 (.mov (.c (.int .i64 0))))] [4, 47]) (.block 0 (.loop zbS))) (zbQ)))))
def zaQ : List ARet := [.tmp 4]
theorem zf8 : zak Tryz.prog zdf (qRo [2]) = some (zcX.strip, zaQ, 182) := by kernel_rfl
def zhb : ACode := .seq (.seq (.region [ (oN 20 (.mov (.t 5))), (oN 21 (.fldaddr 1 1 (.t 2))), (oN 22 (.load false 1 (.t 21))), (oN 23 (.len (.t 22))), (oN 24 (.bin .lss (.t 20) (.t 23)))] [20, 21, 22, 23]) (.cond (.t 24) (.skip) (.exit 0))) (.seq (.block 1 (.seq (.region [ (oN 27 (.fldaddr 1 1 (.t 2))), (oN 28 (.load false 1 (.t 27))), (oN 29 (.mov (.t 5))), (oN 30 (.idx 2 (.t 28) (.t 29))), (oN 31 (.fldaddr 1 1 (.t 30))), (oN 32 (.load false 1 (.t 31))), (oN 33 (.len (.t 32))), (oN 34 (.bin .gtr (.t 33) (.c (.int .i64 12))))] [24, 27, 28, 29, 30, 31, 32, 33]) (.cond (.t 34) (.seq (.region [ (oN 4 (.mov (.c (.bool false))))] [2, 5, 34]) (.ret)) (.skip)))) (.region [ (oN 25 (.mov (.t 5))), (oN 26 (.bin .add (.t 25) (.c (.int .i64 1)))), (oN 5 (.mov (.t 26)))] [4, 25, 26, 34]))
def zhq : ACode := .seq (.region [ (oN 4 (.mov (.c (.bool true))))] [2, 5]) (.ret)
def zj5 : ACode := .seq (.region [ (oN 2 (.rbox (.t 0))), (oN 4 (.mov (.c (.bool false))))] [0, 4]) (.seq (.seq (.region [ (oN 6 (.fldaddr 1 1 (.t 2))), (oN 7 (.load false 1 (.t 6))), (oN 8 (.len (.t 7))), (oN 9 (.bin .gtr (.t 8) (.c (.int .i64 12)))), (oN 10 (.mov (.t 9))), (oG 11 10 false (.mov (.t 1))), (oG 12 10 false (.len (.t 11))), (oG 13 10 false (.bin .gtr (.t 12) (.c (.int .i64 20)))), (oN 14 (.pick (.t 10) (.c (.bool true)) (.t 13))), (oN 15 (.mov (.t 14))), (oG 16 15 false (.load true 2 (.t 2))), (oG 17 15 false (.call zd5 [(.t 16), (.c (.int .i64 8))])), (oG 18 15 false (.un .not (.t 17))), (oN 19 (.pick (.t 15) (.c (.bool true)) (.t 18)))] [1, 6, 7, 8, 9, 10, 11, 12, 13, 14, 15, 16, 17, 18]) (.cond (.t 19) (.seq (.region [ (oN 4 (.mov (.c (.bool false))))] [2, 19]) (.ret)) (.skip))) (.seq (.seq (.region [ (oN 5 (.mov (.c (.int .i64 0))))] [4, 19]) (.block 0 (.loop zhb))) (zhq)))
def zc1 : List ARet := [.tmp 4]
theorem zpE : zak Tryz.prog ziC (qRo [2]) = some (zj5.strip, zc1, 35) := by kernel_rfl
def zcR : ACode := .seq (.seq (.region [ (oN 56 (.mov (.t 17))), (oN 57 (.bin .geq (.t 56) (.c (.int .i64 0))))] [56]) (.cond (.t 57) (.skip) (.exit 4))) (.seq (.block 5 (.seq (.seq (.region [ (oN 60 (.mov (.t 15))), (oN 61 (.mov (.t 17))), (oN 62 (.idx 8 (.t 60) (.t 61))), (oN 63 (.load true 8 (.t 62))), (oN 64 (.mov (.t 14))), (oN 65 (.call zcs [(.t 63), (.t 64)]))] [57, 60, 61, 62, 63, 64]) (.cond (.t 65) (.seq (.region [ (oN 66 (.mov (.t 9))), (oN 67 (.bin .add (.t 66) (.c (.int .i64 1)))), (oN 9 (.mov (.t 67)))] [10, 65, 66, 67]) (.seq (.region [ (oN 10 (.mov (.c (.bool true))))] []) (.exit 5))) (.skip))) (.seq (.region [ (oN 68 (.mov (.t 14))), (oN 69 (.mov (.t 15))), (oN 70 (.mov (.t 17))), (oN 71 (.idx 8 (.t 69) (.t 70))), (oN 72 (.load true 8 (.t 71))), (oN 73 (.mov (.t 1))), (oN 74 (.call zdh [(.t 68), (.t 72), (.t 73)]))] [65, 68, 69, 70, 71, 72, 73, 74]) (.region [ (oN 75 (.mov (.t 16))), (oN 76 (.mov (.t 15))), (oN 77 (.mov (.t 17))), (oN 78 (.idx 8 (.t 76) (.t 77))), (oN 79 (.load true 8 (.t 78))), (oN 80 (.buildSl 8 1 [.int .i64 0, .int .i64 0, .int .i64 0, .int .i64 0, .int .i64 0, .int .u32 0, .nilsl, .nilsl] [(0, (.t 79))])), (oN 81 (.append 8 96 (.t 75) (.t 80))), (oN 16 (.mov (.t 81)))] [75, 76, 77, 78, 79, 80, 81])))) (.region [ (oN 58 (.mov (.t 17))), (oN 59 (.bin .sub (.t 58) (.c (.int .i64 1)))), (oN 17 (.mov (.t 59)))] [58, 59]))
def zcJ : ACode := .seq (.region [ (oN 82 (.mov (.t 16))), (oN 83 (.call zam [(.t 82)]))] [14, 15, 17, 82, 83]) (.region [ (oN 84 (.fldaddr 1 1 (.t 8))), (oN 85 (.load false 1 (.t 84))), (oN 86 (.mov (.t 13))), (oN 87 (.mov (.t 16))), (oN 88 (.idx 2 (.t 85) (.t 86))), (oN 89 (.fldaddr 1 1 (.t 88))), ⟨none, .store 1 (.t 89) (.t 87), none⟩] [13, 16, 84, 85, 86, 87, 88, 89])
def zcL : ACode := .region [ (oN 90 (.bin .add (.t 36) (.c (.int .i64 1)))), (oN 36 (.mov (.t 90)))] [90]
def zcV : ACode := .seq (.region [ (oN 37 (.bin .lss (.t 36) (.t 35)))] []) (.seq (.cond (.t 37) (.skip) (.exit 2)) (.seq (.block 3 (.seq (.region [ (oN 38 (.mov (.t 36))), (oN 13 (.mov (.t 38)))] [37, 38]) (.seq (.region [ (oN 39 (.xop .mkmap [])), (oN 14 (.mov (.t 39)))] [39]) (.seq (.region [ (oN 40 (.mov (.t 14))), (oN 41 (.mov (.t 12))), (oN 42 (.mov (.t 13))), (oN 43 (.idx 1 (.t 41) (.t 42))), (oN 44 (.load false 1 (.t 43))), (oN 45 (.call zc [(.t 44)])), (oN 46 (.call zt [(.t 40), (.t 45)]))] [40, 41, 42, 43, 44, 45, 46]) (.seq (.region [ (oN 47 (.fldaddr 1 1 (.t 8))), (oN 48 (.load false 1 (.t 47))), (oN 49 (.mov (.t 13))), (oN 50 (.idx 2 (.t 48) (.t 49))), (oN 51 (.fldaddr 1 1 (.t 50))), (oN 52 (.load false 1 (.t 51))), (oN 15 (.mov (.t 52)))] [47, 48, 49, 50, 51, 52]) (.seq (.region [ (oN 16 (.mknil 8))] []) (.seq (.seq (.region [ (oN 53 (.mov (.t 15))), (oN 54 (.len (.t 53))), (oN 55 (.bin .sub (.t 54) (.c (.int .i64 1)))), (oN 17 (.mov (.t 55)))] [53, 54, 55]) (.block 4 (.loop zcR))) (zcJ)))))))) (zcL)))
def zcN : ACode := .seq (.seq (.region [ (oN 26 (.mov (.t 10)))] [10]) (.cond (.t 26) (.skip) (.exit 0))) (.block 1 (.seq (.region [ (oN 10 (.mov (.c (.bool false))))] [26]) (.seq (.region [ (oN 28 (.load true 2 (.t 8))), (oN 29 (.mov (.t 1))), (oN 30 (.call zbm [(.t 28), (.t 29)])), (oN 27 (.mov (.t 30))), (oN 31 (.ext 0 (.t 27))), (oN 32 (.ext 1 (.t 27))), (oN 11 (.mov (.t 31))), (oN 12 (.mov (.t 32)))] [11, 27, 28, 29, 30, 31, 32]) (.seq (.region [ (oN 33 (.fldaddr 1 1 (.t 8))), (oN 34 (.load false 1 (.t 33))), (oN 35 (.len (.t 34))), (oN 36 (.mov (.c (.int .i64 0))))] [33, 34]) (.block 2 (.loop zcV))))))
def zbJ : ACode := .seq (.region [ (oN 91 (.load true 2 (.t 8))), (oN 92 (.mov (.t 9))), ⟨none, .store 2 (.t 4) (.t 91), none⟩, (oN 5 (.mov (.t 92))), (oN 6 (.mov (.c (.int .i64 0))))] [1, 8, 9, 10, 12, 35, 36, 91, 92]) (.ret)
def zg0 : ACode := .seq (.region [ (oN 2 (.rbox (.t 0))), (oN 4 (.alloc [.int .u32 0, .nilsl])), (oN 5 (.mov (.c (.int .i64 0)))), (oN 6 (.mov (.c (.int .i64 0))))] [0, 5, 6]) (.seq (.seq (.region [ (oN 18 (.load true 2 (.t 2))), (oN 19 (.call zeI [(.t 18)])), (oN 7 (.mov (.t 19)))] [18, 19]) (.seq (.region [ (oN 20 (.mov (.t 7))), (oN 21 (.bin .neq (.t 20) (.c (.int .i64 0))))] [20]) (.cond (.t 21) (.seq (.region [ (oN 22 (.build [.int .u32 0, .nilsl] [])), (oN 23 (.mov (.t 7))), ⟨none, .store 2 (.t 4) (.t 22), none⟩, (oN 5 (.mov (.c (.int .i64 0)))), (oN 6 (.mov (.t 23)))] [1, 2, 7, 21, 22, 23]) (.ret)) (.skip)))) (.seq (.region [ (oN 24 (.load true 2 (.t 2))), (oN 25 (.call zdB [(.t 24)])), (oN 8 (.alloc [.int .u32 0, .nilsl])), ⟨none, .store 2 (.t 8) (.t 25), none⟩] [2, 5, 6, 7, 21, 24, 25]) (.seq (.region [ (oN 9 (.mov (.c (.int .i64 0))))] []) (.seq (.seq (.region [ (oN 10 (.mov (.c (.bool true))))] []) (.block 0 (.loop zcN))) (zbJ)))))
def zd6 : List ARet := [.cell 4 true 2, .tmp 5, .tmp 6]
theorem zkw : zak Tryz.prog zc8 (qRo [2]) = some (zg0.strip, zd6, 93) := by kernel_rfl
def ziK : ACode := .seq (.seq (.region [ (oN 6 (.mov (.t 5))), (oN 7 (.mov (.t 0))), (oN 8 (.len (.t 7))), (oN 9 (.bin .lss (.t 6) (.t 8)))] [6, 7, 8]) (.cond (.t 9) (.skip) (.exit 0))) (.seq (.block 1 (.seq (.region [ (oN 12 (.mov (.t 0))), (oN 13 (.mov (.t 5))), (oN 14 (.idx 1 (.t 12) (.t 13))), (oN 15 (.load false 1 (.t 14))), (oN 16 (.mov (.t 1))), (oN 17 (.bin .eql (.t 15) (.t 16)))] [9, 12, 13, 14, 15, 16]) (.cond (.t 17) (.seq (.region [ (oN 4 (.mov (.c (.bool true))))] [0, 1, 5, 17]) (.ret)) (.skip)))) (.region [ (oN 10 (.mov (.t 5))), (oN 11 (.bin .add (.t 10) (.c (.int .i64 1)))), (oN 5 (.mov (.t 11)))] [4, 10, 11, 17]))
def zjn : ACode := .seq (.region [ (oN 4 (.mov (.c (.bool false))))] [0, 1, 5]) (.ret)
def zm8 : ACode := .seq (.region [ (oN 4 (.mov (.c (.bool false))))] [4]) (.seq (.seq (.region [ (oN 5 (.mov (.c (.int .i64 0))))] []) (.block 0 (.loop ziK))) (zjn))
def zjE : List ARet := [.tmp 4]
theorem ztc : zak Tryz.prog ziZ (qRo []) = some (zm8.strip, zjE, 18) := by kernel_rfl
def zcM : ACode := .seq (.region [ (oN 26 (.bin .lss (.t 25) (.t 24)))] []) (.seq (.cond (.t 26) (.skip) (.exit 0)) (.seq (.block 1 (.seq (.region [ (oN 27 (.mov (.t 25))), (oN 10 (.mov (.t 27)))] [26, 27]) (.draw ( .step (oN 28 (.mov (.t 8))) ( .step (oN 29 (.mov (.t 10))) ( .step (oN 30 (.mov (.t 9))) ( .step (oN 31 (.mov (.t 10))) ( .step (oN 32 (.mov (.t 6))) ( .step (oN 33 (.mov (.t 10))) ( .step (oN 37 (.mov (.t 7))) ( .step (oN 38 (.mov (.t 10))) ( .alt (oN 34 (.idx 1 (.t 32) (.t 33))) ( .alt (oN 35 (.load false 1 (.t 34))) ( .alt (oN 36 (.call zc [(.t 35)])) ( .alt (oN 39 (.idx 1 (.t 37) (.t 38))) ( .step (oN 40 (.load false 1 (.t 39))) ( .alt (oN 41 (.call zc [(.t 40)])) ( .step (oN 42 (.idx 1 (.t 28) (.t 29))) ( .alt ⟨none, .store 1 (.t 42) (.t 36), none⟩ ( .step (oN 43 (.idx 1 (.t 30) (.t 31))) ( .alt ⟨none, .store 1 (.t 43) (.t 41), none⟩ ( .done) ( .stop))) ( .stop))) ( .stop))) ( .stop)) ( .alt (oN 39 (.idx 1 (.t 37) (.t 38))) ( .alt (oN 36 (.call zc [(.t 35)])) ( .step (oN 40 (.load false 1 (.t 39))) ( .alt (oN 41 (.call zc [(.t 40)])) ( .step (oN 42 (.idx 1 (.t 28) (.t 29))) ( .alt ⟨none, .store 1 (.t 42) (.t 36), none⟩ ( .step (oN 43 (.idx 1 (.t 30) (.t 31))) ( .alt ⟨none, .store 1 (.t 43) (.t 41), none⟩ ( .done) ( .stop))) ( .stop))) ( .stop))) ( .alt (oN 40 (.load false 1 (.t 39))) ( .alt (oN 36 (.call zc [(.t 35)])) ( .alt (oN 41 (.call zc [(.t 40)])) ( .step (oN 42 (.idx 1 (.t 28) (.t 29))) ( .alt ⟨none, .store 1 (.t 42) (.t 36), none⟩ ( .step (oN 43 (.idx 1 (.t 30) (.t 31))) ( .alt ⟨none, .store 1 (.t 43) (.t 41), none⟩ ( .done) ( .stop))) ( .stop))) ( .stop)) ( .stop)) ( .stop))) ( .stop))) ( .alt (oN 39 (.idx 1 (.t 37) (.t 38))) ( .alt (oN 35 (.load false 1 (.t 34))) ( .alt (oN 36 (.call zc [(.t 35)])) ( .step (oN 40 (.load false 1 (.t 39))) ( .alt (oN 41 (.call zc [(.t 40)])) ( .step (oN 42 (.idx 1 (.t 28) (.t 29))) ( .alt ⟨none, .store 1 (.t 42) (.t 36), none⟩ ( .step (oN 43 (.idx 1 (.t 30) (.t 31))) ( .alt ⟨none, .store 1 (.t 43) (.t 41), none⟩ ( .done) ( .stop))) ( .stop))) ( .stop))) ( .alt (oN 40 (.load false 1 (.t 39))) ( .alt (oN 36 (.call zc [(.t 35)])) ( .alt (oN 41 (.call zc [(.t 40)])) ( .step (oN 42 (.idx 1 (.t 28) (.t 29))) ( .alt ⟨none, .store 1 (.t 42) (.t 36), none⟩ ( .step (oN 43 (.idx 1 (.t 30) (.t 31))) ( .alt ⟨none, .store 1 (.t 43) (.t 41), none⟩ ( .done) ( .stop))) ( .stop))) ( .stop)) ( .stop)) ( .stop))) ( .alt (oN 40 (.load false 1 (.t 39))) ( .alt (oN 35 (.load false 1 (.t 34))) ( .alt (oN 36 (.call zc [(.t 35)])) ( .alt (oN 41 (.call zc [(.t 40)])) ( .step (oN 42 (.idx 1 (.t 28) (.t 29))) ( .alt ⟨none, .store 1 (.t 42) (.t 36), none⟩ ( .step (oN 43 (.idx 1 (.t 30) (.t 31))) ( .alt ⟨none, .store 1 (.t 43) (.t 41), none⟩ ( .done) ( .stop))) ( .stop))) ( .stop)) ( .stop)) ( .stop)) ( .stop))) ( .stop))) ( .alt (oN 39 (.idx 1 (.t 37) (.t 38))) ( .alt (oN 34 (.idx 1 (.t 32) (.t 33))) ( .alt (oN 35 (.load false 1 (.t 34))) ( .alt (oN 36 (.call zc [(.t 35)])) ( .step (oN 40 (.load false 1 (.t 39))) ( .alt (oN 41 (.call zc [(.t 40)])) ( .step (oN 42 (.idx 1 (.t 28) (.t 29))) ( .alt ⟨none, .store 1 (.t 42) (.t 36), none⟩ ( .step (oN 43 (.idx 1 (.t 30) (.t 31))) ( .alt ⟨none, .store 1 (.t 43) (.t 41), none⟩ ( .done) ( .stop))) ( .stop))) ( .stop))) ( .alt (oN 40 (.load false 1 (.t 39))) ( .alt (oN 36 (.call zc [(.t 35)])) ( .alt (oN 41 (.call zc [(.t 40)])) ( .step (oN 42 (.idx 1 (.t 28) (.t 29))) ( .alt ⟨none, .store 1 (.t 42) (.t 36), none⟩ ( .step (oN 43 (.idx 1 (.t 30) (.t 31))) ( .alt ⟨none, .store 1 (.t 43) (.t 41), none⟩ ( .done) ( .stop))) ( .stop))) ( .stop)) ( .stop)) ( .stop))) ( .alt (oN 40 (.load false 1 (.t 39))) ( .alt (oN 35 (.load false 1 (.t 34))) ( .alt (oN 36 (.call zc [(.t 35)])) ( .alt (oN 41 (.call zc [(.t 40)])) ( .step (oN 42 (.idx 1 (.t 28) (.t 29))) ( .alt ⟨none, .store 1 (.t 42) (.t 36), none⟩ ( .step (oN 43 (.idx 1 (.t 30) (.t 31))) ( .alt ⟨none, .store 1 (.t 43) (.t 41), none⟩ ( .done) ( .stop))) ( .stop))) ( .stop)) ( .stop)) ( .stop)) ( .stop))) ( .alt (oN 40 (.load false 1 (.t 39))) ( .alt (oN 34 (.idx 1 (.t 32) (.t 33))) ( .alt (oN 35 (.load false 1 (.t 34))) ( .alt (oN 36 (.call zc [(.t 35)])) ( .alt (oN 41 (.call zc [(.t 40)])) ( .step (oN 42 (.idx 1 (.t 28) (.t 29))) ( .alt ⟨none, .store 1 (.t 42) (.t 36), none⟩ ( .step (oN 43 (.idx 1 (.t 30) (.t 31))) ( .alt ⟨none, .store 1 (.t 43) (.t 41), none⟩ ( .done) ( .stop))) ( .stop))) ( .stop)) ( .stop)) ( .stop)) ( .stop)) ( .stop))) ( .stop))))))))))) [10, 28, 29, 30, 31, 32, 33, 34, 35, 36, 37, 38, 39, 40, 41, 42, 43]))) (.region [ (oN 44 (.bin .add (.t 25) (.c (.int .i64 1)))), (oN 25 (.mov (.t 44)))] [44])))
def zcK : ACode := .seq (.region [ (oN 45 (.mov (.t 8))), (oN 46 (.mov (.t 9))), (oN 4 (.mov (.t 45))), (oN 5 (.mov (.t 46)))] [6, 7, 8, 9, 24, 25, 45, 46]) (.ret)
def zgJ : ACode := .seq (.region [ (oN 2 (.rbox (.t 0))), (oN 4 (.mknil 1)), (oN 5 (.mknil 1))] [0, 4, 5]) (.seq (.region [ (oN 12 (.load true 2 (.t 2))), (oN 13 (.mov (.t 1))), (oN 14 (.call zbm [(.t 12), (.t 13)])), (oN 11 (.mov (.t 14))), (oN 15 (.ext 0 (.t 11))), (oN 16 (.ext 1 (.t 11))), (oN 6 (.mov (.t 15))), (oN 7 (.mov (.t 16)))] [1, 2, 11, 12, 13, 14, 15, 16]) (.seq (.draw ( .step (oN 17 (.mov (.t 6))) ( .step (oN 18 (.len (.t 17))) ( .step (oN 20 (.mov (.t 7))) ( .step (oN 21 (.len (.t 20))) ( .alt (oN 19 (.mksl 1 24 [.nilsl] (.t 18) (.t 18))) ( .step (oN 8 (.mov (.t 19))) ( .alt (oN 22 (.mksl 1 24 [.nilsl] (.t 21) (.t 21))) ( .step (oN 9 (.mov (.t 22))) ( .done)) ( .stop))) ( .alt (oN 22 (.mksl 1 24 [.nilsl] (.t 21) (.t 21))) ( .alt (oN 19 (.mksl 1 24 [.nilsl] (.t 18) (.t 18))) ( .step (oN 8 (.mov (.t 19))) ( .step (oN 9 (.mov (.t 22))) ( .done))) ( .stop)) ( .stop))))))) [17, 18, 19, 20, 21, 22]) (.seq (.seq (.region [ (oN 23 (.mov (.t 6))), (oN 24 (.len (.t 23))), (oN 25 (.mov (.c (.int .i64 0))))] [23]) (.block 0 (.loop zcM))) (zcK))))
def zdZ : List ARet := [.tmp 4, .tmp 5]
theorem zkG : zak Tryz.prog zde (qRoL [2] [(6, [0, 1, 2, 3, 4, 5, 6, 7, 9, 10, 11, 12, 14, 15, 16, 17, 18, 19, 20, 21, 22, 23, 24, 25, 26, 27, 28, 29, 30, 31, 32, 33, 34, 35, 36, 37, 38, 39, 40, 41, 42, 43, 44, 45, 46, 47, 48, 49, 50, 51, 52, 53, 54, 55, 56, 57, 58, 59, 60, 61, 62, 63, 64, 65, 66, 67, 68, 69, 70, 71, 72, 73, 74, 75, 76, 77, 78, 79, 80, 81, 82, 83, 84, 85, 86, 87, 88, 89, 90, 91, 92, 93, 94, 95, 96, 97, 98, 99, 100, 101, 102, 103, 104, 105, 106, 107, 108, 109, 110, 111, 112, 113, 114, 115, 116, 117, 118, 119, 120, 121, 122, 123, 124, 125, 126, 127, 128, 129, 130, 131, 132, 133, 134, 135, 136, 137, 138, 139, 140, 141, 142, 143, 144, 145, 146, 147, 148, 149])]) = some (zgJ.strip, zdZ, 47) := by kernel_rfl
def zfs : ACode := .seq (.seq (.region [ (oN 11 (.mov (.t 5))), (oN 12 (.mov (.t 0))), (oN 13 (.len (.t 12))), (oN 14 (.bin .lss (.t 11) (.t 13)))] [11, 12, 13]) (.cond (.t 14) (.skip) (.exit 0))) (.seq (.block 1 (.seq (.draw ( .step (oN 17 (.mov (.t 0))) ( .step (oN 18 (.mov (.t 5))) ( .step (oN 19 (.idx 1 (.t 17) (.t 18))) ( .step (oN 20 (.load false 1 (.t 19))) ( .step (oN 21 (.mov (.t 1))) ( .step (oN 22 (.mov (.t 5))) ( .step (oN 23 (.idx 1 (.t 21) (.t 22))) ( .step (oN 24 (.load false 1 (.t 23))) ( .step (oN 25 (.bin .neq (.t 20) (.t 24))) ( .done)))))))))) [14, 17, 18, 19, 20, 21, 22, 23, 24]) (.cond (.t 25) (.seq (.region [ (oN 4 (.mov (.c (.bool false))))] [0, 1, 5, 25]) (.ret)) (.skip)))) (.region [ (oN 15 (.mov (.t 5))), (oN 16 (.bin .add (.t 15) (.c (.int .i64 1)))), (oN 5 (.mov (.t 16)))] [4, 15, 16, 25]))
def zfm : ACode := .seq (.region [ (oN 4 (.mov (.c (.bool true))))] [0, 1, 5]) (.ret)
def zhy : ACode := .seq (.region [ (oN 4 (.mov (.c (.bool false))))] [4]) (.seq (.seq (.region [ (oN 6 (.mov (.t 0))), (oN 7 (.len (.t 6))), (oN 8 (.mov (.t 1))), (oN 9 (.len (.t 8))), (oN 10 (.bin .neq (.t 7) (.t 9)))] [6, 7, 8, 9]) (.cond (.t 10) (.seq (.region [ (oN 4 (.mov (.c (.bool false))))] [0, 1, 10]) (.ret)) (.skip))) (.seq (.seq (.region [ (oN 5 (.mov (.c (.int .i64 0))))] [4, 10]) (.block 0 (.loop zfs))) (zfm)))
def zdm : List ARet := [.tmp 4]
theorem zlA : zak Tryz.prog zcA (qRo []) = some (zhy.strip, zdm, 26) := by kernel_rfl
def zfe : ACode := .seq (.region [ (oN 11 (.bin .lss (.t 10) (.t 9)))] []) (.seq (.cond (.t 11) (.skip) (.exit 0)) (.seq (.block 1 (.seq (.region [ (oN 12 (.idx 5 (.t 8) (.t 10))), (oN 13 (.load true 5 (.t 12))), (oN 5 (.alloc [.int .i64 0, .int .u32 0, .int .i64 0, .int .i64 0, .nilsl])), ⟨none, .store 5 (.t 5) (.t 13), none⟩] [11, 12, 13]) (.region [ (oN 14 (.mov (.t 3))), (oN 15 (.load true 5 (.t 5))), (oN 16 (.call zk1 [(.t 15)])), (oN 17 (.call zt [(.t 14), (.t 16)]))] [5, 14, 15, 16, 17]))) (.region [ (oN 18 (.bin .add (.t 10) (.c (.int .i64 1)))), (oN 10 (.mov (.t 18)))] [18])))
def zeW : ACode := .seq (.region [ (oN 19 (.mov (.t 3))), (oN 20 (.call zc [(.t 19)])), (oN 2 (.mov (.t 20)))] [3, 8, 9, 10, 19, 20]) (.ret)
def zgT : ACode := .seq (.region [ (oN 1 (.rbox (.t 0))), (oN 2 (.mknil 1))] [0, 2]) (.seq (.region [ (oN 6 (.xop .mkmap [])), (oN 3 (.mov (.t 6)))] [6]) (.seq (.seq (.region [ (oN 7 (.fldaddr 6 1 (.t 1))), (oN 8 (.load false 1 (.t 7))), (oN 9 (.len (.t 8))), (oN 10 (.mov (.c (.int .i64 0))))] [1, 7]) (.block 0 (.loop zfe))) (zeW)))
def zgI : List ARet := [.tmp 2]
theorem zkv : zak Tryz.prog zca (qRo [1]) = some (zgT.strip, zgI, 21) := by kernel_rfl
def zgL : ACode := .seq (.region [ (oN 1 (.rbox (.t 0))), (oN 2 (.mknil 1))] [0, 2]) (.seq (.seq (.region [ (oN 3 (.fldaddr 0 1 (.t 1))), (oN 4 (.load false 1 (.t 3))), (oN 5 (.bin .eql (.t 4) (.c (.int .i64 1)))), (oN 6 (.mov (.t 5))), (oG 7 6 false (.fldaddr 0 1 (.t 1))), (oG 8 6 false (.load false 1 (.t 7))), (oG 9 6 false (.bin .eql (.t 8) (.c (.int .i64 3)))), (oN 10 (.pick (.t 6) (.c (.bool true)) (.t 9)))] [3, 4, 5, 6, 7, 8, 9]) (.cond (.t 10) (.seq (.region [ (oN 11 (.fldaddr 1 1 (.t 1))), (oN 12 (.load false 1 (.t 11))), (oN 13 (.buildSl 1 1 [.int .i64 0] [(0, (.t 12))])), (oN 2 (.mov (.t 13)))] [1, 10, 11, 12, 13]) (.ret)) (.skip))) (.seq (.region [ (oN 2 (.mknil 1))] [1, 10]) (.ret)))
def zcF : List ARet := [.tmp 2]
theorem zkC : zak Tryz.prog zcd (qRo [1]) = some (zgL.strip, zcF, 14) := by kernel_rfl
def zge : ACode := .seq (.region [ (oN 1 (.rbox (.t 0))), (oN 2 (.mknil 1))] [0, 2]) (.seq (.seq (.region [ (oN 3 (.fldaddr 1 1 (.t 1))), (oN 4 (.load false 1 (.t 3))), (oN 5 (.len (.t 4))), (oN 6 (.bin .eql (.t 5) (.c (.int .i64 0))))] [3, 4, 5]) (.cond (.t 6) (.seq (.region [ (oN 2 (.mknil 1))] [1, 6]) (.ret)) (.skip))) (.seq (.region [ (oN 7 (.fldaddr 1 1 (.t 1))), (oN 8 (.load false 1 (.t 7))), (oN 9 (.fldaddr 1 1 (.t 1))), (oN 10 (.load false 1 (.t 9))), (oN 11 (.len (.t 10))), (oN 12 (.bin .sub (.t 11) (.c (.int .i64 1)))), (oN 13 (.idx 8 (.t 8) (.t 12))), (oN 14 (.load true 8 (.t 13))), (oN 15 (.call zes [(.t 14)])), (oN 2 (.mov (.t 15)))] [1, 6, 7, 8, 9, 10, 11, 12, 13, 14, 15]) (.ret)))
def zdD : List ARet := [.tmp 2]
theorem zjJ : zak Tryz.prog zd2 (qRo [1]) = some (zge.strip, zdD, 16) := by kernel_rfl
def zhI : ACode := .seq (.seq (.region [ (oN 6 (.mov (.t 5))), (oN 7 (.mov (.t 1))), (oN 8 (.len (.t 7))), (oN 9 (.bin .lss (.t 6) (.t 8)))] [6, 7, 8]) (.cond (.t 9) (.skip) (.exit 0))) (.seq (.block 1 (.region [ (oN 12 (.mov (.t 0))), (oN 13 (.mov (.t 1))), (oN 14 (.mov (.t 5))), (oN 15 (.idx 1 (.t 13) (.t 14))), (oN 16 (.load false 1 (.t 15))), (oN 17 (.call zdU [(.t 12), (.t 16)])), (oN 0 (.mov (.t 17)))] [9, 12, 13, 14, 15, 16, 17])) (.region [ (oN 10 (.mov (.t 5))), (oN 11 (.bin .add (.t 10) (.c (.int .i64 1)))), (oN 5 (.mov (.t 11)))] [10, 11]))
def zhe : ACode := .seq (.region [ (oN 18 (.mov (.t 0))), (oN 4 (.mov (.t 18)))] [0, 1, 5, 18]) (.ret)
def zj7 : ACode := .seq (.region [ (oN 4 (.mknil 1))] [4]) (.seq (.seq (.region [ (oN 5 (.mov (.c (.int .i64 0))))] []) (.block 0 (.loop zhI))) (zhe))
def zkk : List ARet := [.tmp 4]
theorem zpG : zak Tryz.prog zeQ (qRo []) = some (zj7.strip, zkk, 19) := by kernel_rfl
def zgG : ACode := .seq (.seq (.region [ (oN 7 (.mov (.t 5))), (oN 8 (.mov (.t 0))), (oN 9 (.len (.t 8))), (oN 10 (.bin .lss (.t 7) (.t 9))), (oN 11 (.mov (.t 10))), (oG 12 11 true (.mov (.t 0))), (oG 13 11 true (.mov (.t 5))), (oG 14 11 true (.idx 1 (.t 12) (.t 13))), (oG 15 11 true (.load false 1 (.t 14))), (oG 16 11 true (.mov (.t 1))), (oG 17 11 true (.bin .lss (.t 15) (.t 16))), (oN 18 (.pick (.t 11) (.t 17) (.c (.bool false))))] [7, 8, 9, 10, 11, 12, 13, 14, 15, 16, 17]) (.cond (.t 18) (.skip) (.exit 0))) (.block 1 (.region [ (oN 19 (.mov (.t 5))), (oN 20 (.bin .add (.t 19) (.c (.int .i64 1)))), (oN 5 (.mov (.t 20)))] [18, 19, 20]))
def zd0 : ACode := .seq (.seq (.region [ (oN 21 (.mov (.t 5))), (oN 22 (.mov (.t 0))), (oN 23 (.len (.t 22))), (oN 24 (.bin .lss (.t 21) (.t 23))), (oN 25 (.mov (.t 24))), (oG 26 25 true (.mov (.t 0))), (oG 27 25 true (.mov (.t 5))), (oG 28 25 true (.idx 1 (.t 26) (.t 27))), (oG 29 25 true (.load false 1 (.t 28))), (oG 30 25 true (.mov (.t 1))), (oG 31 25 true (.bin .eql (.t 29) (.t 30))), (oN 32 (.pick (.t 25) (.t 31) (.c (.bool false))))] [21, 22, 23, 24, 25, 26, 27, 28, 29, 30, 31]) (.cond (.t 32) (.seq (.region [ (oN 33 (.mov (.t 0))), (oN 4 (.mov (.t 33)))] [0, 1, 5, 32, 33]) (.ret)) (.skip))) (.seq (.region [ (oN 6 (.mknil 1))] [4, 32]) (.seq (.region [ (oN 34 (.mov (.t 6))), (oN 35 (.mov (.t 0))), (oN 36 (.mov (.t 5))), (oN 37 (.slice 1 (.t 35) none (some (.t 36)))), (oN 38 (.append 1 8 (.t 34) (.t 37))), (oN 6 (.mov (.t 38)))] [34, 35, 36, 37, 38]) (.seq (.region [ (oN 39 (.mov (.t 6))), (oN 40 (.mov (.t 1))), (oN 41 (.buildSl 1 1 [.int .i64 0] [(0, (.t 40))])), (oN 42 (.append 1 8 (.t 39) (.t 41))), (oN 6 (.mov (.t 42)))] [1, 39, 40, 41, 42]) (.seq (.region [ (oN 43 (.mov (.t 6))), (oN 44 (.mov (.t 0))), (oN 45 (.mov (.t 5))), (oN 46 (.slice 1 (.t 44) (some (.t 45)) none)), (oN 47 (.append 1 8 (.t 43) (.t 46))), (oN 4 (.mov (.t 47)))] [0, 5, 6, 43, 44, 45, 46, 47]) (.ret)))))
def ziW : ACode := .seq (.region [ (oN 4 (.mknil 1))] [4]) (.seq (.region [ (oN 5 (.mov (.c (.int .i64 0))))] []) (.seq (.block 0 (.loop zgG)) (zd0)))
def zeD : List ARet := [.tmp 4]
theorem znt : zak Tryz.prog zdU (qRo []) = some (ziW.strip, zeD, 48) := by kernel_rfl
def zed : ACode := .seq (.seq (.region [ (oN 59 (.mov (.t 9))), (oN 60 (.fldaddr 6 1 (.t 8))), (oN 61 (.load false 1 (.t 60))), (oN 62 (.len (.t 61))), (oN 63 (.bin .lss (.t 59) (.t 62)))] [59, 60, 61, 62]) (.cond (.t 63) (.skip) (.exit 4))) (.seq (.block 5 (.seq (.region [ (oN 66 (.fldaddr 6 1 (.t 8))), (oN 67 (.load false 1 (.t 66))), (oN 68 (.mov (.t 9))), (oN 69 (.idx 5 (.t 67) (.t 68))), (oN 70 (.load true 5 (.t 69))), (oN 71 (.mov (.t 1))), (oN 72 (.mov (.t 5))), (oN 73 (.call zgA [(.t 70), (.t 71), (.t 72)])), (oN 5 (.mov (.t 73)))] [63, 66, 67, 68, 69, 70, 71, 72, 73]) (.seq (.region [ (oN 74 (.mov (.t 5))), (oN 75 (.bin .lss (.t 74) (.c (.int .i64 0))))] [74]) (.cond (.t 75) (.seq (.region [ (oN 4 (.mov (.c (.bool false))))] [1, 2, 5, 6, 7, 8, 9, 75]) (.ret)) (.skip))))) (.region [ (oN 64 (.mov (.t 9))), (oN 65 (.bin .add (.t 64) (.c (.int .i64 1)))), (oN 9 (.mov (.t 65)))] [4, 64, 65, 75]))
def zef : ACode := .region [ (oN 38 (.mov (.t 7))), (oN 39 (.bin .add (.t 38) (.c (.int .i64 1)))), (oN 7 (.mov (.t 39)))] [8, 9, 38, 39]
def zep : ACode := .seq (.seq (.region [ (oN 29 (.mov (.t 7))), (oN 30 (.fldaddr 1 1 (.t 2))), (oN 31 (.load false 1 (.t 30))), (oN 32 (.mov (.t 6))), (oN 33 (.idx 2 (.t 31) (.t 32))), (oN 34 (.fldaddr 1 1 (.t 33))), (oN 35 (.load false 1 (.t 34))), (oN 36 (.len (.t 35))), (oN 37 (.bin .lss (.t 29) (.t 36)))] [29, 30, 31, 32, 33, 34, 35, 36]) (.cond (.t 37) (.skip) (.exit 2))) (.seq (.block 3 (.seq (.region [ (oN 40 (.fldaddr 1 1 (.t 2))), (oN 41 (.load false 1 (.t 40))), (oN 42 (.mov (.t 6))), (oN 43 (.idx 2 (.t 41) (.t 42))), (oN 44 (.fldaddr 1 1 (.t 43))), (oN 45 (.load false 1 (.t 44))), (oN 46 (.mov (.t 7))), (oN 47 (.idx 8 (.t 45) (.t 46))), (oN 48 (.load true 8 (.t 47))), (oN 8 (.alloc [.int .i64 0, .int .i64 0, .int .i64 0, .int .i64 0, .int .i64 0, .int .u32 0, .nilsl, .nilsl])), ⟨none, .store 8 (.t 8) (.t 48), none⟩] [37, 40, 41, 42, 43, 44, 45, 46, 47, 48]) (.seq (.seq (.region [ (oN 49 (.fldaddr 6 1 (.t 8))), (oN 50 (.load false 1 (.t 49))), (oN 51 (.len (.t 50))), (oN 52 (.bin .gtr (.t 51) (.c (.int .i64 4)))), (oN 53 (.mov (.t 52))), (oG 54 53 false (.fldaddr 7 1 (.t 8))), (oG 55 53 false (.load false 1 (.t 54))), (oG 56 53 false (.len (.t 55))), (oG 57 53 false (.bin .gtr (.t 56) (.c (.int .i64 100)))), (oN 58 (.pick (.t 53) (.c (.bool true)) (.t 57)))] [49, 50, 51, 52, 53, 54, 55, 56, 57]) (.cond (.t 58) (.seq (.region [ (oN 4 (.mov (.c (.bool false))))] [1, 2, 5, 6, 7, 8, 58]) (.ret)) (.skip))) (.seq (.region [ (oN 9 (.mov (.c (.int .i64 0))))] [4, 58]) (.block 4 (.loop zed)))))) (zef))
def zeq : ACode := .region [ (oN 19 (.mov (.t 6))), (oN 20 (.bin .add (.t 19) (.c (.int .i64 1)))), (oN 6 (.mov (.t 20)))] [7, 19, 20]
def zej : ACode := .seq (.seq (.region [ (oN 14 (.mov (.t 6))), (oN 15 (.fldaddr 1 1 (.t 2))), (oN 16 (.load false 1 (.t 15))), (oN 17 (.len (.t 16))), (oN 18 (.bin .lss (.t 14) (.t 17)))] [14, 15, 16, 17]) (.cond (.t 18) (.skip) (.exit 0))) (.seq (.block 1 (.seq (.seq (.region [ (oN 21 (.fldaddr 1 1 (.t 2))), (oN 22 (.load false 1 (.t 21))), (oN 23 (.mov (.t 6))), (oN 24 (.idx 2 (.t 22) (.t 23))), (oN 25 (.fldaddr 1 1 (.t 24))), (oN 26 (.load false 1 (.t 25))), (oN 27 (.len (.t 26))), (oN 28 (.bin .gtr (.t 27) (.c (.int .i64 1100))))] [18, 21, 22, 23, 24, 25, 26, 27]) (.cond (.t 28) (.seq (.region [ (oN 4 (.mov (.c (.bool false))))] [1, 2, 5, 6, 28]) (.ret)) (.skip))) (.seq (.region [ (oN 7 (.mov (.c (.int .i64 0))))] [4, 28]) (.block 2 (.loop zep))))) (zeq))
def zeg : ACode := .seq (.region [ (oN 4 (.mov (.c (.bool true))))] [1, 2, 5, 6]) (.ret)
def zga : ACode := .seq (.region [ (oN 2 (.rbox (.t 0))), (oN 4 (.mov (.c (.bool false))))] [0, 4]) (.seq (.region [ (oN 5 (.mov (.c (.int .i64 20000))))] []) (.seq (.seq (.region [ (oN 10 (.fldaddr 1 1 (.t 2))), (oN 11 (.load false 1 (.t 10))), (oN 12 (.len (.t 11))), (oN 13 (.bin .gtr (.t 12) (.c (.int .i64 300))))] [10, 11, 12]) (.cond (.t 13) (.seq (.region [ (oN 4 (.mov (.c (.bool false))))] [1, 2, 5, 13]) (.ret)) (.skip))) (.seq (.seq (.region [ (oN 6 (.mov (.c (.int .i64 0))))] [4, 13]) (.block 0 (.loop zej))) (zeg))))
def zaw : List ARet := [.tmp 4]
theorem zjq : zak Tryz.prog zd5 (qRo [2]) = some (zga.strip, zaw, 76) := by kernel_rfl
def zb8 : ACode := .seq (.region [ (oN 36 (.bin .lss (.t 35) (.t 34)))] []) (.seq (.cond (.t 36) (.skip) (.exit 4)) (.seq (.block 5 (.seq (.region [ (oN 37 (.idx 5 (.t 33) (.t 35))), (oN 38 (.load true 5 (.t 37))), (oN 11 (.alloc [.int .i64 0, .int .u32 0, .int .i64 0, .int .i64 0, .nilsl])), ⟨none, .store 5 (.t 11) (.t 38), none⟩] [36, 37, 38]) (.region [ (oN 39 (.mov (.t 9))), (oN 40 (.load true 5 (.t 11))), (oN 41 (.call zcG [(.t 40)])), (oN 42 (.buildSl 5 1 [.int .i64 0, .int .u32 0, .int .i64 0, .int .i64 0, .nilsl] [(0, (.t 41))])), (oN 43 (.append 5 56 (.t 39) (.t 42))), (oN 9 (.mov (.t 43)))] [11, 39, 40, 41, 42, 43]))) (.region [ (oN 44 (.bin .add (.t 35) (.c (.int .i64 1)))), (oN 35 (.mov (.t 44)))] [44])))
def zce : ACode := .seq (.region [ (oN 45 (.mov (.t 9))), (oN 46 (.fldaddr 7 1 (.t 8))), (oN 47 (.load false 1 (.t 46))), (oN 48 (.call zbe [(.t 47)])), (oN 49 (.fldaddr 6 1 (.t 8))), ⟨none, .store 1 (.t 49) (.t 45), none⟩, (oN 50 (.fldaddr 7 1 (.t 8))), ⟨none, .store 1 (.t 50) (.t 48), none⟩] [9, 33, 34, 35, 45, 46, 47, 48, 49, 50]) (.region [ (oN 51 (.fldaddr 1 1 (.t 6))), (oN 52 (.load false 1 (.t 51))), (oN 53 (.load true 8 (.t 8))), (oN 54 (.buildSl 8 1 [.int .i64 0, .int .i64 0, .int .i64 0, .int .i64 0, .int .i64 0, .int .u32 0, .nilsl, .nilsl] [(0, (.t 53))])), (oN 55 (.append 8 96 (.t 52) (.t 54))), (oN 56 (.fldaddr 1 1 (.t 6))), ⟨none, .store 1 (.t 56) (.t 55), none⟩] [8, 51, 52, 53, 54, 55, 56])
def zb9 : ACode := .region [ (oN 57 (.bin .add (.t 28) (.c (.int .i64 1)))), (oN 28 (.mov (.t 57)))] [57]
def zb4 : ACode := .seq (.region [ (oN 29 (.bin .lss (.t 28) (.t 27)))] []) (.seq (.cond (.t 29) (.skip) (.exit 2)) (.seq (.block 3 (.seq (.region [ (oN 30 (.idx 8 (.t 26) (.t 28))), (oN 31 (.load true 8 (.t 30))), (oN 8 (.alloc [.int .i64 0, .int .i64 0, .int .i64 0, .int .i64 0, .int .i64 0, .int .u32 0, .nilsl, .nilsl])), ⟨none, .store 8 (.t 8) (.t 31), none⟩] [29, 30, 31]) (.seq (.region [ (oN 9 (.mknil 5))] []) (.seq (.seq (.region [ (oN 32 (.fldaddr 6 1 (.t 8))), (oN 33 (.load false 1 (.t 32))), (oN 34 (.len (.t 33))), (oN 35 (.mov (.c (.int .i64 0))))] [32]) (.block 4 (.loop zb8))) (zce))))) (zb9)))
def zcb : ACode := .region [ (oN 58 (.fldaddr 1 1 (.t 3))), (oN 59 (.load false 1 (.t 58))), (oN 60 (.load true 2 (.t 6))), (oN 61 (.buildSl 2 1 [.int .u32 0, .nilsl] [(0, (.t 60))])), (oN 62 (.append 2 32 (.t 59) (.t 61))), (oN 63 (.fldaddr 1 1 (.t 3))), ⟨none, .store 1 (.t 63) (.t 62), none⟩] [6, 26, 27, 28, 58, 59, 60, 61, 62, 63]
def zb6 : ACode := .region [ (oN 64 (.bin .add (.t 18) (.c (.int .i64 1)))), (oN 18 (.mov (.t 64)))] [64]
def zdM : ACode := .seq (.region [ (oN 19 (.bin .lss (.t 18) (.t 17)))] []) (.seq (.cond (.t 19) (.skip) (.exit 0)) (.seq (.block 1 (.seq (.region [ (oN 20 (.idx 2 (.t 16) (.t 18))), (oN 21 (.load true 2 (.t 20))), (oN 5 (.alloc [.int .u32 0, .nilsl])), ⟨none, .store 2 (.t 5) (.t 21), none⟩] [19, 20, 21]) (.seq (.region [ (oN 22 (.fldaddr 0 1 (.t 5))), (oN 23 (.load false 1 (.t 22))), (oN 24 (.build [.int .u32 0, .nilsl] [(0, 1, (.t 23))])), (oN 6 (.alloc [.int .u32 0, .nilsl])), ⟨none, .store 2 (.t 6) (.t 24), none⟩] [22, 23, 24]) (.seq (.seq (.region [ (oN 25 (.fldaddr 1 1 (.t 5))), (oN 26 (.load false 1 (.t 25))), (oN 27 (.len (.t 26))), (oN 28 (.mov (.c (.int .i64 0))))] [5, 25]) (.block 2 (.loop zb4))) (zcb))))) (zb6)))
def zdT : ACode := .seq (.region [ (oN 65 (.load true 2 (.t 3))), ⟨none, .store 2 (.t 2) (.t 65), none⟩] [3, 16, 17, 18, 65]) (.ret)
def zfk : ACode := .seq (.region [ (oN 1 (.rbox (.t 0))), (oN 2 (.alloc [.int .u32 0, .nilsl]))] [0]) (.seq (.region [ (oN 12 (.fldaddr 0 1 (.t 1))), (oN 13 (.load false 1 (.t 12))), (oN 14 (.build [.int .u32 0, .nilsl] [(0, 1, (.t 13))])), (oN 3 (.alloc [.int .u32 0, .nilsl])), ⟨none, .store 2 (.t 3) (.t 14), none⟩] [12, 13, 14]) (.seq (.seq (.region [ (oN 15 (.fldaddr 1 1 (.t 1))), (oN 16 (.load false 1 (.t 15))), (oN 17 (.len (.t 16))), (oN 18 (.mov (.c (.int .i64 0))))] [1, 15]) (.block 0 (.loop zdM))) (zdT)))
def zfw : List ARet := [.cell 2 true 2]
theorem zi0 : zak Tryz.prog zdB (qRo [1]) = some (zfk.strip, zfw, 66) := by kernel_rfl
def zbs : ACode := .seq (.region [ (oN 28 (.bin .lss (.t 27) (.t 26)))] []) (.seq (.cond (.t 28) (.skip) (.exit 0)) (.seq (.block 1 (.seq (.region [ (oN 29 (.mov (.t 27))), (oN 8 (.mov (.t 29)))] [28, 29]) (.region [ (oN 30 (.mov (.t 6))), (oN 31 (.mov (.t 8))), (oN 32 (.mov (.t 7))), (oN 33 (.mov (.t 8))), (oN 34 (.xop .mkmap [])), (oN 35 (.xop .mkmap [])), (oN 36 (.idx 1 (.t 30) (.t 31))), ⟨none, .store 1 (.t 36) (.t 34), none⟩, (oN 37 (.idx 1 (.t 32) (.t 33))), ⟨none, .store 1 (.t 37) (.t 35), none⟩] [8, 30, 31, 32, 33, 34, 35, 36, 37]))) (.region [ (oN 38 (.bin .add (.t 27) (.c (.int .i64 1)))), (oN 27 (.mov (.t 38)))] [38])))
def zbt : ACode := .seq (.region [ (oN 65 (.bin .lss (.t 64) (.t 63)))] []) (.seq (.cond (.t 65) (.skip) (.exit 6)) (.seq (.block 7 (.seq (.region [ (oN 66 (.idx 1 (.t 62) (.t 64))), (oN 67 (.load false 1 (.t 66))), (oN 13 (.mov (.t 67)))] [65, 66, 67]) (.seq (.region [ (oN 68 (.mov (.t 13))), (oN 69 (.bin .geq (.t 68) (.c (.int .i64 0)))), (oN 70 (.mov (.t 69))), (oG 71 70 true (.mov (.t 13))), (oG 72 70 true (.fldaddr 1 1 (.t 2))), (oG 73 70 true (.load false 1 (.t 72))), (oG 74 70 true (.len (.t 73))), (oG 75 70 true (.bin .lss (.t 71) (.t 74))), (oN 76 (.pick (.t 70) (.t 75) (.c (.bool false))))] [68, 69, 70, 71, 72, 73, 74, 75]) (.cond (.t 76) (.draw ( .step (oN 77 (.mov (.t 7))) ( .step (oN 78 (.mov (.t 10))) ( .step (oN 81 (.mov (.t 6))) ( .step (oN 82 (.mov (.t 13))) ( .alt (oN 79 (.idx 1 (.t 77) (.t 78))) ( .alt (oN 80 (.load false 1 (.t 79))) ( .alt (oN 83 (.idx 1 (.t 81) (.t 82))) ( .alt (oN 84 (.load false 1 (.t 83))) ( .alt (oN 85 (.call zc [(.t 84)])) ( .alt (oN 86 (.call zt [(.t 80), (.t 85)])) ( .done) ( .stop)) ( .stop)) ( .stop)) ( .stop)) ( .alt (oN 83 (.idx 1 (.t 81) (.t 82))) ( .alt (oN 80 (.load false 1 (.t 79))) ( .alt (oN 84 (.load false 1 (.t 83))) ( .alt (oN 85 (.call zc [(.t 84)])) ( .alt (oN 86 (.call zt [(.t 80), (.t 85)])) ( .done) ( .stop)) ( .stop)) ( .stop)) ( .alt (oN 84 (.load false 1 (.t 83))) ( .alt (oN 80 (.load false 1 (.t 79))) ( .alt (oN 85 (.call zc [(.t 84)])) ( .alt (oN 86 (.call zt [(.t 80), (.t 85)])) ( .done) ( .stop)) ( .stop)) ( .alt (oN 85 (.call zc [(.t 84)])) ( .step (oN 80 (.load false 1 (.t 79))) ( .alt (oN 86 (.call zt [(.t 80), (.t 85)])) ( .done) ( .stop))) ( .stop))) ( .stop))) ( .stop))) ( .alt (oN 83 (.idx 1 (.t 81) (.t 82))) ( .alt (oN 79 (.idx 1 (.t 77) (.t 78))) ( .alt (oN 80 (.load false 1 (.t 79))) ( .alt (oN 84 (.load false 1 (.t 83))) ( .alt (oN 85 (.call zc [(.t 84)])) ( .alt (oN 86 (.call zt [(.t 80), (.t 85)])) ( .done) ( .stop)) ( .stop)) ( .stop)) ( .alt (oN 84 (.load false 1 (.t 83))) ( .alt (oN 80 (.load false 1 (.t 79))) ( .alt (oN 85 (.call zc [(.t 84)])) ( .alt (oN 86 (.call zt [(.t 80), (.t 85)])) ( .done) ( .stop)) ( .stop)) ( .alt (oN 85 (.call zc [(.t 84)])) ( .step (oN 80 (.load false 1 (.t 79))) ( .alt (oN 86 (.call zt [(.t 80), (.t 85)])) ( .done) ( .stop))) ( .stop))) ( .stop))) ( .alt (oN 84 (.load false 1 (.t 83))) ( .alt (oN 79 (.idx 1 (.t 77) (.t 78))) ( .alt (oN 80 (.load false 1 (.t 79))) ( .alt (oN 85 (.call zc [(.t 84)])) ( .alt (oN 86 (.call zt [(.t 80), (.t 85)])) ( .done) ( .stop)) ( .stop)) ( .alt (oN 85 (.call zc [(.t 84)])) ( .step (oN 80 (.load false 1 (.t 79))) ( .alt (oN 86 (.call zt [(.t 80), (.t 85)])) ( .done) ( .stop))) ( .stop))) ( .alt (oN 85 (.call zc [(.t 84)])) ( .alt (oN 79 (.idx 1 (.t 77) (.t 78))) ( .step (oN 80 (.load false 1 (.t 79))) ( .alt (oN 86 (.call zt [(.t 80), (.t 85)])) ( .done) ( .stop))) ( .stop)) ( .stop))) ( .stop))) ( .stop))))))) [13, 76, 77, 78, 79, 80, 81, 82, 83, 84, 85, 86]) (.skip))))) (.region [ (oN 87 (.bin .add (.t 64) (.c (.int .i64 1)))), (oN 64 (.mov (.t 87)))] [13, 76, 87])))
def zbq : ACode := .seq (.seq (.region [ (oN 99 (.mov (.t 15))), (oN 100 (.bin .geq (.t 99) (.c (.int .i64 0))))] [99]) (.cond (.t 100) (.skip) (.exit 8))) (.seq (.block 9 (.region [ (oN 103 (.mov (.t 14))), (oN 104 (.mov (.t 11))), (oN 105 (.mov (.t 15))), (oN 106 (.idx 8 (.t 104) (.t 105))), (oN 107 (.load true 8 (.t 106))), (oN 108 (.mov (.t 1))), (oN 109 (.call zdh [(.t 103), (.t 107), (.t 108)]))] [100, 103, 104, 105, 106, 107, 108, 109])) (.region [ (oN 101 (.mov (.t 15))), (oN 102 (.bin .sub (.t 101) (.c (.int .i64 1)))), (oN 15 (.mov (.t 102)))] [101, 102]))
def zaa : ACode := .seq (.draw ( .step (oN 110 (.mov (.t 6))) ( .step (oN 111 (.mov (.t 10))) ( .step (oN 114 (.mov (.t 14))) ( .alt (oN 112 (.idx 1 (.t 110) (.t 111))) ( .alt (oN 113 (.load false 1 (.t 112))) ( .alt (oN 115 (.call zc [(.t 114)])) ( .alt (oN 116 (.call zt [(.t 113), (.t 115)])) ( .done) ( .stop)) ( .stop)) ( .alt (oN 115 (.call zc [(.t 114)])) ( .step (oN 113 (.load false 1 (.t 112))) ( .alt (oN 116 (.call zt [(.t 113), (.t 115)])) ( .done) ( .stop))) ( .stop))) ( .alt (oN 115 (.call zc [(.t 114)])) ( .alt (oN 112 (.idx 1 (.t 110) (.t 111))) ( .step (oN 113 (.load false 1 (.t 112))) ( .alt (oN 116 (.call zt [(.t 113), (.t 115)])) ( .done) ( .stop))) ( .stop)) ( .stop)))))) [11, 14, 15, 110, 111, 112, 113, 114, 115]) (.cond (.t 116) (.region [ (oN 9 (.mov (.c (.bool true))))] [116]) (.skip))
def zae : ACode := .seq (.region [ (oN 88 (.xop .mkmap [])), (oN 14 (.mov (.t 88)))] [62, 63, 64, 88]) (.seq (.region [ (oN 89 (.mov (.t 14))), (oN 90 (.mov (.t 7))), (oN 91 (.mov (.t 10))), (oN 92 (.idx 1 (.t 90) (.t 91))), (oN 93 (.load false 1 (.t 92))), (oN 94 (.call zc [(.t 93)])), (oN 95 (.call zt [(.t 89), (.t 94)]))] [89, 90, 91, 92, 93, 94, 95]) (.seq (.seq (.region [ (oN 96 (.mov (.t 11))), (oN 97 (.len (.t 96))), (oN 98 (.bin .sub (.t 97) (.c (.int .i64 1)))), (oN 15 (.mov (.t 98)))] [96, 97, 98]) (.block 8 (.loop zbq))) (zaa)))
def zQ : ACode := .region [ (oN 46 (.mov (.t 10))), (oN 47 (.bin .sub (.t 46) (.c (.int .i64 1)))), (oN 10 (.mov (.t 47)))] [46, 47, 116]
def zbu : ACode := .seq (.seq (.region [ (oN 44 (.mov (.t 10))), (oN 45 (.bin .geq (.t 44) (.c (.int .i64 0))))] [44]) (.cond (.t 45) (.skip) (.exit 4))) (.seq (.block 5 (.seq (.region [ (oN 48 (.fldaddr 1 1 (.t 2))), (oN 49 (.load false 1 (.t 48))), (oN 50 (.mov (.t 10))), (oN 51 (.idx 2 (.t 49) (.t 50))), (oN 52 (.fldaddr 1 1 (.t 51))), (oN 53 (.load false 1 (.t 52))), (oN 11 (.mov (.t 53)))] [45, 48, 49, 50, 51, 52, 53]) (.seq (.seq (.region [ (oN 54 (.mov (.t 11))), (oN 55 (.len (.t 54))), (oN 56 (.bin .eql (.t 55) (.c (.int .i64 0))))] [54, 55]) (.cond (.t 56) (.exit 5) (.skip))) (.seq (.seq (.region [ (oN 57 (.fldaddr 1 1 (.t 2))), (oN 58 (.load false 1 (.t 57))), (oN 59 (.mov (.t 10))), (oN 60 (.idx 2 (.t 58) (.t 59))), (oN 61 (.load true 2 (.t 60))), (oN 62 (.call zdc [(.t 61)])), (oN 63 (.len (.t 62))), (oN 64 (.mov (.c (.int .i64 0))))] [56, 57, 58, 59, 60, 61]) (.block 6 (.loop zbt))) (zae))))) (zQ))
def zbr : ACode := .seq (.seq (.region [ (oN 39 (.mov (.t 9)))] [9]) (.cond (.t 39) (.skip) (.exit 2))) (.block 3 (.seq (.region [ (oN 9 (.mov (.c (.bool false))))] [39]) (.seq (.region [ (oN 40 (.fldaddr 1 1 (.t 2))), (oN 41 (.load false 1 (.t 40))), (oN 42 (.len (.t 41))), (oN 43 (.bin .sub (.t 42) (.c (.int .i64 1)))), (oN 10 (.mov (.t 43)))] [40, 41, 42, 43]) (.block 4 (.loop zbu)))))
def z8 : ACode := .seq (.region [ (oN 117 (.mov (.t 6))), (oN 118 (.mov (.t 7))), (oN 4 (.mov (.t 117))), (oN 5 (.mov (.t 118)))] [1, 2, 6, 7, 9, 10, 117, 118]) (.ret)
def zbw : ACode := .seq (.seq (.region [ (oN 9 (.mov (.c (.bool true))))] [26, 27]) (.block 2 (.loop zbr))) (z8)
def zdr : ACode := .seq (.region [ (oN 2 (.rbox (.t 0))), (oN 4 (.mknil 1)), (oN 5 (.mknil 1))] [0, 4, 5]) (.seq (.draw ( .step (oN 16 (.fldaddr 1 1 (.t 2))) ( .step (oN 20 (.fldaddr 1 1 (.t 2))) ( .alt (oN 17 (.load false 1 (.t 16))) ( .step (oN 18 (.len (.t 17))) ( .alt (oN 19 (.mksl 1 8 [.nilmp] (.t 18) (.t 18))) ( .step (oN 6 (.mov (.t 19))) ( .alt (oN 21 (.load false 1 (.t 20))) ( .step (oN 22 (.len (.t 21))) ( .alt (oN 23 (.mksl 1 8 [.nilmp] (.t 22) (.t 22))) ( .step (oN 7 (.mov (.t 23))) ( .done)) ( .stop))) ( .stop))) ( .alt (oN 21 (.load false 1 (.t 20))) ( .step (oN 22 (.len (.t 21))) ( .alt (oN 19 (.mksl 1 8 [.nilmp] (.t 18) (.t 18))) ( .step (oN 6 (.mov (.t 19))) ( .alt (oN 23 (.mksl 1 8 [.nilmp] (.t 22) (.t 22))) ( .step (oN 7 (.mov (.t 23))) ( .done)) ( .stop))) ( .alt (oN 23 (.mksl 1 8 [.nilmp] (.t 22) (.t 22))) ( .alt (oN 19 (.mksl 1 8 [.nilmp] (.t 18) (.t 18))) ( .step (oN 6 (.mov (.t 19))) ( .step (oN 7 (.mov (.t 23))) ( .done))) ( .stop)) ( .stop)))) ( .stop)))) ( .alt (oN 21 (.load false 1 (.t 20))) ( .step (oN 22 (.len (.t 21))) ( .alt (oN 17 (.load false 1 (.t 16))) ( .step (oN 18 (.len (.t 17))) ( .alt (oN 19 (.mksl 1 8 [.nilmp] (.t 18) (.t 18))) ( .step (oN 6 (.mov (.t 19))) ( .alt (oN 23 (.mksl 1 8 [.nilmp] (.t 22) (.t 22))) ( .step (oN 7 (.mov (.t 23))) ( .done)) ( .stop))) ( .alt (oN 23 (.mksl 1 8 [.nilmp] (.t 22) (.t 22))) ( .alt (oN 19 (.mksl 1 8 [.nilmp] (.t 18) (.t 18))) ( .step (oN 6 (.mov (.t 19))) ( .step (oN 7 (.mov (.t 23))) ( .done))) ( .stop)) ( .stop)))) ( .alt (oN 23 (.mksl 1 8 [.nilmp] (.t 22) (.t 22))) ( .alt (oN 17 (.load false 1 (.t 16))) ( .step (oN 18 (.len (.t 17))) ( .alt (oN 19 (.mksl 1 8 [.nilmp] (.t 18) (.t 18))) ( .step (oN 6 (.mov (.t 19))) ( .step (oN 7 (.mov (.t 23))) ( .done))) ( .stop))) ( .stop)) ( .stop)))) ( .stop))))) [16, 17, 18, 19, 20, 21, 22, 23]) (.seq (.seq (.region [ (oN 24 (.fldaddr 1 1 (.t 2))), (oN 25 (.load false 1 (.t 24))), (oN 26 (.len (.t 25))), (oN 27 (.mov (.c (.int .i64 0))))] [24, 25]) (.block 0 (.loop zbs))) (zbw)))
def zdp : List ARet := [.tmp 4, .tmp 5]
theorem zg3 : zak Tryz.prog zbm (qRoL [2] [(19, [0, 1, 2, 3, 4, 5, 6, 7, 10, 11, 12, 13, 14, 15, 16, 17, 18, 19, 20, 21, 22, 23, 24, 25, 26, 27, 28, 29, 30, 31, 32, 33, 34, 35, 36, 37, 38, 39, 40, 41, 42, 43, 44, 45, 46, 47, 48, 49, 50, 51, 52, 53, 54, 55, 56, 57, 58, 59, 60, 61, 62, 63, 64, 65, 66, 67, 68, 69, 70, 71, 72, 73, 74, 75, 76, 77, 78, 79, 80, 81, 82, 83, 84, 85, 86, 87, 88, 89, 90, 91, 92, 93, 94, 95, 96, 97, 98, 99, 100, 101, 102, 103, 104, 105, 106, 107, 108, 109, 110, 111, 112, 113, 114, 115, 116, 117, 118, 119, 120, 121, 122, 123, 124, 125, 126, 127, 128, 129, 130, 131, 132, 133, 134, 135, 136, 137, 138, 139, 140, 141, 142, 143, 144, 145, 146, 147, 148, 149]), (27, [0, 1, 2, 3, 4, 7, 8, 9, 10, 11, 12, 13, 14, 15, 16, 17, 18, 19, 20, 21, 22, 23, 24, 25, 26, 27, 28, 29, 30, 31, 32, 33, 34, 35, 36, 37, 38, 39, 40, 41, 42, 43, 44, 45, 46, 47, 48, 49, 50, 51, 52, 53, 54, 55, 56, 57, 58, 59, 60, 61, 62, 63, 64, 65, 66, 67, 68, 69, 70, 71, 72, 73, 74, 75, 76, 77, 78, 79, 80, 81, 82, 83, 84, 85, 86, 87, 88, 89, 90, 91, 92, 93, 94, 95, 96, 97, 98, 99, 100, 101, 102, 103, 104, 105, 106, 107, 108, 109, 110, 111, 112, 113, 114, 115, 116, 117, 118, 119, 120, 121, 122, 123, 124, 125, 126, 127, 128, 129, 130, 131, 132, 133, 134, 135, 136, 137, 138, 139, 140, 141, 142, 143, 144, 145, 146, 147, 148, 149])]) = some (zdr.strip, zdp, 119) := by kernel_rfl
def zbO : ACode := .seq (.region [ (oN 11 (.bin .lss (.t 10) (.t 9)))] []) (.seq (.cond (.t 11) (.skip) (.exit 0)) (.seq (.block 1 (.seq (.region [ (oN 12 (.idx 1 (.t 8) (.t 10))), (oN 13 (.load false 1 (.t 12))), (oN 7 (.mov (.t 13)))] [11, 12, 13]) (.seq (.region [ (oN 14 (.mov (.t 0))), (oN 15 (.mov (.t 7))), (oN 16 (.xop (.mlook (some .i64) false (.bool false)) [(.t 14), (.t 15)])), (oN 17 (.un .not (.t 16)))] [14, 15, 16]) (.cond (.t 17) (.seq (.region [ (oN 18 (.mov (.t 0))), (oN 19 (.mov (.t 7))), ⟨none, .xop (.mset (some .i64)) [(.t 18), (.t 19), (.c (.bool true))], none⟩] [5, 7, 17, 18, 19]) (.region [ (oN 5 (.mov (.c (.bool true))))] [])) (.skip))))) (.region [ (oN 20 (.bin .add (.t 10) (.c (.int .i64 1)))), (oN 10 (.mov (.t 20)))] [7, 17, 20])))
def zbP : ACode := .seq (.region [ (oN 21 (.mov (.t 5))), (oN 4 (.mov (.t 21)))] [0, 5, 8, 9, 10, 21]) (.ret)
def zcS : ACode := .seq (.region [ (oN 4 (.mov (.c (.bool false))))] [4]) (.seq (.region [ (oN 5 (.mov (.c (.bool false))))] []) (.seq (.seq (.region [ (oN 8 (.mov (.t 1))), (oN 9 (.len (.t 8))), (oN 10 (.mov (.c (.int .i64 0))))] [1]) (.block 0 (.loop zbO))) (zbP)))
def zcT : List ARet := [.tmp 4]
theorem zeN : zak Tryz.prog zt (qRo []) = some (zcS.strip, zcT, 22) := by kernel_rfl
def zbH : ACode := .seq (.region [ (oN 7 (.mnext (.t 6))), (oN 8 (.ext 0 (.t 7)))] [7]) (.seq (.cond (.t 8) (.skip) (.exit 0)) (.block 1 (.seq (.region [ (oN 9 (.xop .ment [(.t 6)])), (oN 10 (.ext 0 (.t 9))), (oN 4 (.mov (.t 10)))] [8, 9, 10]) (.region [ (oN 11 (.mov (.t 3))), (oN 12 (.mov (.t 4))), (oN 13 (.buildSl 1 1 [.int .i64 0] [(0, (.t 12))])), (oN 14 (.append 1 8 (.t 11) (.t 13))), (oN 3 (.mov (.t 14)))] [4, 11, 12, 13, 14]))))
def zbK : ACode := .seq (.region [ (oN 15 (.mov (.t 3))), (oN 16 (.call zcc [(.t 15)]))] [6, 15, 16]) (.seq (.region [ (oN 17 (.mov (.t 3))), (oN 2 (.mov (.t 17)))] [3, 17]) (.ret))
def zcr : ACode := .seq (.region [ (oN 2 (.mknil 1))] [2]) (.seq (.region [ (oN 3 (.mknil 1))] []) (.seq (.seq (.region [ (oN 5 (.mov (.t 0))), (oN 6 (.xop .mrange [(.t 5)]))] [0, 5]) (.block 0 (.loop zbH))) (zbK)))
def zct : List ARet := [.tmp 2]
theorem zel : zak Tryz.prog zc (qRo []) = some (zcr.strip, zct, 18) := by kernel_rfl
def zdS : ACode := .seq (.region [ (oN 2 (.rbox (.t 0))), (oN 4 (.mov (.c (.bool false))))] [0, 4]) (.seq (.region [ (oN 5 (.fldaddr 0 1 (.t 2))), (oN 6 (.load false 1 (.t 5))), (oN 7 (.bin .eql (.t 6) (.c (.int .i64 1)))), (oN 8 (.mov (.t 7))), (oG 9 8 true (.mov (.t 1))), (oG 10 8 true (.fldaddr 1 1 (.t 2))), (oG 11 8 true (.load false 1 (.t 10))), (oG 12 8 true (.xop (.mlook (some .i64) false (.bool false)) [(.t 9), (.t 11)])), (oG 13 8 true (.un .not (.t 12))), (oN 14 (.pick (.t 8) (.t 13) (.c (.bool false)))), (oN 15 (.mov (.t 14))), (oG 16 15 true (.fldaddr 6 1 (.t 2))), (oG 17 15 true (.load false 1 (.t 16))), (oG 18 15 true (.call zE [(.t 17), (.c (.fn (.func zbi) []))])), (oG 19 15 true (.un .not (.t 18))), (oN 20 (.pick (.t 15) (.t 19) (.c (.bool false)))), (oN 4 (.mov (.t 20)))] [1, 2, 5, 6, 7, 8, 9, 10, 11, 12, 13, 14, 15, 16, 17, 18, 19, 20]) (.ret))
def zbn : List ARet := [.tmp 4]
theorem zhK : zak Tryz.prog zcs (qRo [2]) = some (zdS.strip, zbn, 21) := by kernel_rfl
def ze9 : ACode := .seq (.region [ (oN 12 (.bin .lss (.t 11) (.t 10)))] []) (.seq (.cond (.t 12) (.skip) (.exit 0)) (.seq (.block 1 (.seq (.region [ (oN 13 (.idx 1 (.t 9) (.t 11))), (oN 14 (.load false 1 (.t 13))), (oN 7 (.mov (.t 14)))] [12, 13, 14]) (.region [ (oN 15 (.mov (.t 0))), (oN 16 (.mov (.t 7))), ⟨none, .xop (.mdel (some .i64)) [(.t 15), (.t 16)], none⟩] [7, 15, 16]))) (.region [ (oN 17 (.bin .add (.t 11) (.c (.int .i64 1)))), (oN 11 (.mov (.t 17)))] [17])))
def ze2 : ACode := .seq (.region [ (oN 18 (.mov (.t 0))), (oN 19 (.load true 8 (.t 4))), (oN 20 (.call zca [(.t 19)])), (oN 21 (.call zt [(.t 18), (.t 20)]))] [9, 10, 11, 18, 19, 20, 21]) (.seq (.region [ (oN 22 (.load true 8 (.t 4))), (oN 23 (.call zdv [(.t 22)]))] [4, 22]) (.cond (.t 23) (.region [ (oN 24 (.mov (.t 0))), (oN 25 (.mov (.t 2))), (oN 26 (.call zt [(.t 24), (.t 25)]))] [0, 2, 23, 24, 25, 26]) (.skip)))
def zgW : ACode := .seq (.region [ (oN 4 (.rbox (.t 1)))] [1]) (.seq (.seq (.region [ (oN 8 (.load true 8 (.t 4))), (oN 9 (.call zcd [(.t 8)])), (oN 10 (.len (.t 9))), (oN 11 (.mov (.c (.int .i64 0))))] [8]) (.block 0 (.loop ze9))) (ze2))
def zd3 : List ARet := []
theorem zkt : zak Tryz.prog zdh (qRo [4]) = some (zgW.strip, zd3, 27) := by kernel_rfl
def zaP : ACode := .seq (.seq (.region [ (oN 7 (.mov (.t 2))), (oN 8 (.mov (.t 3))), (oN 9 (.bin .lss (.t 7) (.t 8)))] [7, 8]) (.cond (.t 9) (.skip) (.exit 0))) (.seq (.block 1 (.draw ( .step (oN 14 (.mov (.t 0))) ( .step (oN 15 (.mov (.t 2))) ( .step (oN 16 (.mov (.t 0))) ( .step (oN 17 (.mov (.t 3))) ( .step (oN 18 (.mov (.t 0))) ( .step (oN 19 (.mov (.t 3))) ( .step (oN 20 (.idx 8 (.t 18) (.t 19))) ( .step (oN 21 (.load true 8 (.t 20))) ( .step (oN 22 (.mov (.t 0))) ( .step (oN 23 (.mov (.t 2))) ( .alt (oN 24 (.idx 8 (.t 22) (.t 23))) ( .step (oN 25 (.load true 8 (.t 24))) ( .step (oN 26 (.idx 8 (.t 14) (.t 15))) ( .alt ⟨none, .store 8 (.t 26) (.t 21), none⟩ ( .step (oN 27 (.idx 8 (.t 16) (.t 17))) ( .alt ⟨none, .store 8 (.t 27) (.t 25), none⟩ ( .done) ( .stop))) ( .stop)))) ( .stop)))))))))))) [9, 14, 15, 16, 17, 18, 19, 20, 21, 22, 23, 24, 25, 26, 27])) (.region [ (oN 10 (.mov (.t 2))), (oN 11 (.bin .add (.t 10) (.c (.int .i64 1)))), (oN 12 (.mov (.t 3))), (oN 13 (.bin .sub (.t 12) (.c (.int .i64 1)))), (oN 2 (.mov (.t 11))), (oN 3 (.mov (.t 13)))] [10, 11, 12, 13]))
def za0 : ACode := .seq (.region [ (oN 4 (.mov (.t 0))), (oN 5 (.len (.t 4))), (oN 6 (.bin .sub (.t 5) (.c (.int .i64 1)))), (oN 2 (.mov (.c (.int .i64 0)))), (oN 3 (.mov (.t 6)))] [4, 5, 6]) (.block 0 (.loop zaP))
def za2 : List ARet := []
theorem zcO : zak Tryz.prog zam (qRo []) = some (za0.strip, za2, 28) := by kernel_rfl
def zmF : ACode := .seq (.region [ (oN 1 (.rbox (.t 0))), (oN 2 (.mknil 1))] [0, 2]) (.seq (.region [ (oN 3 (.alloc [.nilsl]))] []) (.seq (.region [ (oN 4 (.load true 5 (.t 1))), (oN 5 (.mkfn (.func ze4) [(.t 3)])), (oN 6 (.call zhX [(.t 4), (.t 5)]))] [1, 4, 5, 6]) (.seq (.region [ (oN 7 (.load false 1 (.t 3))), (oN 8 (.call zcc [(.t 7)]))] [7, 8]) (.seq (.region [ (oN 9 (.load false 1 (.t 3))), (oN 10 (.call zbB [(.t 9)])), (oN 2 (.mov (.t 10)))] [3, 9, 10]) (.ret)))))
def zm6 : List ARet := [.tmp 2]
theorem zsr : zak Tryz.prog zk1 (qRo [1]) = some (zmF.strip, zm6, 11) := by kernel_rfl
def zeb : ACode := .seq (.region [ (oN 10 (.bin .lss (.t 9) (.t 8)))] []) (.seq (.cond (.t 10) (.skip) (.exit 0)) (.seq (.block 1 (.seq (.region [ (oN 11 (.idx 5 (.t 7) (.t 9))), (oN 12 (.load true 5 (.t 11))), (oN 5 (.alloc [.int .i64 0, .int .u32 0, .int .i64 0, .int .i64 0, .nilsl])), ⟨none, .store 5 (.t 5) (.t 12), none⟩] [10, 11, 12]) (.region [ (oN 13 (.mov (.t 3))), (oN 14 (.load true 5 (.t 5))), (oN 15 (.call zcG [(.t 14)])), (oN 16 (.buildSl 5 1 [.int .i64 0, .int .u32 0, .int .i64 0, .int .i64 0, .nilsl] [(0, (.t 15))])), (oN 17 (.append 5 56 (.t 13) (.t 16))), (oN 3 (.mov (.t 17)))] [5, 13, 14, 15, 16, 17]))) (.region [ (oN 18 (.bin .add (.t 9) (.c (.int .i64 1)))), (oN 9 (.mov (.t 18)))] [18])))
def zen : ACode := .seq (.region [ (oN 19 (.mov (.t 3))), (oN 20 (.fldaddr 4 1 (.t 1))), ⟨none, .store 1 (.t 20) (.t 19), none⟩] [3, 7, 8, 9, 19, 20]) (.seq (.region [ (oN 21 (.load true 5 (.t 1))), ⟨none, .store 5 (.t 2) (.t 21), none⟩] [1, 21]) (.ret))
def zgf : ACode := .seq (.region [ (oN 1 (.box (.t 0))), (oN 2 (.alloc [.int .i64 0, .int .u32 0, .int .i64 0, .int .i64 0, .nilsl]))] [0]) (.seq (.region [ (oN 3 (.mknil 5))] []) (.seq (.seq (.region [ (oN 6 (.fldaddr 4 1 (.t 1))), (oN 7 (.load false 1 (.t 6))), (oN 8 (.len (.t 7))), (oN 9 (.mov (.c (.int .i64 0))))] [6]) (.block 0 (.loop zeb))) (zen)))
def zf5 : List ARet := [.cell 2 true 5]
theorem zjO : zak Tryz.prog zcG (qRo []) = some (zgf.strip, zf5, 22) := by kernel_rfl
def zf3 : ACode := .seq (.region [ (oN 1 (.rbox (.t 0))), (oN 2 (.mov (.c (.bool false))))] [0, 2]) (.seq (.region [ (oN 3 (.fldaddr 0 1 (.t 1))), (oN 4 (.load false 1 (.t 3))), (oN 5 (.bin .eql (.t 4) (.c (.int .i64 18)))), (oN 6 (.mov (.t 5))), (oG 7 6 false (.fldaddr 4 1 (.t 1))), (oG 8 6 false (.load false 1 (.t 7))), (oG 9 6 false (.call zE [(.t 8), (.c (.fn (.func zbi) []))])), (oN 10 (.pick (.t 6) (.c (.bool true)) (.t 9))), (oN 2 (.mov (.t 10)))] [1, 3, 4, 5, 6, 7, 8, 9, 10]) (.ret))
def zdt : List ARet := [.tmp 2]
theorem zjD : zak Tryz.prog zbi (qRo [1]) = some (zf3.strip, zdt, 11) := by kernel_rfl
def zfE : ACode := .seq (.region [ (oN 1 (.rbox (.t 0))), (oN 2 (.mov (.c (.bool false))))] [0, 2]) (.seq (.region [ (oN 3 (.fldaddr 0 1 (.t 1))), (oN 4 (.load false 1 (.t 3))), (oN 5 (.bin .eql (.t 4) (.c (.int .i64 9)))), (oN 6 (.mov (.t 5))), (oG 7 6 false (.fldaddr 0 1 (.t 1))), (oG 8 6 false (.load false 1 (.t 7))), (oG 9 6 false (.bin .eql (.t 8) (.c (.int .i64 10)))), (oN 10 (.pick (.t 6) (.c (.bool true)) (.t 9))), (oN 11 (.mov (.t 10))), (oG 12 11 false (.fldaddr 0 1 (.t 1))), (oG 13 11 false (.load false 1 (.t 12))), (oG 14 11 false (.bin .eql (.t 13) (.c (.int .i64 5)))), (oN 15 (.pick (.t 11) (.c (.bool true)) (.t 14))), (oN 2 (.mov (.t 15)))] [1, 3, 4, 5, 6, 7, 8, 9, 10, 11, 12, 13, 14, 15]) (.ret))
def zbW : List ARet := [.tmp 2]
theorem zja : zak Tryz.prog zdv (qRo [1]) = some (zfE.strip, zbW, 16) := by kernel_rfl
def zid : ACode := .seq (.region [ (oN 13 (.bin .lss (.t 12) (.t 11)))] []) (.seq (.cond (.t 13) (.skip) (.exit 0)) (.seq (.block 1 (.seq (.region [ (oN 14 (.idx 5 (.t 10) (.t 12))), (oN 15 (.load true 5 (.t 14))), (oN 5 (.alloc [.int .i64 0, .int .u32 0, .int .i64 0, .int .i64 0, .nilsl])), ⟨none, .store 5 (.t 5) (.t 15), none⟩] [13, 14, 15]) (.region [ (oN 16 (.load true 5 (.t 5))), (oN 17 (.mov (.t 1))), (oN 18 (.call zhX [(.t 16), (.t 17)]))] [5, 16, 17, 18]))) (.region [ (oN 19 (.bin .add (.t 12) (.c (.int .i64 1)))), (oN 12 (.mov (.t 19)))] [19])))
def zk9 : ACode := .seq (.region [ (oN 2 (.rbox (.t 0)))] [0]) (.seq (.region [ (oN 6 (.mov (.t 1))), (oN 7 (.load true 5 (.t 2))), (oN 8 (.callv (.t 6) [(.t 7)]))] [6, 7, 8]) (.seq (.region [ (oN 9 (.fldaddr 4 1 (.t 2))), (oN 10 (.load false 1 (.t 9))), (oN 11 (.len (.t 10))), (oN 12 (.mov (.c (.int .i64 0))))] [2, 9]) (.block 0 (.loop zid))))
def zlU : List ARet := []
theorem zqz : zak Tryz.prog zhX (qRo [2]) = some (zk9.strip, zlU, 20) := by kernel_rfl
def zkp : ACode := .seq (.region [ (oN 2 (.rbox (.t 0)))] [0]) (.seq (.region [ (oN 3 (.fldaddr 0 1 (.t 2))), (oN 4 (.load false 1 (.t 3))), (oN 5 (.bin .eql (.t 4) (.c (.int .i64 2))))] [3, 4]) (.cond (.t 5) (.region [ (oN 6 (.load false 1 (.t 1))), (oN 7 (.fldaddr 2 1 (.t 2))), (oN 8 (.load false 1 (.t 7))), (oN 9 (.buildSl 1 1 [.int .i64 0] [(0, (.t 8))])), (oN 10 (.append 1 8 (.t 6) (.t 9))), ⟨none, .store 1 (.t 1) (.t 10), none⟩] [1, 2, 5, 6, 7, 8, 9, 10]) (.skip)))
def zhf : List ARet := []
theorem zpl : zak Tryz.prog ze4 (qRo [2]) = some (zkp.strip, zhf, 11) := by kernel_rfl
def filR (p : Nat → Bool) (n : Nat) : List Nat := (List.range n).filter p
theorem zxx {p : Nat → Bool} {n : Nat} (h : p n = true) : filR p (n + 1) = filR p n ++ [n] := by unfold filR; rw [List.range_succ, List.filter_append]; simp [h]
theorem zw7 {p : Nat → Bool} {n : Nat} (h : p n = false) : filR p (n + 1) = filR p n := by unfold filR; rw [List.range_succ, List.filter_append]; simp [h]
theorem zyP {p : Nat → Bool} {n : Nat} : (filR p n).length ≤ n := by unfold filR; exact Nat.le_trans (List.length_filter_le _ _) (by simp)
theorem zxS {H H2 : AH} {σ : Nat → Nat → Option (Nat × Nat × Nat)} {D : Nat → Nat → Prop} {t : Bool} {r q g : Nat} {l m : List Int} (hD : D r q) (hg : H.get r q = some (.row 1 ((l ++ m).map cI) g)) (hb : l.length ≤ big) :
    Vw H H2 σ D t (.own r q g 0 l.length) (za l) := by
  refine .frz t r q g 0 l.length 1 ((l ++ m).map cI) _ hD hg hb (by simp) (fun i j hi hj => ?_)
  obtain rfl : j = 0 := by omega
  rw [Nat.zero_add, zu (show i < (l ++ m).length by simp; omega), zu hi, List.getElem_append_left hi]
  exact .int _ _ _
def zfD (l : List Int) (j : Nat) : Bool := j == 0 || (l.getD j 0 != l.getD (j - 1) 0)
def zan (l : List Int) (n : Nat) : List Int := (filR (zfD l) n).map (fun j => l.getD j 0)
def zdJ (l : List Int) : List Int := zan l l.length
theorem zsN {l : List Int} {n : Nat} : (zan l n).length ≤ n := by
  unfold zan
  rw [List.length_map]
  exact zyP
theorem zjX {l : List Int} {j : Nat} (hj : j < l.length) (h : zfD l j = true) : zan l (j + 1) = zan l j ++ [l[j]] := by
  unfold zan
  rw [zxx h, List.map_append]
  simp [List.getD_eq_getElem?_getD, hj]
theorem zl1 {l : List Int} {j : Nat} (h : zfD l j = false) : zan l (j + 1) = zan l j := by
  unfold zan
  rw [zw7 h]
theorem znd {l : List Int} {n : Nat} (hn : n ≤ l.length) (h : ∀ j, j < n → zfD l j = true) : zan l n = l.take n := by
  induction n with
  | zero => rfl
  | succ n ih =>
    rw [zjX (by omega) (h n (by omega)), ih (by omega) (fun j hj => h j (by omega)), List.take_add_one, List.getElem?_eq_getElem (by omega)]
    rfl
theorem zgd {l : List Int} {j : Nat} (h1 : 1 ≤ j) (hj : j < l.length) : zfD l j = (l[j] != l[j - 1]) := by
  unfold zfD
  rw [List.getD_eq_getElem?_getD, List.getD_eq_getElem?_getD, List.getElem?_eq_getElem hj, List.getElem?_eq_getElem (show j - 1 < l.length by omega)]
  simp
  omega
def curI (K l : List Int) : List Int := K ++ l.drop K.length
theorem zrC {K l : List Int} (h : K.length ≤ l.length) : (curI K l).length = l.length := by simp [curI]; omega
theorem zwL {K l : List Int} {j : Nat} (h : K.length ≤ j) (hj : j < l.length) : (curI K l)[j]? = some l[j] := by
  unfold curI
  rw [List.getElem?_append_right h, List.getElem?_drop, show K.length + (j - K.length) = j by omega, List.getElem?_eq_getElem hj]
theorem zpo {K l : List Int} {j : Nat} (h : K.length ≤ j) (hj : j < l.length) : ((curI K l).map cI).getD j [] = [.int .i64 l[j]] := by
  simp [List.getD_eq_getElem?_getD, zwL h hj]
theorem zwf {K l : List Int} {v : Int} (h : K.length < l.length) : (curI K l).set K.length v = curI (K ++ [v]) l := by
  unfold curI
  rw [List.set_append_right _ _ (Nat.le_refl _), Nat.sub_self, List.drop_eq_getElem_cons h, List.set_cons_zero]
  simp
theorem zuW {K l : List Int} {v : Int} (h : K.length < l.length) : ((curI K l).map cI).set K.length [.int .i64 v] = (curI (K ++ [v]) l).map cI := by
  rw [← zwf h, List.map_set]
theorem zub {l : List Int} {n : Nat} (h : n ≤ l.length) : curI (l.take n) l = l := by
  unfold curI
  rw [List.length_take, Nat.min_eq_left h, List.take_append_drop]
theorem znz (l : List Int) (g : Nat) (hl : l.length ≤ 100000000000) :
    z6 Tryz.prog zbB [.own 0 0 g 0 l.length] [(0, .row 1 (l.map cI) g)] 1
      (fun v H nx => ∃ m, v = .own 0 0 g 0 (zdJ l).length ∧ H = [(0, .row 1 ((zdJ l ++ m).map cI) g)] ∧ nx = 1) := by
  refine zcl (fn_x zfR rfl ?_)
  unfold zcz
  have hB := hBig
  have fin : ∀ K m, (∀ j, j < l.length → zfD l j = true) → K = (4, AV.undef) → m = 0 → zdJ l = l := fun K m h _ _ => by unfold zdJ; rw [znd (Nat.le_refl _) h, List.take_length]
  (repeat first | simp (disch := try exact dis1) only [evD, Nat.reduceBEq, Nat.reduceAdd, Nat.reduceLeDiff] | with_reducible intro _ | ((with_reducible apply And.intro); omega))
  (refine zav (fun h => ?_) (fun h => ?_)) <;> (try simp only [dcd] at h)
  · (repeat first | simp (disch := try exact dis1) only [evD, Nat.reduceBEq, Nat.reduceAdd, Nat.reduceLeDiff, zaK] | with_reducible intro _ | ((with_reducible apply And.intro); omega))
    have hall : ∀ j, j < l.length → zfD l j = true := fun j hj => by
      have : j = 0 := by omega
      subst this
      rfl
    have e := fin (4, .undef) 0 hall rfl rfl
    refine ⟨.own 0 0 g 0 l.length, [(0, .row 1 ((l ++ []).map cI) g)], 1, ?_, [], by rw [e], by rw [e], rfl⟩
    rw [List.append_nil]
    exact (Ent.tabB [(0, 0, 0)] [] rfl rfl rfl (by (try simp only [evWB, Nat.reduceBEq, Nat.reduceAdd, Nat.reduceSub, Nat.reduceLeDiff, Nat.reduceLT, implies_true]) <;> exact fin2) (by (try simp only [evWB, Nat.reduceBEq, Nat.reduceAdd, Nat.reduceSub, Nat.reduceLeDiff, Nat.reduceLT, implies_true]) <;> exact fin2))
  (repeat first | simp (disch := try exact dis1) only [evD, Nat.reduceBEq, Nat.reduceAdd, Nat.reduceLeDiff] | with_reducible intro _ | ((with_reducible apply And.intro); omega))
  refine zl (fun i : Nat => ([(0, .own 0 0 g 0 l.length), (3, .int .i64 i)], [(0, .row 1 (l.map cI) g)])) 1 (fun i => 1 ≤ i ∧ i ≤ l.length ∧ ∀ j, j < i → zfD l j = true) (fun i => l.length - i) 1 ⟨by omega, by omega, fun j hj => (by rw [show j = 0 by omega]; rfl)⟩ (Ent.tabB [(0, 0, 0)] [] rfl rfl rfl (by (try simp only [evWB, Nat.reduceBEq, Nat.reduceAdd, Nat.reduceSub, Nat.reduceLeDiff, Nat.reduceLT, implies_true]) <;> exact fin2) (by (try simp only [evWB, Nat.reduceBEq, Nat.reduceAdd, Nat.reduceSub, Nat.reduceLeDiff, Nat.reduceLT, implies_true]) <;> exact fin2)) ?_
  intro i ⟨hi1, hi2, hall⟩ wf
  unfold zbU
  (repeat first | simp (disch := try exact dis1) only [evD, Nat.reduceBEq, Nat.reduceAdd, Nat.reduceLeDiff] | with_reducible intro _ | ((with_reducible apply And.intro); omega))
  (refine zav (fun h2 => ?_) (fun h2 => ?_)) <;> (try simp only [dcd] at h2)
  · have hi' : i < l.length := by omega
    have hi1' : i - 1 < l.length := by omega
    have ei : ((i : Int) - 1).toNat = i - 1 := by omega
    (repeat first | simp (disch := try exact dis1) only [evD, Nat.reduceBEq, Nat.reduceAdd, Nat.reduceLeDiff, zu hi', ei, zu hi1'] | with_reducible intro _ | ((with_reducible apply And.intro); omega))
    (refine zav (fun h3 => ?_) (fun h3 => ?_)) <;> (try simp only [dcd] at h3)
    · have hne : zfD l i = false := by rw [zgd hi1 hi']; simp; omega
      have hk0 : zan l i = l.take i := znd (by omega) hall
      have hk1 : zan l (i + 1) = l.take i := by rw [zl1 hne, hk0]
      have hk1l : (zan l (i + 1)).length = i := by rw [hk1, List.length_take]; omega
      have hstart : curI (zan l (i + 1)) l = l := by rw [hk1, zub (by omega)]
      have esl : ((l.length : Int) - i).toNat = l.length - i := by omega
      (repeat first | simp (disch := try exact dis1) only [evD, Nat.reduceBEq, Nat.reduceAdd, Nat.reduceLeDiff, esl] | with_reducible intro _ | ((with_reducible apply And.intro); omega))
      refine zl (fun a : Nat => ([(0, .own 0 0 g 0 l.length), (3, .int .i64 (zan l (i + a)).length), (4, .own 0 0 g i (l.length - i)), (5, .int .i64 a)], [(0, .row 1 ((curI (zan l (i + a)) l).map cI) g)])) 1
        (fun a => 1 ≤ a ∧ i + a ≤ l.length ∧ (zan l (i + a)).length < i + a) (fun a => l.length - (i + a)) 1 ⟨by omega, by omega, by omega⟩ (Ent.tabB [(0, 0, 0)] [] rfl rfl rfl (by (try simp only [evWB, Nat.reduceBEq, Nat.reduceAdd, Nat.reduceSub, Nat.reduceLeDiff, Nat.reduceLT, implies_true, hstart, hk1l]) <;> exact fin2) (by (try simp only [evWB, Nat.reduceBEq, Nat.reduceAdd, Nat.reduceSub, Nat.reduceLeDiff, Nat.reduceLT, implies_true, hstart, hk1l]) <;> exact fin2)) ?_
      intro a ⟨ha1, ha2, ha3⟩ wf
      unfold zbV
      (repeat first | simp (disch := try exact dis1) only [evD, Nat.reduceBEq, Nat.reduceAdd, Nat.reduceLeDiff] | with_reducible intro _ | ((with_reducible apply And.intro); omega))
      (refine zav (fun h4 => ?_) (fun h4 => ?_)) <;> (try simp only [dcd] at h4)
      · have ha' : i + a < l.length := by omega
        have ha1' : i + a - 1 < l.length := by omega
        have e1 : i + ((a : Int) - 1).toNat = i + a - 1 := by omega
        have g1 := zpo (K := zan l (i + a)) (l := l) (by omega) ha'
        have g2 := zpo (K := zan l (i + a)) (l := l) (by omega) ha1'
        have hcl := zrC (K := zan l (i + a)) (l := l) (by omega)
        (repeat first | simp (disch := try exact dis1) only [evD, Nat.reduceBEq, Nat.reduceAdd, Nat.reduceLeDiff, e1, g1, g2] | with_reducible intro _ | ((with_reducible apply And.intro); omega))
        (refine zav (fun h5 => ?_) (fun h5 => ?_)) <;> (try simp only [dcd] at h5)
        · have hp : zfD l (i + a) = true := by rw [zgd (by omega) ha']; simp; omega
          have hy := zjX ha' hp
          have hst := zuW (K := zan l (i + a)) (l := l) (v := l[i + a]) (by omega)
          rw [← hy] at hst
          have hyl : (zan l (i + a + 1)).length = (zan l (i + a)).length + 1 := by rw [hy]; simp
          (repeat first | simp (disch := try exact dis1) only [evD, Nat.reduceBEq, Nat.reduceAdd, Nat.reduceLeDiff, e1, g1, g2, hst] | with_reducible intro _ | ((with_reducible apply And.intro); omega))
          exact ⟨a + 1, ⟨by omega, by omega, by rw [show i + (a + 1) = i + a + 1 by omega, hyl]; omega⟩, by omega, (Ent.tabB [(0, 0, 0)] [] rfl rfl rfl (by (try simp only [evWB, Nat.reduceBEq, Nat.reduceAdd, Nat.reduceSub, Nat.reduceLeDiff, Nat.reduceLT, implies_true, show i + (a + 1) = i + a + 1 by omega, hyl]) <;> exact fin2) (by (try simp only [evWB, Nat.reduceBEq, Nat.reduceAdd, Nat.reduceSub, Nat.reduceLeDiff, Nat.reduceLT, implies_true, show i + (a + 1) = i + a + 1 by omega, hyl]) <;> exact fin2))⟩
        · have hp : zfD l (i + a) = false := by rw [zgd (by omega) ha']; simp; omega
          have hy := zl1 hp
          (repeat first | simp (disch := try exact dis1) only [evD, Nat.reduceBEq, Nat.reduceAdd, Nat.reduceLeDiff] | with_reducible intro _ | ((with_reducible apply And.intro); omega))
          exact ⟨a + 1, ⟨by omega, by omega, by rw [show i + (a + 1) = i + a + 1 by omega, hy]; omega⟩, by omega, (Ent.tabB [(0, 0, 0)] [] rfl rfl rfl (by (try simp only [evWB, Nat.reduceBEq, Nat.reduceAdd, Nat.reduceSub, Nat.reduceLeDiff, Nat.reduceLT, implies_true, show i + (a + 1) = i + a + 1 by omega, hy]) <;> exact fin2) (by (try simp only [evWB, Nat.reduceBEq, Nat.reduceAdd, Nat.reduceSub, Nat.reduceLeDiff, Nat.reduceLT, implies_true, show i + (a + 1) = i + a + 1 by omega, hy]) <;> exact fin2))⟩
      · have hia : i + a = l.length := by omega
        rw [hia] at ha3 ⊢
        have hz : ((l.length : Int) - (zan l l.length).length).toNat = l.length - (zan l l.length).length := by omega
        have hcl := zrC (K := zan l l.length) (l := l) (by omega)
        have hclr : ((curI (zan l l.length) l).map cI).take (zan l l.length).length ++ List.replicate (l.length - (zan l l.length).length) [AV.int .i64 0] ++ ((curI (zan l l.length) l).map cI).drop ((zan l l.length).length + (l.length - (zan l l.length).length)) = (zan l l.length ++ List.replicate (l.length - (zan l l.length).length) 0).map cI := by
          rw [List.drop_of_length_le (by rw [List.length_map, hcl]; omega), List.append_nil, ← List.map_take, List.map_append, List.map_replicate]
          congr 2
          unfold curI
          rw [List.take_append_of_le_length (Nat.le_refl _), List.take_length]
        unfold zbY
        (repeat first | simp (disch := try exact dis1) only [evD, Nat.reduceBEq, Nat.reduceAdd, Nat.reduceLeDiff, zaK, hz, hclr] | with_reducible intro _ | ((with_reducible apply And.intro); omega))
        refine ⟨.own 0 0 g 0 (zdJ l).length, [(0, .row 1 ((zdJ l ++ List.replicate (l.length - (zan l l.length).length) 0).map cI) g)], 1, ?_, _, rfl, rfl, rfl⟩
        exact (Ent.tabB [(0, 0, 0)] [] rfl rfl rfl (by (try simp only [evWB, Nat.reduceBEq, Nat.reduceAdd, Nat.reduceSub, Nat.reduceLeDiff, Nat.reduceLT, implies_true, zdJ]) <;> exact fin2) (by (try simp only [evWB, Nat.reduceBEq, Nat.reduceAdd, Nat.reduceSub, Nat.reduceLeDiff, Nat.reduceLT, implies_true, zdJ]) <;> exact fin2))
    · have hne : zfD l i = true := by rw [zgd hi1 hi']; simp; omega
      unfold zbT
      (repeat first | simp (disch := try exact dis1) only [evD, Nat.reduceBEq, Nat.reduceAdd, Nat.reduceLeDiff] | with_reducible intro _ | ((with_reducible apply And.intro); omega))
      refine ⟨i + 1, ⟨by omega, by omega, fun j hj => ?_⟩, by omega, (Ent.tabB [(0, 0, 0)] [] rfl rfl rfl (by (try simp only [evWB, Nat.reduceBEq, Nat.reduceAdd, Nat.reduceSub, Nat.reduceLeDiff, Nat.reduceLT, implies_true]) <;> exact fin2) (by (try simp only [evWB, Nat.reduceBEq, Nat.reduceAdd, Nat.reduceSub, Nat.reduceLeDiff, Nat.reduceLT, implies_true]) <;> exact fin2))⟩
      by_cases hji : j = i
      · subst hji; exact hne
      · exact hall j (by omega)
  · obtain rfl : i = l.length := by omega
    unfold zbX
    have e := fin (4, .undef) 0 hall rfl rfl
    (repeat first | simp (disch := try exact dis1) only [evD, Nat.reduceBEq, Nat.reduceAdd, Nat.reduceLeDiff, zaK] | with_reducible intro _ | ((with_reducible apply And.intro); omega))
    refine ⟨.own 0 0 g 0 l.length, [(0, .row 1 ((l ++ []).map cI) g)], 1, ?_, [], by rw [e], by rw [e], rfl⟩
    rw [List.append_nil]
    exact (Ent.tabB [(0, 0, 0)] [] rfl rfl rfl (by (try simp only [evWB, Nat.reduceBEq, Nat.reduceAdd, Nat.reduceSub, Nat.reduceLeDiff, Nat.reduceLT, implies_true]) <;> exact fin2) (by (try simp only [evWB, Nat.reduceBEq, Nat.reduceAdd, Nat.reduceSub, Nat.reduceLeDiff, Nat.reduceLT, implies_true]) <;> exact fin2))
end Go.Ab
namespace Go.Ab
def insU (n : Int) : List Int → List Int
  | [] => [n]
  | x :: l => if x < n then x :: insU n l else if x = n then x :: l else n :: x :: l
def zah (a b : List Int) : List Int := b.foldl (fun a x => insU x a) a
def Asc (l : List Int) : Prop := l.Pairwise (· < ·)
theorem zkO {n y : Int} : ∀ {l : List Int}, y ∈ insU n l ↔ y = n ∨ y ∈ l
  | [] => by simp [insU]
  | x :: l => by
    unfold insU
    split
    · rw [List.mem_cons, zkO, List.mem_cons]
      constructor
      · rintro (h | h | h)
        · exact .inr (.inl h)
        · exact .inl h
        · exact .inr (.inr h)
      · rintro (h | h | h)
        · exact .inr (.inl h)
        · exact .inl h
        · exact .inr (.inr h)
    · split
      · rename_i h
        subst h
        simp
      · simp
theorem znq {n : Int} : ∀ {l : List Int}, Asc l → Asc (insU n l)
  | [], _ => by simp [insU, Asc]
  | x :: l, h => by
    have hx := fun y (hy : y ∈ l) => List.rel_of_pairwise_cons h hy
    have hl := List.Pairwise.of_cons h
    unfold insU
    split
    · rename_i h1
      refine List.Pairwise.cons (fun y hy => ?_) (znq hl)
      rcases zkO.1 hy with rfl | hy
      · exact h1
      · exact hx y hy
    · split
      · exact h
      · refine List.Pairwise.cons (fun y hy => ?_) h
        rcases List.mem_cons.1 hy with rfl | hy
        · omega
        · have := hx y hy
          omega
theorem zbN {y : Int} : ∀ {b a : List Int}, y ∈ zah a b ↔ y ∈ a ∨ y ∈ b
  | [], a => by simp [zah]
  | x :: b, a => by
    have := zbN (y := y) (b := b) (a := insU x a)
    unfold zah at this ⊢
    rw [List.foldl_cons, this, zkO, List.mem_cons]
    constructor
    · rintro ((h | h) | h)
      · exact .inr (.inl h)
      · exact .inl h
      · exact .inr (.inr h)
    · rintro (h | h | h)
      · exact .inl (.inr h)
      · exact .inl (.inl h)
      · exact .inr h
theorem zc0 : ∀ {b a : List Int}, Asc a → Asc (zah a b)
  | [], a, h => h
  | x :: b, a, h => by
    have := zc0 (b := b) (znq (n := x) h)
    unfold zah at this ⊢
    rw [List.foldl_cons]
    exact this
theorem zi2 {l : List Int} (h : Asc l) : l.Nodup := List.nodup_iff_pairwise_ne.2 (List.Pairwise.imp (fun h => by omega) h)
theorem zlV : ∀ {a b : List Int}, Asc a → Asc b → (∀ x, x ∈ a ↔ x ∈ b) → a = b
  | [], [], _, _, _ => rfl
  | [], y :: b, _, _, h => by have := (h y).2 (by simp); cases this
  | x :: a, [], _, _, h => by have := (h x).1 (by simp); cases this
  | x :: a, y :: b, ha, hb, h => by
    have hx := fun z (hz : z ∈ a) => List.rel_of_pairwise_cons ha hz
    have hy := fun z (hz : z ∈ b) => List.rel_of_pairwise_cons hb hz
    have e : x = y := by
      rcases List.mem_cons.1 ((h x).1 (by simp)) with h1 | h1
      · exact h1
      · rcases List.mem_cons.1 ((h y).2 (by simp)) with h2 | h2
        · exact h2.symm
        · have := hx y h2
          have := hy x h1
          omega
    subst e
    congr 1
    refine zlV (List.Pairwise.of_cons ha) (List.Pairwise.of_cons hb) fun z => ?_
    constructor
    · intro hz
      rcases List.mem_cons.1 ((h z).1 (List.mem_cons_of_mem _ hz)) with rfl | h1
      · have := hx z hz; omega
      · exact h1
    · intro hz
      rcases List.mem_cons.1 ((h z).2 (List.mem_cons_of_mem _ hz)) with rfl | h1
      · have := hy z hz; omega
      · exact h1
def zoa (a b : List Int) : List Int := a.filter fun x => !decide (x ∈ b)
theorem zmT {a b : List Int} {y : Int} : y ∈ zoa a b ↔ y ∈ a ∧ y ∉ b := by
  unfold zoa
  rw [List.mem_filter]
  simp
theorem zm4 {a b : List Int} (h : Asc a) : Asc (zoa a b) := List.Pairwise.filter _ h
theorem zli {a b : List Int} (ha : Asc a) (hb : Asc b) (h : ∀ x ∈ a, x ∈ b) : a.length ≤ b.length := by
  have := List.Nodup.length_le_of_subset (zi2 ha) h
  exact this
theorem zsp : ∀ {a b : List Int}, Asc a → Asc b → (∀ x ∈ a, x ∈ b) → a.length = b.length → a = b := by
  intro a b ha hb h hl
  refine zlV ha hb fun x => ⟨h x, fun hx => ?_⟩
  refine Classical.byContradiction fun hn => ?_
  have h2 : ∀ y ∈ x :: a, y ∈ b := fun y hy => by
    rcases List.mem_cons.1 hy with rfl | hy
    · exact hx
    · exact h y hy
  have := List.Nodup.length_le_of_subset (List.nodup_cons.2 ⟨hn, zi2 ha⟩) h2
  simp only [List.length_cons] at this
  omega
end Go.Ab
namespace Go.Ab
open Go.RowKit Go.Proofs
def ze7 : List St → Bool
  | [] => true
  | x :: l => (ziR x == l.isEmpty) && ze7 l
def inN (n : Int) (t : Int) : Bool := decide (0 ≤ t ∧ t < n)
def zz (l : List St) : List Int := match l.getLast? with
  | none => []
  | some s => zfH s
def zcU (l : List St) (n : Int) : Bool := !l.isEmpty && (ze7 l && (zz l).all (inN n))
theorem zqu {l : List St} {i : Nat} (h : i < l.length) : ze7 (l.drop i) = ((ziR l[i] == decide ((i : Int) = (l.length : Int) - 1)) && ze7 (l.drop (i + 1))) := by
  rw [List.drop_eq_getElem_cons h, ze7]
  congr 2
  by_cases hi : i + 1 < l.length
  · rw [List.drop_eq_getElem_cons hi, decide_eq_false (by omega)]
    rfl
  · rw [List.drop_of_length_le (by omega), decide_eq_true (by omega)]
    rfl
theorem zw6 {l : List Int} {i : Nat} {p : Int → Bool} (h : i < l.length) : (l.drop i).all p = (p l[i] && (l.drop (i + 1)).all p) := by
  rw [List.drop_eq_getElem_cons h, List.all_cons]
theorem zeY {l : List St} (h : l.length - 1 < l.length) : zz l = zfH l[l.length - 1] := by
  unfold zz
  rw [List.getLast?_eq_getElem?, List.getElem?_eq_getElem h]
theorem zk7 (b : Bl) (n : Int) : zB Tryz.prog zfT [.agg b.cells, .int .i64 n] (· = .bool (zcU b.stmts n)) := by
  refine fn_x zlw rfl ?_
  unfold zg9
  have hB := hBig
  obtain ⟨ad, l⟩ := b
  simp only [Bl.cells, zcU]
  by_cases h0 : l.length = 0
  · obtain rfl : l = [] := List.eq_nil_of_length_eq_zero h0
    (repeat first | simp (disch := try exact dis1) only [evD, Nat.reduceBEq, Nat.reduceAdd, Nat.reduceLeDiff, fldP, dT, List.length_nil, za1] | with_reducible intro _ | ((with_reducible apply And.intro); omega))
    exact ⟨_, .bool _ _, rfl⟩
  have he : l.isEmpty = false := by cases l with | nil => simp at h0 | cons a l => rfl
  rw [he]
  (repeat first | simp (disch := try exact dis1) only [evD, Nat.reduceBEq, Nat.reduceAdd, Nat.reduceLeDiff, fldP, dF] | with_reducible intro _ | ((with_reducible apply And.intro); omega))
  refine zl (fun i : Nat => ([(1, .int .i64 n), (2, encP 2 [.int .u32 ad, encL 8 St.cells l]), (5, .int .i64 i)], [])) 0 (fun i => i ≤ l.length ∧ ze7 (l.drop i) = ze7 l) (fun i => l.length - i) 0 ⟨Nat.zero_le _, rfl⟩ (Ent.keep rfl fin5) ?_
  rintro i ⟨hi, hgo⟩ wf
  unfold zfF
  by_cases hl : i < l.length
  · rw [zqu hl] at hgo
    (repeat first | simp (disch := try exact dis1) only [evD, Nat.reduceBEq, Nat.reduceAdd, Nat.reduceLeDiff, fldP, dT, zu hl, St.len, St.eight] | with_reducible intro _ | ((with_reducible apply And.intro); omega))
    refine zjV (zn (zrn l[i]) rfl) ?_
    generalize ziR l[i] = q at hgo
    by_cases hx : (i : Int) = (l.length : Int) - 1
    · rw [decide_eq_true hx] at hgo
      cases q with
      | true =>
        (repeat first | simp (disch := try exact dis1) only [evD, Nat.reduceBEq, Nat.reduceAdd, Nat.reduceLeDiff, fldP, dT] | with_reducible intro _ | ((with_reducible apply And.intro); omega))
        exact ⟨i + 1, ⟨by omega, by simpa using hgo⟩, by omega, Ent.keep rfl fin5⟩
      | false =>
        replace hgo : ze7 l = false := by rw [← hgo]; rfl
        rw [hgo]
        (repeat first | simp (disch := try exact dis1) only [evD, Nat.reduceBEq, Nat.reduceAdd, Nat.reduceLeDiff, fldP, dT, za1] | with_reducible intro _ | ((with_reducible apply And.intro); omega))
        exact ⟨_, .bool _ _, rfl⟩
    · rw [decide_eq_false hx] at hgo
      cases q with
      | false =>
        (repeat first | simp (disch := try exact dis1) only [evD, Nat.reduceBEq, Nat.reduceAdd, Nat.reduceLeDiff, fldP, dF] | with_reducible intro _ | ((with_reducible apply And.intro); omega))
        exact ⟨i + 1, ⟨by omega, by simpa using hgo⟩, by omega, Ent.keep rfl fin5⟩
      | true =>
        replace hgo : ze7 l = false := by rw [← hgo]; rfl
        rw [hgo]
        (repeat first | simp (disch := try exact dis1) only [evD, Nat.reduceBEq, Nat.reduceAdd, Nat.reduceLeDiff, fldP, dF, za1] | with_reducible intro _ | ((with_reducible apply And.intro); omega))
        exact ⟨_, .bool _ _, rfl⟩
  rw [List.drop_of_length_le (by omega), ze7] at hgo
  rw [← hgo]
  have hlast : l.length - 1 < l.length := by omega
  have hidx : (((l.length : Nat) : Int) - 1).toNat = l.length - 1 := by omega
  rw [zeY hlast]
  (repeat first | simp (disch := try exact dis1) only [evD, Nat.reduceBEq, Nat.reduceAdd, Nat.reduceLeDiff, fldP, dF] | with_reducible intro _ | ((with_reducible apply And.intro); omega))
  unfold zfG
  (repeat first | simp (disch := try exact dis1) only [evD, Nat.reduceBEq, Nat.reduceAdd, Nat.reduceLeDiff, fldP, dT, hidx, zu hlast, St.len, St.eight] | with_reducible intro _ | ((with_reducible apply And.intro); omega))
  refine zh (zn (zik l[l.length - 1]) rfl) ?_
  generalize zfH l[l.length - 1] = t
  generalize hR : t.all (inN n) = R
  (repeat first | simp (disch := try exact dis1) only [evD, Nat.reduceBEq, Nat.reduceAdd, Nat.reduceLeDiff] | with_reducible intro _ | ((with_reducible apply And.intro); omega))
  refine zl (fun i : Nat => ([(1, .int .i64 n), (6, za t), (7, .int .i64 i)], [])) 0 (fun i => i ≤ t.length ∧ (t.drop i).all (inN n) = R) (fun i => t.length - i) 0 ⟨Nat.zero_le _, hR⟩ (Ent.keep rfl fin5) ?_
  rintro i ⟨hi, hgo⟩ wf
  unfold zfo
  by_cases hl : i < t.length
  · rw [zw6 hl] at hgo
    unfold inN at hgo
    by_cases q0 : 0 ≤ t[i]
    · by_cases q1 : t[i] < n
      · rw [decide_eq_true ⟨q0, q1⟩, Bool.true_and] at hgo
        (repeat first | simp (disch := try exact dis1) only [evD, Nat.reduceBEq, Nat.reduceAdd, Nat.reduceLeDiff, fldP, dT, dF, za, zu hl] | with_reducible intro _ | ((with_reducible apply And.intro); omega))
        exact ⟨i + 1, ⟨by omega, hgo⟩, by omega, Ent.keep rfl fin5⟩
      · rw [decide_eq_false (fun h => q1 h.2), Bool.false_and] at hgo
        subst hgo
        (repeat first | simp (disch := try exact dis1) only [evD, Nat.reduceBEq, Nat.reduceAdd, Nat.reduceLeDiff, fldP, dT, dF, za, zu hl, za1] | with_reducible intro _ | ((with_reducible apply And.intro); omega))
        exact ⟨_, .bool _ _, rfl⟩
    · rw [decide_eq_false (fun h => q0 h.1), Bool.false_and] at hgo
      subst hgo
      (repeat first | simp (disch := try exact dis1) only [evD, Nat.reduceBEq, Nat.reduceAdd, Nat.reduceLeDiff, fldP, dT, dF, za, zu hl, za1] | with_reducible intro _ | ((with_reducible apply And.intro); omega))
      exact ⟨_, .bool _ _, rfl⟩
  · rw [List.drop_of_length_le (by omega)] at hgo
    replace hgo : R = true := by rw [← hgo]; rfl
    subst hgo
    (repeat first | simp (disch := try exact dis1) only [evD, Nat.reduceBEq, Nat.reduceAdd, Nat.reduceLeDiff, fldP, dF, za] | with_reducible intro _ | ((with_reducible apply And.intro); omega))
    unfold zfB
    (repeat first | simp (disch := try exact dis1) only [evD, Nat.reduceBEq, Nat.reduceAdd, Nat.reduceLeDiff, za1] | with_reducible intro _ | ((with_reducible apply And.intro); omega))
    exact ⟨_, .bool _ _, rfl⟩
end Go.Ab
namespace Go.Ab
mutual
def zeZ : Ex → List Int
  | .mk op _ v _ l => zhi (if op = 2 then [v] else []) l
def zhi : List Int → List Ex → List Int
  | a, [] => a
  | a, x :: l => zhi (zah a (zeZ x)) l
end
mutual
def occX : Ex → List Int
  | .mk op _ v _ l => (if op = 2 then [v] else []) ++ zcu l
def zcu : List Ex → List Int
  | [] => []
  | x :: l => occX x ++ zcu l
end
mutual
theorem zi5 {y : Int} : ∀ e : Ex, y ∈ zeZ e ↔ y ∈ occX e
  | .mk op _ v _ l => by rw [zeZ, occX, zmW, List.mem_append]
theorem zmW {y : Int} : ∀ (a : List Int) (l : List Ex), y ∈ zhi a l ↔ y ∈ a ∨ y ∈ zcu l
  | a, [] => by rw [zhi, zcu]; simp
  | a, x :: l => by rw [zhi, zmW, zbN, zi5 x, zcu, List.mem_append, or_assoc]
end
theorem zm5 : ∀ (a : List Int) (l : List Ex), Asc a → Asc (zhi a l)
  | a, [], h => by rw [zhi]; exact h
  | a, x :: l, h => by rw [zhi]; exact zm5 _ l (zc0 h)
theorem zuK (e : Ex) : Asc (zeZ e) := by
  obtain ⟨op, n, v, w, l⟩ := e
  rw [zeZ]
  refine zm5 _ _ ?_
  split <;> simp [Asc]
def zlS : List Int → List Ex → List Int
  | a, [] => a
  | a, x :: l => zlS (zah a (zeZ x)) l
def zc6 (s : St) : List Int := zlS [] s.e
theorem zpQ : ∀ (a : List Int) (l : List Ex), Asc a → Asc (zlS a l)
  | a, [], h => h
  | a, x :: l, h => zpQ _ l (zc0 h)
theorem zpn {y : Int} : ∀ (a : List Int) (l : List Ex), y ∈ zlS a l ↔ y ∈ a ∨ y ∈ zcu l
  | a, [] => by rw [zlS, zcu]; simp
  | a, x :: l => by rw [zlS, zpn, zbN, zi5 x, zcu, List.mem_append, or_assoc]
theorem zuL (s : St) : Asc (zc6 s) := zpQ _ _ (by simp [Asc])
def zfP (s : St) : List Int := if s.op = 1 ∨ s.op = 3 then [s.var] else []
def zfO (s : St) : Bool := decide (s.op = 9 ∨ s.op = 10 ∨ s.op = 5)
def zd9 (exit : List Int) (s : St) (after : List Int) : List Int :=
  if zfO s = true then zah (zah (zoa after (zfP s)) (zc6 s)) exit else zah (zoa after (zfP s)) (zc6 s)
def zfa (exit : List Int) (l : List St) (e : List Int) : List Int := l.foldr (zd9 exit) e
def zeT (exit : List Int) (l : List St) (e : List Int) : List Int := if l.length = 0 then [] else zfa exit l e
def endT (ins : List (List Int)) (a : List Int) (t : Int) : List Int := if 0 ≤ t ∧ t < ins.length then zah a (ins.getD t.toNat []) else a
def endB (ins : List (List Int)) (l : List St) : List Int := (zz l).foldl (endT ins) []
theorem zq9 {exit : List Int} {s : St} {a : List Int} (h : Asc a) : Asc (zd9 exit s a) := by
  unfold zd9
  split
  · exact zc0 (zc0 (zm4 h))
  · exact zc0 (zm4 h)
theorem zeJ {exit : List Int} {s : St} {a : List Int} {y : Int} : y ∈ zd9 exit s a ↔ (y ∈ a ∧ y ∉ zfP s) ∨ y ∈ zc6 s ∨ (zfO s = true ∧ y ∈ exit) := by
  unfold zd9
  split
  · rename_i h
    rw [zbN, zbN, zmT]
    simp [h, or_assoc]
  · rename_i h
    rw [zbN, zmT]
    simp [h]
theorem zjB {exit : List Int} : ∀ {l : List St} {a : List Int}, Asc a → Asc (zfa exit l a)
  | [], _, h => h
  | s :: l, a, h => by
    show Asc (zd9 exit s (zfa exit l a))
    exact zq9 (zjB h)
theorem zqx {exit : List Int} {l : List St} {a : List Int} (h : Asc a) : Asc (zeT exit l a) := by
  unfold zeT
  split
  · simp [Asc]
  · exact zjB h
theorem zor {ins : List (List Int)} : ∀ {ts a : List Int}, Asc a → Asc (ts.foldl (endT ins) a)
  | [], _, h => h
  | t :: ts, a, h => by
    rw [List.foldl_cons]
    refine zor ?_
    unfold endT
    split
    · exact zc0 h
    · exact h
theorem znu {ins : List (List Int)} {l : List St} : Asc (endB ins l) := zor (by simp [Asc])
theorem zoZ {ins : List (List Int)} {y : Int} : ∀ {ts a : List Int}, y ∈ ts.foldl (endT ins) a ↔ y ∈ a ∨ ∃ t ∈ ts, (0 ≤ t ∧ t < ins.length) ∧ y ∈ ins.getD t.toNat []
  | [], a => by simp
  | t :: ts, a => by
    rw [List.foldl_cons, zoZ]
    unfold endT
    split
    · rename_i h
      rw [zbN]
      constructor
      · rintro ((h1 | h1) | ⟨t', h1, h2⟩)
        · exact .inl h1
        · exact .inr ⟨t, by simp, h, h1⟩
        · exact .inr ⟨t', List.mem_cons_of_mem _ h1, h2⟩
      · rintro (h1 | ⟨t', h1, h2, h3⟩)
        · exact .inl (.inl h1)
        · rcases List.mem_cons.1 h1 with rfl | h1
          · exact .inl (.inr h3)
          · exact .inr ⟨t', h1, h2, h3⟩
    · rename_i h
      constructor
      · rintro (h1 | ⟨t', h1, h2⟩)
        · exact .inl h1
        · exact .inr ⟨t', List.mem_cons_of_mem _ h1, h2⟩
      · rintro (h1 | ⟨t', h1, h2, h3⟩)
        · exact .inl h1
        · rcases List.mem_cons.1 h1 with rfl | h1
          · exact absurd h2 h
          · exact .inr ⟨t', h1, h2, h3⟩
theorem zeG {ins : List (List Int)} {l : List St} {y : Int} : y ∈ endB ins l ↔ ∃ t ∈ zz l, (0 ≤ t ∧ t < ins.length) ∧ y ∈ ins.getD t.toNat [] := by
  unfold endB
  rw [zoZ]
  simp
def newB (exit : List Int) (g : List Bl) (ins : List (List Int)) (i : Nat) : List Int := zeT exit ((g.map (·.stmts)).getD i []) (endB ins ((g.map (·.stmts)).getD i []))
def zez (exit : List Int) (g : List Bl) (ins : List (List Int)) (i : Nat) : List (List Int) :=
  if (newB exit g ins i).length = (ins.getD i []).length then ins else ins.set i (newB exit g ins i)
def zhl (exit : List Int) (g : List Bl) : Nat → List (List Int) → List (List Int)
  | 0, ins => ins
  | n + 1, ins => zhl exit g n (zez exit g ins n)
structure LInv (exit : List Int) (g : List Bl) (ins : List (List Int)) : Prop where
  len : ins.length = g.length
  asc : ∀ i, Asc (ins.getD i [])
  sub : ∀ i, ∀ x ∈ ins.getD i [], x ∈ newB exit g ins i
theorem zoT {exit : List Int} {g : List Bl} {a b : List (List Int)} (hl : a.length = b.length) (h : ∀ i, ∀ x ∈ a.getD i [], x ∈ b.getD i []) (i : Nat) : ∀ x ∈ newB exit g a i, x ∈ newB exit g b i := by
  intro x hx
  unfold newB zeT at *
  split at hx
  · cases hx
  · rename_i h0
    rw [if_neg h0]
    have he : ∀ y ∈ endB a ((g.map (·.stmts)).getD i []), y ∈ endB b ((g.map (·.stmts)).getD i []) := fun y hy => by
      obtain ⟨t, h1, h2, h3⟩ := zeG.1 hy
      exact zeG.2 ⟨t, h1, ⟨h2.1, by omega⟩, h _ y h3⟩
    revert x
    generalize (g.map (·.stmts)).getD i [] = l at he h0
    generalize endB a l = ea at he
    generalize endB b l = eb at he
    clear h0
    induction l with
    | nil => exact he
    | cons s l ih =>
      intro x hx
      have hx : x ∈ zd9 exit s (zfa exit l ea) := hx
      show x ∈ zd9 exit s (zfa exit l eb)
      rw [zeJ] at hx ⊢
      rcases hx with ⟨h1, h2⟩ | h1
      · exact .inl ⟨ih x h1, h2⟩
      · exact .inr h1
theorem zjd {exit : List Int} {g : List Bl} {ins : List (List Int)} {i : Nat} : Asc (newB exit g ins i) := zqx znu
theorem zhV {α : Type} {l : List α} {i j : Nat} {a d : α} (h : i < l.length) : (l.set i a).getD j d = if j = i then a else l.getD j d := by
  rw [List.getD_eq_getElem?_getD, List.getD_eq_getElem?_getD, List.getElem?_set]
  by_cases hij : i = j
  · subst hij; simp [h]
  · rw [if_neg hij, if_neg (fun e => hij e.symm)]
theorem LInv.step {exit : List Int} {g : List Bl} {ins : List (List Int)} (h : LInv exit g ins) {i : Nat} (hi : i < g.length) :
    LInv exit g (zez exit g ins i) ∧ (∀ j, ∀ x ∈ ins.getD j [], x ∈ (zez exit g ins i).getD j []) ∧ (zez exit g ins i).getD i [] = newB exit g ins i := by
  have hil : i < ins.length := by rw [h.len]; exact hi
  unfold zez
  split
  · rename_i he
    refine ⟨h, fun j x hx => hx, ?_⟩
    exact zsp (h.asc i) zjd (h.sub i) he.symm
  · have hgrow : ∀ j, ∀ x ∈ ins.getD j [], x ∈ (ins.set i (newB exit g ins i)).getD j [] := fun j x hx => by
      rw [zhV hil]
      split
      · rename_i hji; subst hji; exact h.sub j x hx
      · exact hx
    have hlen : ins.length = (ins.set i (newB exit g ins i)).length := by simp
    refine ⟨⟨by simp [h.len], fun j => ?_, fun j x hx => ?_⟩, hgrow, by rw [zhV hil, if_pos rfl]⟩
    · rw [zhV hil]
      split
      · exact zjd
      · exact h.asc j
    · rw [zhV hil] at hx
      split at hx
      · rename_i hji
        subst hji
        exact zoT hlen hgrow j x hx
      · exact zoT hlen hgrow j x (h.sub j x hx)
def zcj (ins : List (List Int)) : Nat := (ins.map (·.length)).sum
def univ (exit : List Int) (g : List Bl) : List Int := exit ++ g.flatMap fun b => b.stmts.flatMap zc6
theorem zuo {exit : List Int} {g : List Bl} {ins : List (List Int)} (h : ∀ i, ∀ x ∈ ins.getD i [], x ∈ univ exit g) (i : Nat) : ∀ x ∈ newB exit g ins i, x ∈ univ exit g := by
  unfold newB zeT
  split
  · intro x hx; cases hx
  · have he : ∀ y ∈ endB ins ((g.map (·.stmts)).getD i []), y ∈ univ exit g := fun y hy => by
      obtain ⟨t, h1, h2, h3⟩ := zeG.1 hy
      exact h _ y h3
    have hs : ∀ s ∈ (g.map (·.stmts)).getD i [], ∀ y ∈ zc6 s, y ∈ univ exit g := fun s hs y hy => by
      by_cases hi : i < g.length
      · rw [List.getD_eq_getElem?_getD, List.getElem?_map, List.getElem?_eq_getElem hi] at hs
        exact List.mem_append_right _ (List.mem_flatMap.2 ⟨g[i], List.getElem_mem hi, List.mem_flatMap.2 ⟨s, hs, hy⟩⟩)
      · rw [List.getD_eq_getElem?_getD, List.getElem?_map, List.getElem?_eq_none (by omega)] at hs
        cases hs
    generalize (g.map (·.stmts)).getD i [] = l at he hs
    generalize endB ins l = e at he
    induction l with
    | nil => exact he
    | cons s l ih =>
      intro x hx
      have hx : x ∈ zd9 exit s (zfa exit l e) := hx
      rw [zeJ] at hx
      rcases hx with ⟨h1, h2⟩ | h1 | ⟨_, h1⟩
      · exact ih (fun s' hs' => hs s' (List.mem_cons_of_mem _ hs')) x h1
      · exact hs s (by simp) x h1
      · exact List.mem_append_left _ h1
structure LInvU (exit : List Int) (g : List Bl) (ins : List (List Int)) : Prop extends LInv exit g ins where
  uni : ∀ i, ∀ x ∈ ins.getD i [], x ∈ univ exit g
theorem zk3 : ∀ (l : List (List Int)) (i : Nat) (a : List Int), i < l.length → zcj (l.set i a) + (l.getD i []).length = zcj l + a.length
  | [], i, a, h => by simp at h
  | b :: l, 0, a, h => by simp only [zcj, List.set_cons_zero, List.map_cons, List.sum_cons, List.getD_cons_zero]; omega
  | b :: l, i + 1, a, h => by
    have := zk3 l i a (by simpa using h)
    simp only [zcj, List.set_cons_succ, List.map_cons, List.sum_cons, List.getD_cons_succ] at *
    omega
theorem LInvU.step {exit : List Int} {g : List Bl} {ins : List (List Int)} (h : LInvU exit g ins) {i : Nat} (hi : i < g.length) : LInvU exit g (zez exit g ins i) := by
  obtain ⟨h1, h2, h3⟩ := h.toLInv.step hi
  refine ⟨h1, fun j x hx => ?_⟩
  unfold zez at hx
  split at hx
  · exact h.uni j x hx
  · rw [zhV (by rw [h.len]; exact hi)] at hx
    split at hx
    · exact zuo h.uni i x hx
    · exact h.uni j x hx
theorem LInvU.total_step {exit : List Int} {g : List Bl} {ins : List (List Int)} (h : LInvU exit g ins) {i : Nat} (hi : i < g.length) : zcj ins ≤ zcj (zez exit g ins i) ∧ (zcj ins = zcj (zez exit g ins i) → zez exit g ins i = ins) := by
  unfold zez
  split
  · exact ⟨Nat.le_refl _, fun _ => rfl⟩
  · rename_i hne
    have h1 := zk3 ins i (newB exit g ins i) (by rw [h.len]; exact hi)
    have h2 := zli (h.asc i) zjd (h.sub i)
    exact ⟨by omega, fun he => by omega⟩
theorem LInvU.pass {exit : List Int} {g : List Bl} : ∀ {n : Nat} {ins : List (List Int)}, LInvU exit g ins → n ≤ g.length → LInvU exit g (zhl exit g n ins) ∧ zcj ins ≤ zcj (zhl exit g n ins) ∧ (zcj ins = zcj (zhl exit g n ins) → zhl exit g n ins = ins ∧ ∀ i, i < n → zez exit g ins i = ins)
  | 0, ins, h, _ => ⟨h, Nat.le_refl _, fun _ => ⟨rfl, fun i hi => absurd hi (Nat.not_lt_zero _)⟩⟩
  | n + 1, ins, h, hn => by
    have h1 := h.step (i := n) (by omega)
    obtain ⟨h2, h3⟩ := h.total_step (i := n) (by omega)
    obtain ⟨h4, h5, h6⟩ := LInvU.pass (n := n) h1 (by omega)
    refine ⟨h4, Nat.le_trans h2 h5, fun he => ?_⟩
    have he2 : zcj (zhl exit g n (zez exit g ins n)) = zcj ins := he.symm
    have e1 := h3 (by omega)
    obtain ⟨h7, h8⟩ := h6 (by omega)
    rw [e1] at h7 h8
    refine ⟨by show zhl exit g n (zez exit g ins n) = ins; rw [e1]; exact h7, fun i hi => ?_⟩
    by_cases hin : i = n
    · subst hin; exact e1
    · exact h8 i (by omega)
theorem zrS {n m : Nat} : ∀ {l : List (List Int)}, l.length = n → (∀ a ∈ l, a.length ≤ m) → zcj l ≤ n * m
  | [], rfl, _ => by simp [zcj]
  | a :: l, rfl, h => by
    have h1 := zrS (l := l) (n := l.length) (m := m) rfl (fun b hb => h b (List.mem_cons_of_mem _ hb))
    have h2 := h a (by simp)
    simp only [zcj, List.map_cons, List.sum_cons, List.length_cons] at *
    rw [Nat.add_mul]
    omega
theorem LInvU.bound {exit : List Int} {g : List Bl} {ins : List (List Int)} (h : LInvU exit g ins) : zcj ins ≤ g.length * (univ exit g).length := by
  refine zrS h.len fun a ha => ?_
  obtain ⟨i, hi, rfl⟩ := List.mem_iff_getElem.1 ha
  have e : ins.getD i [] = ins[i] := by rw [List.getD_eq_getElem?_getD, List.getElem?_eq_getElem hi]; rfl
  have := List.Nodup.length_le_of_subset (zi2 (h.asc i)) (h.uni i)
  rwa [e] at this
def fixL (exit : List Int) (g : List Bl) : Nat → List (List Int) → List (List Int)
  | 0, ins => ins
  | k + 1, ins => if zcj (zhl exit g g.length ins) = zcj ins then ins else fixL exit g k (zhl exit g g.length ins)
def zjc (exit : List Int) (g : List Bl) : Nat := g.length * (univ exit g).length + 1
def zbx (exit : List Int) (g : List Bl) : List (List Int) := fixL exit g (zjc exit g) (g.map fun _ => [])
def zaj (exit : List Int) (g : List Bl) (i : Nat) : List Int := endB (zbx exit g) ((g.map (·.stmts)).getD i [])
theorem zpt (exit : List Int) (g : List Bl) : LInvU exit g (g.map fun _ => []) := by
  have e : ∀ i, (g.map fun _ => ([] : List Int)).getD i [] = [] := fun i => by
    rw [List.getD_eq_getElem?_getD, List.getElem?_map]
    cases g[i]? <;> rfl
  exact ⟨⟨by simp, fun i => by rw [e]; simp [Asc], fun i x hx => by rw [e] at hx; cases hx⟩, fun i x hx => by rw [e] at hx; cases hx⟩
theorem zrW {exit : List Int} {g : List Bl} : ∀ (k : Nat) {ins : List (List Int)}, LInvU exit g ins → zjc exit g ≤ k + zcj ins → LInvU exit g (fixL exit g k ins) ∧ ∀ i, i < g.length → newB exit g (fixL exit g k ins) i = (fixL exit g k ins).getD i []
  | 0, ins, h, h1 => by have := h.bound; unfold zjc at h1; omega
  | k + 1, ins, h, h1 => by
    rw [fixL]
    obtain ⟨h3, h4, h5⟩ := h.pass (Nat.le_refl _)
    split
    · rename_i he
      obtain ⟨_, h6⟩ := h5 he.symm
      refine ⟨h, fun i hi => ?_⟩
      have := (h.toLInv.step hi).2.2
      rw [h6 i hi] at this
      exact this.symm
    · exact zrW k h3 (by omega)
theorem zc4 (exit : List Int) (g : List Bl) : LInvU exit g (zbx exit g) ∧ ∀ i, i < g.length → newB exit g (zbx exit g) i = (zbx exit g).getD i [] := zrW _ (zpt exit g) (by omega)
end Go.Ab
