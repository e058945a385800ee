/-
  Part 8 of the proof: how the calls of this program run, over values instead of memory, and what each function computes.
-/
import Derived.KernelRfl
import Derived.Test.YtdhlfajcofgpkaaKg
set_option maxRecDepth 100000
set_option linter.unusedVariables false
set_option linter.unusedSimpArgs false
set_option linter.unnecessarySimpa false
set_option linter.unusedSectionVars false
namespace Go.Ab
open Go.RowKit Go.Proofs
def zib:ACode:=.seq (.seq (.region [ (oN 20 (.mov (.t 5))),(oN 21 (.fldaddr 1 1 (.t 2))),(oN 22 (.load false 1 (.t 21))),(oN 23 (.len (.t 22))),(oN 24 (.bin .lss (.t 20) (.t 23)))] [20,21,22,23]) (.cond (.t 24) (.skip) (.exit 0))) (.seq (.block 1 (.seq (.region [ (oN 27 (.fldaddr 1 1 (.t 2))),(oN 28 (.load false 1 (.t 27))),(oN 29 (.mov (.t 5))),(oN 30 (.idx 2 (.t 28) (.t 29))),(oN 31 (.fldaddr 1 1 (.t 30))),(oN 32 (.load false 1 (.t 31))),(oN 33 (.len (.t 32))),(oN 34 (.bin .gtr (.t 33) (.c (.int .i64 12))))] [24,27,28,29,30,31,32,33]) (.cond (.t 34) (.seq (.region [ (oN 4 (.mov (.c (.bool false))))] [2,5,34]) (.ret)) (.skip)))) (.region [ (oN 25 (.mov (.t 5))),(oN 26 (.bin .add (.t 25) (.c (.int .i64 1)))),(oN 5 (.mov (.t 26)))] [4,25,26,34]))
def zh4:ACode:=.seq (.region [ (oN 4 (.mov (.c (.bool true))))] [2,5]) (.ret)
def zk3:ACode:=.seq (.region [ (oN 2 (.rbox (.t 0))),(oN 4 (.mov (.c (.bool false))))] [0,4]) (.seq (.seq (.region [ (oN 6 (.fldaddr 1 1 (.t 2))),(oN 7 (.load false 1 (.t 6))),(oN 8 (.len (.t 7))),(oN 9 (.bin .gtr (.t 8) (.c (.int .i64 12)))),(oN 10 (.mov (.t 9))),(oG 11 10 false (.mov (.t 1))),(oG 12 10 false (.len (.t 11))),(oG 13 10 false (.bin .gtr (.t 12) (.c (.int .i64 20)))),(oN 14 (.pick (.t 10) (.c (.bool true)) (.t 13))),(oN 15 (.mov (.t 14))),(oG 16 15 false (.load true 2 (.t 2))),(oG 17 15 false (.call zff [(.t 16),(.c (.int .i64 8))])),(oG 18 15 false (.un .not (.t 17))),(oN 19 (.pick (.t 15) (.c (.bool true)) (.t 18)))] [1,6,7,8,9,10,11,12,13,14,15,16,17,18]) (.cond (.t 19) (.seq (.region [ (oN 4 (.mov (.c (.bool false))))] [2,19]) (.ret)) (.skip))) (.seq (.seq (.region [ (oN 5 (.mov (.c (.int .i64 0))))] [4,19]) (.block 0 (.loop zib))) (zh4)))
def zed:List ARet:=[.tmp 4]
theorem zoL:zac Try.prog zjp (qRo [2])=some (zk3.strip,zed,35):=by kernel_rfl
def ziA:ACode:=.seq (.seq (.region [ (oN 14 (.mov (.t 5))),(oN 15 (.fldaddr 1 1 (.t 1))),(oN 16 (.load false 1 (.t 15))),(oN 17 (.mov (.t 4))),(oN 18 (.idx 2 (.t 16) (.t 17))),(oN 19 (.fldaddr 1 1 (.t 18))),(oN 20 (.load false 1 (.t 19))),(oN 21 (.len (.t 20))),(oN 22 (.bin .lss (.t 14) (.t 21)))] [14,15,16,17,18,19,20,21]) (.cond (.t 22) (.skip) (.exit 2))) (.seq (.block 3 (.seq (.region [ (oN 25 (.fldaddr 1 1 (.t 1))),(oN 26 (.load false 1 (.t 25))),(oN 27 (.mov (.t 4))),(oN 28 (.idx 2 (.t 26) (.t 27))),(oN 29 (.fldaddr 1 1 (.t 28))),(oN 30 (.load false 1 (.t 29))),(oN 31 (.mov (.t 5))),(oN 32 (.idx 8 (.t 30) (.t 31))),(oN 33 (.load true 8 (.t 32))),(oN 6 (.alloc [.int .i64 0, .int .i64 0, .int .i64 0, .int .i64 0, .int .i64 0, .int .u32 0, .nilsl, .nilsl])),⟨none, .store 8 (.t 6) (.t 33),none⟩] [22,25,26,27,28,29,30,31,32,33]) (.seq (.region [ (oN 34 (.fldaddr 0 1 (.t 6))),(oN 35 (.load false 1 (.t 34))),(oN 36 (.bin .eql (.t 35) (.c (.int .i64 5))))] [34,35]) (.cond (.t 36) (.region [ (oN 37 (.mov (.t 3))),(oN 38 (.fldaddr 5 1 (.t 6))),(oN 39 (.load false 1 (.t 38))),(oN 40 (.call ziB [(.t 37),(.t 39)])),(oN 3 (.mov (.t 40)))] [6,36,37,38,39,40]) (.skip))))) (.region [ (oN 23 (.mov (.t 5))),(oN 24 (.bin .add (.t 23) (.c (.int .i64 1)))),(oN 5 (.mov (.t 24)))] [6,23,24,36]))
def ziq:ACode:=.region [ (oN 12 (.mov (.t 4))),(oN 13 (.bin .add (.t 12) (.c (.int .i64 1)))),(oN 4 (.mov (.t 13)))] [5,12,13]
def ziz:ACode:=.seq (.seq (.region [ (oN 7 (.mov (.t 4))),(oN 8 (.fldaddr 1 1 (.t 1))),(oN 9 (.load false 1 (.t 8))),(oN 10 (.len (.t 9))),(oN 11 (.bin .lss (.t 7) (.t 10)))] [7,8,9,10]) (.cond (.t 11) (.skip) (.exit 0))) (.seq (.block 1 (.seq (.region [ (oN 5 (.mov (.c (.int .i64 0))))] [11]) (.block 2 (.loop ziA)))) (ziq))
def ziC:ACode:=.seq (.region [ (oN 41 (.mov (.t 3))),(oN 2 (.mov (.t 41)))] [1,3,4,41]) (.ret)
def zkX:ACode:=.seq (.region [ (oN 1 (.rbox (.t 0))),(oN 2 (.mknil 1))] [0,2]) (.seq (.region [ (oN 3 (.mknil 1))] []) (.seq (.seq (.region [ (oN 4 (.mov (.c (.int .i64 0))))] []) (.block 0 (.loop ziz))) (ziC)))
def zk0:List ARet:=[.tmp 2]
theorem zpb:zac Try.prog zjr (qRo [1])=some (zkX.strip,zk0,42):=by kernel_rfl
def zd4:ACode:=.seq (.seq (.region [ (oN 56 (.mov (.t 17))),(oN 57 (.bin .geq (.t 56) (.c (.int .i64 0))))] [56]) (.cond (.t 57) (.skip) (.exit 4))) (.seq (.block 5 (.seq (.seq (.region [ (oN 60 (.mov (.t 15))),(oN 61 (.mov (.t 17))),(oN 62 (.idx 8 (.t 60) (.t 61))),(oN 63 (.load true 8 (.t 62))),(oN 64 (.mov (.t 14))),(oN 65 (.call zdF [(.t 63),(.t 64)]))] [57,60,61,62,63,64]) (.cond (.t 65) (.seq (.region [ (oN 66 (.mov (.t 9))),(oN 67 (.bin .add (.t 66) (.c (.int .i64 1)))),(oN 9 (.mov (.t 67)))] [10,65,66,67]) (.seq (.region [ (oN 10 (.mov (.c (.bool true))))] []) (.exit 5))) (.skip))) (.seq (.region [ (oN 68 (.mov (.t 14))),(oN 69 (.mov (.t 15))),(oN 70 (.mov (.t 17))),(oN 71 (.idx 8 (.t 69) (.t 70))),(oN 72 (.load true 8 (.t 71))),(oN 73 (.mov (.t 1))),(oN 74 (.call zey [(.t 68),(.t 72),(.t 73)]))] [65,68,69,70,71,72,73,74]) (.region [ (oN 75 (.mov (.t 16))),(oN 76 (.mov (.t 15))),(oN 77 (.mov (.t 17))),(oN 78 (.idx 8 (.t 76) (.t 77))),(oN 79 (.load true 8 (.t 78))),(oN 80 (.buildSl 8 1 [.int .i64 0, .int .i64 0, .int .i64 0, .int .i64 0, .int .i64 0, .int .u32 0, .nilsl, .nilsl] [(0,(.t 79))])),(oN 81 (.append 8 96 (.t 75) (.t 80))),(oN 16 (.mov (.t 81)))] [75,76,77,78,79,80,81])))) (.region [ (oN 58 (.mov (.t 17))),(oN 59 (.bin .sub (.t 58) (.c (.int .i64 1)))),(oN 17 (.mov (.t 59)))] [58,59]))
def zd0:ACode:=.seq (.region [ (oN 82 (.mov (.t 16))),(oN 83 (.call zaG [(.t 82)]))] [14,15,17,82,83]) (.region [ (oN 84 (.fldaddr 1 1 (.t 8))),(oN 85 (.load false 1 (.t 84))),(oN 86 (.mov (.t 13))),(oN 87 (.mov (.t 16))),(oN 88 (.idx 2 (.t 85) (.t 86))),(oN 89 (.fldaddr 1 1 (.t 88))),⟨none, .store 1 (.t 89) (.t 87),none⟩] [13,16,84,85,86,87,88,89])
def zdV:ACode:=.region [ (oN 90 (.bin .add (.t 36) (.c (.int .i64 1)))),(oN 36 (.mov (.t 90)))] [90]
def zd8:ACode:=.seq (.region [ (oN 37 (.bin .lss (.t 36) (.t 35)))] []) (.seq (.cond (.t 37) (.skip) (.exit 2)) (.seq (.block 3 (.seq (.region [ (oN 38 (.mov (.t 36))),(oN 13 (.mov (.t 38)))] [37,38]) (.seq (.region [ (oN 39 (.xop .mkmap [])),(oN 14 (.mov (.t 39)))] [39]) (.seq (.region [ (oN 40 (.mov (.t 14))),(oN 41 (.mov (.t 12))),(oN 42 (.mov (.t 13))),(oN 43 (.idx 1 (.t 41) (.t 42))),(oN 44 (.load false 1 (.t 43))),(oN 45 (.call zc [(.t 44)])),(oN 46 (.call zo [(.t 40),(.t 45)]))] [40,41,42,43,44,45,46]) (.seq (.region [ (oN 47 (.fldaddr 1 1 (.t 8))),(oN 48 (.load false 1 (.t 47))),(oN 49 (.mov (.t 13))),(oN 50 (.idx 2 (.t 48) (.t 49))),(oN 51 (.fldaddr 1 1 (.t 50))),(oN 52 (.load false 1 (.t 51))),(oN 15 (.mov (.t 52)))] [47,48,49,50,51,52]) (.seq (.region [ (oN 16 (.mknil 8))] []) (.seq (.seq (.region [ (oN 53 (.mov (.t 15))),(oN 54 (.len (.t 53))),(oN 55 (.bin .sub (.t 54) (.c (.int .i64 1)))),(oN 17 (.mov (.t 55)))] [53,54,55]) (.block 4 (.loop zd4))) (zd0)))))))) (zdV)))
def zdZ:ACode:=.seq (.seq (.region [ (oN 26 (.mov (.t 10)))] [10]) (.cond (.t 26) (.skip) (.exit 0))) (.block 1 (.seq (.region [ (oN 10 (.mov (.c (.bool false))))] [26]) (.seq (.region [ (oN 28 (.load true 2 (.t 8))),(oN 29 (.mov (.t 1))),(oN 30 (.call zce [(.t 28),(.t 29)])),(oN 27 (.mov (.t 30))),(oN 31 (.ext 0 (.t 27))),(oN 32 (.ext 1 (.t 27))),(oN 11 (.mov (.t 31))),(oN 12 (.mov (.t 32)))] [11,27,28,29,30,31,32]) (.seq (.region [ (oN 33 (.fldaddr 1 1 (.t 8))),(oN 34 (.load false 1 (.t 33))),(oN 35 (.len (.t 34))),(oN 36 (.mov (.c (.int .i64 0))))] [33,34]) (.block 2 (.loop zd8))))))
def zcQ:ACode:=.seq (.region [ (oN 91 (.load true 2 (.t 8))),(oN 92 (.mov (.t 9))),⟨none, .store 2 (.t 4) (.t 91),none⟩,(oN 5 (.mov (.t 92))),(oN 6 (.mov (.c (.int .i64 0))))] [1,8,9,10,12,35,36,91,92]) (.ret)
def zhL:ACode:=.seq (.region [ (oN 2 (.rbox (.t 0))),(oN 4 (.alloc [.int .u32 0, .nilsl])),(oN 5 (.mov (.c (.int .i64 0)))),(oN 6 (.mov (.c (.int .i64 0))))] [0,5,6]) (.seq (.seq (.region [ (oN 18 (.load true 2 (.t 2))),(oN 19 (.call zfU [(.t 18)])),(oN 7 (.mov (.t 19)))] [18,19]) (.seq (.region [ (oN 20 (.mov (.t 7))),(oN 21 (.bin .neq (.t 20) (.c (.int .i64 0))))] [20]) (.cond (.t 21) (.seq (.region [ (oN 22 (.build [.int .u32 0, .nilsl] [])),(oN 23 (.mov (.t 7))),⟨none, .store 2 (.t 4) (.t 22),none⟩,(oN 5 (.mov (.c (.int .i64 0)))),(oN 6 (.mov (.t 23)))] [1,2,7,21,22,23]) (.ret)) (.skip)))) (.seq (.region [ (oN 24 (.load true 2 (.t 2))),(oN 25 (.call zeO [(.t 24)])),(oN 8 (.alloc [.int .u32 0, .nilsl])),⟨none, .store 2 (.t 8) (.t 25),none⟩] [2,5,6,7,21,24,25]) (.seq (.region [ (oN 9 (.mov (.c (.int .i64 0))))] []) (.seq (.seq (.region [ (oN 10 (.mov (.c (.bool true))))] []) (.block 0 (.loop zdZ))) (zcQ)))))
def zfc:List ARet:=[.cell 4 true 2, .tmp 5, .tmp 6]
theorem zlg:zac Try.prog zel (qRo [2])=some (zhL.strip,zfc,93):=by kernel_rfl
def zd2:ACode:=.seq (.region [ (oN 26 (.bin .lss (.t 25) (.t 24)))] []) (.seq (.cond (.t 26) (.skip) (.exit 0)) (.seq (.block 1 (.seq (.region [ (oN 27 (.mov (.t 25))),(oN 10 (.mov (.t 27)))] [26,27]) (.draw ( .step (oN 28 (.mov (.t 8))) ( .step (oN 29 (.mov (.t 10))) ( .step (oN 30 (.mov (.t 9))) ( .step (oN 31 (.mov (.t 10))) ( .step (oN 32 (.mov (.t 6))) ( .step (oN 33 (.mov (.t 10))) ( .step (oN 37 (.mov (.t 7))) ( .step (oN 38 (.mov (.t 10))) ( .alt (oN 34 (.idx 1 (.t 32) (.t 33))) ( .alt (oN 35 (.load false 1 (.t 34))) ( .alt (oN 36 (.call zc [(.t 35)])) ( .alt (oN 39 (.idx 1 (.t 37) (.t 38))) ( .step (oN 40 (.load false 1 (.t 39))) ( .alt (oN 41 (.call zc [(.t 40)])) ( .step (oN 42 (.idx 1 (.t 28) (.t 29))) ( .alt ⟨none, .store 1 (.t 42) (.t 36),none⟩ ( .step (oN 43 (.idx 1 (.t 30) (.t 31))) ( .alt ⟨none, .store 1 (.t 43) (.t 41),none⟩ ( .done) ( .stop))) ( .stop))) ( .stop))) ( .stop)) ( .alt (oN 39 (.idx 1 (.t 37) (.t 38))) ( .alt (oN 36 (.call zc [(.t 35)])) ( .step (oN 40 (.load false 1 (.t 39))) ( .alt (oN 41 (.call zc [(.t 40)])) ( .step (oN 42 (.idx 1 (.t 28) (.t 29))) ( .alt ⟨none, .store 1 (.t 42) (.t 36),none⟩ ( .step (oN 43 (.idx 1 (.t 30) (.t 31))) ( .alt ⟨none, .store 1 (.t 43) (.t 41),none⟩ ( .done) ( .stop))) ( .stop))) ( .stop))) ( .alt (oN 40 (.load false 1 (.t 39))) ( .alt (oN 36 (.call zc [(.t 35)])) ( .alt (oN 41 (.call zc [(.t 40)])) ( .step (oN 42 (.idx 1 (.t 28) (.t 29))) ( .alt ⟨none, .store 1 (.t 42) (.t 36),none⟩ ( .step (oN 43 (.idx 1 (.t 30) (.t 31))) ( .alt ⟨none, .store 1 (.t 43) (.t 41),none⟩ ( .done) ( .stop))) ( .stop))) ( .stop)) ( .stop)) ( .stop))) ( .stop))) ( .alt (oN 39 (.idx 1 (.t 37) (.t 38))) ( .alt (oN 35 (.load false 1 (.t 34))) ( .alt (oN 36 (.call zc [(.t 35)])) ( .step (oN 40 (.load false 1 (.t 39))) ( .alt (oN 41 (.call zc [(.t 40)])) ( .step (oN 42 (.idx 1 (.t 28) (.t 29))) ( .alt ⟨none, .store 1 (.t 42) (.t 36),none⟩ ( .step (oN 43 (.idx 1 (.t 30) (.t 31))) ( .alt ⟨none, .store 1 (.t 43) (.t 41),none⟩ ( .done) ( .stop))) ( .stop))) ( .stop))) ( .alt (oN 40 (.load false 1 (.t 39))) ( .alt (oN 36 (.call zc [(.t 35)])) ( .alt (oN 41 (.call zc [(.t 40)])) ( .step (oN 42 (.idx 1 (.t 28) (.t 29))) ( .alt ⟨none, .store 1 (.t 42) (.t 36),none⟩ ( .step (oN 43 (.idx 1 (.t 30) (.t 31))) ( .alt ⟨none, .store 1 (.t 43) (.t 41),none⟩ ( .done) ( .stop))) ( .stop))) ( .stop)) ( .stop)) ( .stop))) ( .alt (oN 40 (.load false 1 (.t 39))) ( .alt (oN 35 (.load false 1 (.t 34))) ( .alt (oN 36 (.call zc [(.t 35)])) ( .alt (oN 41 (.call zc [(.t 40)])) ( .step (oN 42 (.idx 1 (.t 28) (.t 29))) ( .alt ⟨none, .store 1 (.t 42) (.t 36),none⟩ ( .step (oN 43 (.idx 1 (.t 30) (.t 31))) ( .alt ⟨none, .store 1 (.t 43) (.t 41),none⟩ ( .done) ( .stop))) ( .stop))) ( .stop)) ( .stop)) ( .stop)) ( .stop))) ( .stop))) ( .alt (oN 39 (.idx 1 (.t 37) (.t 38))) ( .alt (oN 34 (.idx 1 (.t 32) (.t 33))) ( .alt (oN 35 (.load false 1 (.t 34))) ( .alt (oN 36 (.call zc [(.t 35)])) ( .step (oN 40 (.load false 1 (.t 39))) ( .alt (oN 41 (.call zc [(.t 40)])) ( .step (oN 42 (.idx 1 (.t 28) (.t 29))) ( .alt ⟨none, .store 1 (.t 42) (.t 36),none⟩ ( .step (oN 43 (.idx 1 (.t 30) (.t 31))) ( .alt ⟨none, .store 1 (.t 43) (.t 41),none⟩ ( .done) ( .stop))) ( .stop))) ( .stop))) ( .alt (oN 40 (.load false 1 (.t 39))) ( .alt (oN 36 (.call zc [(.t 35)])) ( .alt (oN 41 (.call zc [(.t 40)])) ( .step (oN 42 (.idx 1 (.t 28) (.t 29))) ( .alt ⟨none, .store 1 (.t 42) (.t 36),none⟩ ( .step (oN 43 (.idx 1 (.t 30) (.t 31))) ( .alt ⟨none, .store 1 (.t 43) (.t 41),none⟩ ( .done) ( .stop))) ( .stop))) ( .stop)) ( .stop)) ( .stop))) ( .alt (oN 40 (.load false 1 (.t 39))) ( .alt (oN 35 (.load false 1 (.t 34))) ( .alt (oN 36 (.call zc [(.t 35)])) ( .alt (oN 41 (.call zc [(.t 40)])) ( .step (oN 42 (.idx 1 (.t 28) (.t 29))) ( .alt ⟨none, .store 1 (.t 42) (.t 36),none⟩ ( .step (oN 43 (.idx 1 (.t 30) (.t 31))) ( .alt ⟨none, .store 1 (.t 43) (.t 41),none⟩ ( .done) ( .stop))) ( .stop))) ( .stop)) ( .stop)) ( .stop)) ( .stop))) ( .alt (oN 40 (.load false 1 (.t 39))) ( .alt (oN 34 (.idx 1 (.t 32) (.t 33))) ( .alt (oN 35 (.load false 1 (.t 34))) ( .alt (oN 36 (.call zc [(.t 35)])) ( .alt (oN 41 (.call zc [(.t 40)])) ( .step (oN 42 (.idx 1 (.t 28) (.t 29))) ( .alt ⟨none, .store 1 (.t 42) (.t 36),none⟩ ( .step (oN 43 (.idx 1 (.t 30) (.t 31))) ( .alt ⟨none, .store 1 (.t 43) (.t 41),none⟩ ( .done) ( .stop))) ( .stop))) ( .stop)) ( .stop)) ( .stop)) ( .stop)) ( .stop))) ( .stop))))))))))) [10,28,29,30,31,32,33,34,35,36,37,38,39,40,41,42,43]))) (.region [ (oN 44 (.bin .add (.t 25) (.c (.int .i64 1)))),(oN 25 (.mov (.t 44)))] [44])))
def zdX:ACode:=.seq (.region [ (oN 45 (.mov (.t 8))),(oN 46 (.mov (.t 9))),(oN 4 (.mov (.t 45))),(oN 5 (.mov (.t 46)))] [6,7,8,9,24,25,45,46]) (.ret)
def zhS:ACode:=.seq (.region [ (oN 2 (.rbox (.t 0))),(oN 4 (.mknil 1)),(oN 5 (.mknil 1))] [0,4,5]) (.seq (.region [ (oN 12 (.load true 2 (.t 2))),(oN 13 (.mov (.t 1))),(oN 14 (.call zce [(.t 12),(.t 13)])),(oN 11 (.mov (.t 14))),(oN 15 (.ext 0 (.t 11))),(oN 16 (.ext 1 (.t 11))),(oN 6 (.mov (.t 15))),(oN 7 (.mov (.t 16)))] [1,2,11,12,13,14,15,16]) (.seq (.draw ( .step (oN 17 (.mov (.t 6))) ( .step (oN 18 (.len (.t 17))) ( .step (oN 20 (.mov (.t 7))) ( .step (oN 21 (.len (.t 20))) ( .alt (oN 19 (.mksl 1 24 [.nilsl] (.t 18) (.t 18))) ( .step (oN 8 (.mov (.t 19))) ( .alt (oN 22 (.mksl 1 24 [.nilsl] (.t 21) (.t 21))) ( .step (oN 9 (.mov (.t 22))) ( .done)) ( .stop))) ( .alt (oN 22 (.mksl 1 24 [.nilsl] (.t 21) (.t 21))) ( .alt (oN 19 (.mksl 1 24 [.nilsl] (.t 18) (.t 18))) ( .step (oN 8 (.mov (.t 19))) ( .step (oN 9 (.mov (.t 22))) ( .done))) ( .stop)) ( .stop))))))) [17,18,19,20,21,22]) (.seq (.seq (.region [ (oN 23 (.mov (.t 6))),(oN 24 (.len (.t 23))),(oN 25 (.mov (.c (.int .i64 0))))] [23]) (.block 0 (.loop zd2))) (zdX))))
def zfa:List ARet:=[.tmp 4, .tmp 5]
theorem zlw:zac Try.prog zf4 (qRoL [2] [(6,[0,1,2,3,4,5,6,7,9,10,11,12,14,15,16,17,18,19,20,21,22,23,24,25,26,27,28,29,30,31,32,33,34,35,36,37,38,39,40,41,42,43,44,45,46,47,48,49,50,51,52,53,54,55,56,57,58,59,60,61,62,63,64,65,66,67,68,69,70,71,72,73,74,75,76,77,78,79,80,81,82,83,84,85,86,87,88,89,90,91,92,93,94,95,96,97,98,99,100,101,102,103,104,105,106,107,108,109,110,111,112,113,114,115,116,117,118,119,120,121,122,123,124,125,126,127,128,129,130,131,132,133,134,135,136,137,138,139,140,141,142,143,144,145,146,147,148,149])])=some (zhS.strip,zfa,47):=by kernel_rfl
def zfS:ACode:=.seq (.region [ (oN 11 (.bin .lss (.t 10) (.t 9)))] []) (.seq (.cond (.t 11) (.skip) (.exit 0)) (.seq (.block 1 (.seq (.region [ (oN 12 (.idx 5 (.t 8) (.t 10))),(oN 13 (.load true 5 (.t 12))),(oN 5 (.alloc [.int .i64 0, .int .u32 0, .int .i64 0, .int .i64 0, .nilsl])),⟨none, .store 5 (.t 5) (.t 13),none⟩] [11,12,13]) (.region [ (oN 14 (.mov (.t 3))),(oN 15 (.load true 5 (.t 5))),(oN 16 (.call zmw [(.t 15)])),(oN 17 (.call zo [(.t 14),(.t 16)]))] [5,14,15,16,17]))) (.region [ (oN 18 (.bin .add (.t 10) (.c (.int .i64 1)))),(oN 10 (.mov (.t 18)))] [18])))
def zf1:ACode:=.seq (.region [ (oN 19 (.mov (.t 3))),(oN 20 (.call zc [(.t 19)])),(oN 2 (.mov (.t 20)))] [3,8,9,10,19,20]) (.ret)
def zhQ:ACode:=.seq (.region [ (oN 1 (.rbox (.t 0))),(oN 2 (.mknil 1))] [0,2]) (.seq (.region [ (oN 6 (.xop .mkmap [])),(oN 3 (.mov (.t 6)))] [6]) (.seq (.seq (.region [ (oN 7 (.fldaddr 6 1 (.t 1))),(oN 8 (.load false 1 (.t 7))),(oN 9 (.len (.t 8))),(oN 10 (.mov (.c (.int .i64 0))))] [1,7]) (.block 0 (.loop zfS))) (zf1)))
def zhM:List ARet:=[.tmp 2]
theorem zli:zac Try.prog zek (qRo [1])=some (zhQ.strip,zhM,21):=by kernel_rfl
def zhK:ACode:=.seq (.region [ (oN 1 (.rbox (.t 0))),(oN 2 (.mknil 1))] [0,2]) (.seq (.seq (.region [ (oN 3 (.fldaddr 0 1 (.t 1))),(oN 4 (.load false 1 (.t 3))),(oN 5 (.bin .eql (.t 4) (.c (.int .i64 1)))),(oN 6 (.mov (.t 5))),(oG 7 6 false (.fldaddr 0 1 (.t 1))),(oG 8 6 false (.load false 1 (.t 7))),(oG 9 6 false (.bin .eql (.t 8) (.c (.int .i64 3)))),(oN 10 (.pick (.t 6) (.c (.bool true)) (.t 9)))] [3,4,5,6,7,8,9]) (.cond (.t 10) (.seq (.region [ (oN 11 (.fldaddr 1 1 (.t 1))),(oN 12 (.load false 1 (.t 11))),(oN 13 (.buildSl 1 1 [.int .i64 0] [(0,(.t 12))])),(oN 2 (.mov (.t 13)))] [1,10,11,12,13]) (.ret)) (.skip))) (.seq (.region [ (oN 2 (.mknil 1))] [1,10]) (.ret)))
def zdR:List ARet:=[.tmp 2]
theorem zlf:zac Try.prog zer (qRo [1])=some (zhK.strip,zdR,14):=by kernel_rfl
def zfs:ACode:=.seq (.seq (.region [ (oN 59 (.mov (.t 9))),(oN 60 (.fldaddr 6 1 (.t 8))),(oN 61 (.load false 1 (.t 60))),(oN 62 (.len (.t 61))),(oN 63 (.bin .lss (.t 59) (.t 62)))] [59,60,61,62]) (.cond (.t 63) (.skip) (.exit 4))) (.seq (.block 5 (.seq (.region [ (oN 66 (.fldaddr 6 1 (.t 8))),(oN 67 (.load false 1 (.t 66))),(oN 68 (.mov (.t 9))),(oN 69 (.idx 5 (.t 67) (.t 68))),(oN 70 (.load true 5 (.t 69))),(oN 71 (.mov (.t 1))),(oN 72 (.mov (.t 5))),(oN 73 (.call zht [(.t 70),(.t 71),(.t 72)])),(oN 5 (.mov (.t 73)))] [63,66,67,68,69,70,71,72,73]) (.seq (.region [ (oN 74 (.mov (.t 5))),(oN 75 (.bin .lss (.t 74) (.c (.int .i64 0))))] [74]) (.cond (.t 75) (.seq (.region [ (oN 4 (.mov (.c (.bool false))))] [1,2,5,6,7,8,9,75]) (.ret)) (.skip))))) (.region [ (oN 64 (.mov (.t 9))),(oN 65 (.bin .add (.t 64) (.c (.int .i64 1)))),(oN 9 (.mov (.t 65)))] [4,64,65,75]))
def zfm:ACode:=.region [ (oN 38 (.mov (.t 7))),(oN 39 (.bin .add (.t 38) (.c (.int .i64 1)))),(oN 7 (.mov (.t 39)))] [8,9,38,39]
def zfy:ACode:=.seq (.seq (.region [ (oN 29 (.mov (.t 7))),(oN 30 (.fldaddr 1 1 (.t 2))),(oN 31 (.load false 1 (.t 30))),(oN 32 (.mov (.t 6))),(oN 33 (.idx 2 (.t 31) (.t 32))),(oN 34 (.fldaddr 1 1 (.t 33))),(oN 35 (.load false 1 (.t 34))),(oN 36 (.len (.t 35))),(oN 37 (.bin .lss (.t 29) (.t 36)))] [29,30,31,32,33,34,35,36]) (.cond (.t 37) (.skip) (.exit 2))) (.seq (.block 3 (.seq (.region [ (oN 40 (.fldaddr 1 1 (.t 2))),(oN 41 (.load false 1 (.t 40))),(oN 42 (.mov (.t 6))),(oN 43 (.idx 2 (.t 41) (.t 42))),(oN 44 (.fldaddr 1 1 (.t 43))),(oN 45 (.load false 1 (.t 44))),(oN 46 (.mov (.t 7))),(oN 47 (.idx 8 (.t 45) (.t 46))),(oN 48 (.load true 8 (.t 47))),(oN 8 (.alloc [.int .i64 0, .int .i64 0, .int .i64 0, .int .i64 0, .int .i64 0, .int .u32 0, .nilsl, .nilsl])),⟨none, .store 8 (.t 8) (.t 48),none⟩] [37,40,41,42,43,44,45,46,47,48]) (.seq (.seq (.region [ (oN 49 (.fldaddr 6 1 (.t 8))),(oN 50 (.load false 1 (.t 49))),(oN 51 (.len (.t 50))),(oN 52 (.bin .gtr (.t 51) (.c (.int .i64 4)))),(oN 53 (.mov (.t 52))),(oG 54 53 false (.fldaddr 7 1 (.t 8))),(oG 55 53 false (.load false 1 (.t 54))),(oG 56 53 false (.len (.t 55))),(oG 57 53 false (.bin .gtr (.t 56) (.c (.int .i64 100)))),(oN 58 (.pick (.t 53) (.c (.bool true)) (.t 57)))] [49,50,51,52,53,54,55,56,57]) (.cond (.t 58) (.seq (.region [ (oN 4 (.mov (.c (.bool false))))] [1,2,5,6,7,8,58]) (.ret)) (.skip))) (.seq (.region [ (oN 9 (.mov (.c (.int .i64 0))))] [4,58]) (.block 4 (.loop zfs)))))) (zfm))
def zfq:ACode:=.region [ (oN 19 (.mov (.t 6))),(oN 20 (.bin .add (.t 19) (.c (.int .i64 1)))),(oN 6 (.mov (.t 20)))] [7,19,20]
def zfk:ACode:=.seq (.seq (.region [ (oN 14 (.mov (.t 6))),(oN 15 (.fldaddr 1 1 (.t 2))),(oN 16 (.load false 1 (.t 15))),(oN 17 (.len (.t 16))),(oN 18 (.bin .lss (.t 14) (.t 17)))] [14,15,16,17]) (.cond (.t 18) (.skip) (.exit 0))) (.seq (.block 1 (.seq (.seq (.region [ (oN 21 (.fldaddr 1 1 (.t 2))),(oN 22 (.load false 1 (.t 21))),(oN 23 (.mov (.t 6))),(oN 24 (.idx 2 (.t 22) (.t 23))),(oN 25 (.fldaddr 1 1 (.t 24))),(oN 26 (.load false 1 (.t 25))),(oN 27 (.len (.t 26))),(oN 28 (.bin .gtr (.t 27) (.c (.int .i64 1100))))] [18,21,22,23,24,25,26,27]) (.cond (.t 28) (.seq (.region [ (oN 4 (.mov (.c (.bool false))))] [1,2,5,6,28]) (.ret)) (.skip))) (.seq (.region [ (oN 7 (.mov (.c (.int .i64 0))))] [4,28]) (.block 2 (.loop zfy))))) (zfq))
def zfl:ACode:=.seq (.region [ (oN 4 (.mov (.c (.bool true))))] [1,2,5,6]) (.ret)
def zgR:ACode:=.seq (.region [ (oN 2 (.rbox (.t 0))),(oN 4 (.mov (.c (.bool false))))] [0,4]) (.seq (.region [ (oN 5 (.mov (.c (.int .i64 20000))))] []) (.seq (.seq (.region [ (oN 10 (.fldaddr 1 1 (.t 2))),(oN 11 (.load false 1 (.t 10))),(oN 12 (.len (.t 11))),(oN 13 (.bin .gtr (.t 12) (.c (.int .i64 300))))] [10,11,12]) (.cond (.t 13) (.seq (.region [ (oN 4 (.mov (.c (.bool false))))] [1,2,5,13]) (.ret)) (.skip))) (.seq (.seq (.region [ (oN 6 (.mov (.c (.int .i64 0))))] [4,13]) (.block 0 (.loop zfk))) (zfl))))
def za0:List ARet:=[.tmp 4]
theorem zko:zac Try.prog zff (qRo [2])=some (zgR.strip,za0,76):=by kernel_rfl
def zia:ACode:=.seq (.seq (.region [ (oN 11 (.mov (.t 5))),(oN 12 (.mov (.t 0))),(oN 13 (.len (.t 12))),(oN 14 (.bin .lss (.t 11) (.t 13)))] [11,12,13]) (.cond (.t 14) (.skip) (.exit 0))) (.seq (.block 1 (.seq (.draw ( .step (oN 17 (.mov (.t 0))) ( .step (oN 18 (.mov (.t 5))) ( .step (oN 19 (.idx 1 (.t 17) (.t 18))) ( .step (oN 20 (.load false 1 (.t 19))) ( .step (oN 21 (.mov (.t 1))) ( .step (oN 22 (.mov (.t 5))) ( .step (oN 23 (.idx 1 (.t 21) (.t 22))) ( .step (oN 24 (.load false 1 (.t 23))) ( .step (oN 25 (.bin .neq (.t 20) (.t 24))) ( .done)))))))))) [14,17,18,19,20,21,22,23,24]) (.cond (.t 25) (.seq (.region [ (oN 4 (.mov (.c (.bool false))))] [0,1,5,25]) (.ret)) (.skip)))) (.region [ (oN 15 (.mov (.t 5))),(oN 16 (.bin .add (.t 15) (.c (.int .i64 1)))),(oN 5 (.mov (.t 16)))] [4,15,16,25]))
def zh1:ACode:=.seq (.region [ (oN 4 (.mov (.c (.bool true))))] [0,1,5]) (.ret)
def zkP:ACode:=.seq (.region [ (oN 4 (.mov (.c (.bool false))))] [4]) (.seq (.seq (.region [ (oN 6 (.mov (.t 0))),(oN 7 (.len (.t 6))),(oN 8 (.mov (.t 1))),(oN 9 (.len (.t 8))),(oN 10 (.bin .neq (.t 7) (.t 9)))] [6,7,8,9]) (.cond (.t 10) (.seq (.region [ (oN 4 (.mov (.c (.bool false))))] [0,1,10]) (.ret)) (.skip))) (.seq (.seq (.region [ (oN 5 (.mov (.c (.int .i64 0))))] [4,10]) (.block 0 (.loop zia))) (zh1)))
def zld:List ARet:=[.tmp 4]
theorem zpW:zac Try.prog zhl (qRo [])=some (zkP.strip,zld,26):=by kernel_rfl
def zfw:ACode:=.seq (.region [ (oN 19 (.bin .lss (.t 18) (.t 17)))] []) (.seq (.cond (.t 19) (.skip) (.exit 2)) (.seq (.block 3 (.seq (.region [ (oN 20 (.idx 8 (.t 16) (.t 18))),(oN 21 (.load true 8 (.t 20))),(oN 7 (.alloc [.int .i64 0, .int .i64 0, .int .i64 0, .int .i64 0, .int .i64 0, .int .u32 0, .nilsl, .nilsl])),⟨none, .store 8 (.t 7) (.t 21),none⟩] [19,20,21]) (.seq (.region [ (oN 22 (.fldaddr 0 1 (.t 7))),(oN 23 (.load false 1 (.t 22))),(oN 24 (.bin .eql (.t 23) (.c (.int .i64 5))))] [22,23]) (.cond (.t 24) (.region [ (oN 25 (.mov (.t 3))),(oN 26 (.fldaddr 5 1 (.t 7))),(oN 27 (.load false 1 (.t 26))),(oN 28 (.buildSl 1 1 [.int .u32 0] [(0,(.t 27))])),(oN 29 (.append 1 4 (.t 25) (.t 28))),(oN 3 (.mov (.t 29)))] [7,24,25,26,27,28,29]) (.skip))))) (.region [ (oN 30 (.bin .add (.t 18) (.c (.int .i64 1)))),(oN 18 (.mov (.t 30)))] [7,24,30])))
def zfx:ACode:=.region [ (oN 31 (.bin .add (.t 11) (.c (.int .i64 1)))),(oN 11 (.mov (.t 31)))] [16,17,18,31]
def zfo:ACode:=.seq (.region [ (oN 12 (.bin .lss (.t 11) (.t 10)))] []) (.seq (.cond (.t 12) (.skip) (.exit 0)) (.seq (.block 1 (.seq (.region [ (oN 13 (.idx 2 (.t 9) (.t 11))),(oN 14 (.load true 2 (.t 13))),(oN 5 (.alloc [.int .u32 0, .nilsl])),⟨none, .store 2 (.t 5) (.t 14),none⟩] [12,13,14]) (.seq (.region [ (oN 15 (.fldaddr 1 1 (.t 5))),(oN 16 (.load false 1 (.t 15))),(oN 17 (.len (.t 16))),(oN 18 (.mov (.c (.int .i64 0))))] [5,15]) (.block 2 (.loop zfw))))) (zfx)))
def zfz:ACode:=.seq (.region [ (oN 32 (.mov (.t 3))),(oN 33 (.call zaM [(.t 32)]))] [9,10,11,32,33]) (.seq (.region [ (oN 34 (.mov (.t 3))),(oN 35 (.call zal [(.t 34)])),(oN 2 (.mov (.t 35)))] [3,34,35]) (.ret))
def zg8:ACode:=.seq (.region [ (oN 1 (.rbox (.t 0))),(oN 2 (.mknil 1))] [0,2]) (.seq (.region [ (oN 3 (.mknil 1))] []) (.seq (.seq (.region [ (oN 8 (.fldaddr 1 1 (.t 1))),(oN 9 (.load false 1 (.t 8))),(oN 10 (.len (.t 9))),(oN 11 (.mov (.c (.int .i64 0))))] [1,8]) (.block 0 (.loop zfo))) (zfz)))
def zg6:List ARet:=[.tmp 2]
theorem zkL:zac Try.prog zdU (qRo [1])=some (zg8.strip,zg6,36):=by kernel_rfl
def zhN:ACode:=.seq (.seq (.region [ (oN 7 (.mov (.t 5))),(oN 8 (.mov (.t 0))),(oN 9 (.len (.t 8))),(oN 10 (.bin .lss (.t 7) (.t 9))),(oN 11 (.mov (.t 10))),(oG 12 11 true (.mov (.t 0))),(oG 13 11 true (.mov (.t 5))),(oG 14 11 true (.idx 1 (.t 12) (.t 13))),(oG 15 11 true (.load false 1 (.t 14))),(oG 16 11 true (.mov (.t 1))),(oG 17 11 true (.bin .lss (.t 15) (.t 16))),(oN 18 (.pick (.t 11) (.t 17) (.c (.bool false))))] [7,8,9,10,11,12,13,14,15,16,17]) (.cond (.t 18) (.skip) (.exit 0))) (.block 1 (.region [ (oN 19 (.mov (.t 5))),(oN 20 (.bin .add (.t 19) (.c (.int .i64 1)))),(oN 5 (.mov (.t 20)))] [18,19,20]))
def ze9:ACode:=.seq (.seq (.region [ (oN 21 (.mov (.t 5))),(oN 22 (.mov (.t 0))),(oN 23 (.len (.t 22))),(oN 24 (.bin .lss (.t 21) (.t 23))),(oN 25 (.mov (.t 24))),(oG 26 25 true (.mov (.t 0))),(oG 27 25 true (.mov (.t 5))),(oG 28 25 true (.idx 1 (.t 26) (.t 27))),(oG 29 25 true (.load false 1 (.t 28))),(oG 30 25 true (.mov (.t 1))),(oG 31 25 true (.bin .eql (.t 29) (.t 30))),(oN 32 (.pick (.t 25) (.t 31) (.c (.bool false))))] [21,22,23,24,25,26,27,28,29,30,31]) (.cond (.t 32) (.seq (.region [ (oN 33 (.mov (.t 0))),(oN 4 (.mov (.t 33)))] [0,1,5,32,33]) (.ret)) (.skip))) (.seq (.region [ (oN 6 (.mknil 1))] [4,32]) (.seq (.region [ (oN 34 (.mov (.t 6))),(oN 35 (.mov (.t 0))),(oN 36 (.mov (.t 5))),(oN 37 (.slice 1 (.t 35) none (some (.t 36)))),(oN 38 (.append 1 4 (.t 34) (.t 37))),(oN 6 (.mov (.t 38)))] [34,35,36,37,38]) (.seq (.region [ (oN 39 (.mov (.t 6))),(oN 40 (.mov (.t 1))),(oN 41 (.buildSl 1 1 [.int .u32 0] [(0,(.t 40))])),(oN 42 (.append 1 4 (.t 39) (.t 41))),(oN 6 (.mov (.t 42)))] [1,39,40,41,42]) (.seq (.region [ (oN 43 (.mov (.t 6))),(oN 44 (.mov (.t 0))),(oN 45 (.mov (.t 5))),(oN 46 (.slice 1 (.t 44) (some (.t 45)) none)),(oN 47 (.append 1 4 (.t 43) (.t 46))),(oN 4 (.mov (.t 47)))] [0,5,6,43,44,45,46,47]) (.ret)))))
def zjH:ACode:=.seq (.region [ (oN 4 (.mknil 1))] [4]) (.seq (.region [ (oN 5 (.mov (.c (.int .i64 0))))] []) (.seq (.block 0 (.loop zhN)) (ze9)))
def zfE:List ARet:=[.tmp 4]
theorem zoB:zac Try.prog ziB (qRo [])=some (zjH.strip,zfE,48):=by kernel_rfl
def zde:ACode:=.seq (.region [ (oN 36 (.bin .lss (.t 35) (.t 34)))] []) (.seq (.cond (.t 36) (.skip) (.exit 4)) (.seq (.block 5 (.seq (.region [ (oN 37 (.idx 5 (.t 33) (.t 35))),(oN 38 (.load true 5 (.t 37))),(oN 11 (.alloc [.int .i64 0, .int .u32 0, .int .i64 0, .int .i64 0, .nilsl])),⟨none, .store 5 (.t 11) (.t 38),none⟩] [36,37,38]) (.region [ (oN 39 (.mov (.t 9))),(oN 40 (.load true 5 (.t 11))),(oN 41 (.call zdS [(.t 40)])),(oN 42 (.buildSl 5 1 [.int .i64 0, .int .u32 0, .int .i64 0, .int .i64 0, .nilsl] [(0,(.t 41))])),(oN 43 (.append 5 56 (.t 39) (.t 42))),(oN 9 (.mov (.t 43)))] [11,39,40,41,42,43]))) (.region [ (oN 44 (.bin .add (.t 35) (.c (.int .i64 1)))),(oN 35 (.mov (.t 44)))] [44])))
def zdh:ACode:=.seq (.region [ (oN 45 (.mov (.t 9))),(oN 46 (.fldaddr 7 1 (.t 8))),(oN 47 (.load false 1 (.t 46))),(oN 48 (.call zbX [(.t 47)])),(oN 49 (.fldaddr 6 1 (.t 8))),⟨none, .store 1 (.t 49) (.t 45),none⟩,(oN 50 (.fldaddr 7 1 (.t 8))),⟨none, .store 1 (.t 50) (.t 48),none⟩] [9,33,34,35,45,46,47,48,49,50]) (.region [ (oN 51 (.fldaddr 1 1 (.t 6))),(oN 52 (.load false 1 (.t 51))),(oN 53 (.load true 8 (.t 8))),(oN 54 (.buildSl 8 1 [.int .i64 0, .int .i64 0, .int .i64 0, .int .i64 0, .int .i64 0, .int .u32 0, .nilsl, .nilsl] [(0,(.t 53))])),(oN 55 (.append 8 96 (.t 52) (.t 54))),(oN 56 (.fldaddr 1 1 (.t 6))),⟨none, .store 1 (.t 56) (.t 55),none⟩] [8,51,52,53,54,55,56])
def zdj:ACode:=.region [ (oN 57 (.bin .add (.t 28) (.c (.int .i64 1)))),(oN 28 (.mov (.t 57)))] [57]
def zdk:ACode:=.seq (.region [ (oN 29 (.bin .lss (.t 28) (.t 27)))] []) (.seq (.cond (.t 29) (.skip) (.exit 2)) (.seq (.block 3 (.seq (.region [ (oN 30 (.idx 8 (.t 26) (.t 28))),(oN 31 (.load true 8 (.t 30))),(oN 8 (.alloc [.int .i64 0, .int .i64 0, .int .i64 0, .int .i64 0, .int .i64 0, .int .u32 0, .nilsl, .nilsl])),⟨none, .store 8 (.t 8) (.t 31),none⟩] [29,30,31]) (.seq (.region [ (oN 9 (.mknil 5))] []) (.seq (.seq (.region [ (oN 32 (.fldaddr 6 1 (.t 8))),(oN 33 (.load false 1 (.t 32))),(oN 34 (.len (.t 33))),(oN 35 (.mov (.c (.int .i64 0))))] [32]) (.block 4 (.loop zde))) (zdh))))) (zdj)))
def zdi:ACode:=.region [ (oN 58 (.fldaddr 1 1 (.t 3))),(oN 59 (.load false 1 (.t 58))),(oN 60 (.load true 2 (.t 6))),(oN 61 (.buildSl 2 1 [.int .u32 0, .nilsl] [(0,(.t 60))])),(oN 62 (.append 2 32 (.t 59) (.t 61))),(oN 63 (.fldaddr 1 1 (.t 3))),⟨none, .store 1 (.t 63) (.t 62),none⟩] [6,26,27,28,58,59,60,61,62,63]
def zdn:ACode:=.region [ (oN 64 (.bin .add (.t 18) (.c (.int .i64 1)))),(oN 18 (.mov (.t 64)))] [64]
def ze6:ACode:=.seq (.region [ (oN 19 (.bin .lss (.t 18) (.t 17)))] []) (.seq (.cond (.t 19) (.skip) (.exit 0)) (.seq (.block 1 (.seq (.region [ (oN 20 (.idx 2 (.t 16) (.t 18))),(oN 21 (.load true 2 (.t 20))),(oN 5 (.alloc [.int .u32 0, .nilsl])),⟨none, .store 2 (.t 5) (.t 21),none⟩] [19,20,21]) (.seq (.region [ (oN 22 (.fldaddr 0 1 (.t 5))),(oN 23 (.load false 1 (.t 22))),(oN 24 (.build [.int .u32 0, .nilsl] [(0,1,(.t 23))])),(oN 6 (.alloc [.int .u32 0, .nilsl])),⟨none, .store 2 (.t 6) (.t 24),none⟩] [22,23,24]) (.seq (.seq (.region [ (oN 25 (.fldaddr 1 1 (.t 5))),(oN 26 (.load false 1 (.t 25))),(oN 27 (.len (.t 26))),(oN 28 (.mov (.c (.int .i64 0))))] [5,25]) (.block 2 (.loop zdk))) (zdi))))) (zdn)))
def ze2:ACode:=.seq (.region [ (oN 65 (.load true 2 (.t 3))),⟨none, .store 2 (.t 2) (.t 65),none⟩] [3,16,17,18,65]) (.ret)
def zgp:ACode:=.seq (.region [ (oN 1 (.rbox (.t 0))),(oN 2 (.alloc [.int .u32 0, .nilsl]))] [0]) (.seq (.region [ (oN 12 (.fldaddr 0 1 (.t 1))),(oN 13 (.load false 1 (.t 12))),(oN 14 (.build [.int .u32 0, .nilsl] [(0,1,(.t 13))])),(oN 3 (.alloc [.int .u32 0, .nilsl])),⟨none, .store 2 (.t 3) (.t 14),none⟩] [12,13,14]) (.seq (.seq (.region [ (oN 15 (.fldaddr 1 1 (.t 1))),(oN 16 (.load false 1 (.t 15))),(oN 17 (.len (.t 16))),(oN 18 (.mov (.c (.int .i64 0))))] [1,15]) (.block 0 (.loop ze6))) (ze2)))
def zgr:List ARet:=[.cell 2 true 2]
theorem zjY:zac Try.prog zeO (qRo [1])=some (zgp.strip,zgr,66):=by kernel_rfl
def zcl:ACode:=.seq (.region [ (oN 28 (.bin .lss (.t 27) (.t 26)))] []) (.seq (.cond (.t 28) (.skip) (.exit 0)) (.seq (.block 1 (.seq (.region [ (oN 29 (.mov (.t 27))),(oN 8 (.mov (.t 29)))] [28,29]) (.region [ (oN 30 (.mov (.t 6))),(oN 31 (.mov (.t 8))),(oN 32 (.mov (.t 7))),(oN 33 (.mov (.t 8))),(oN 34 (.xop .mkmap [])),(oN 35 (.xop .mkmap [])),(oN 36 (.idx 1 (.t 30) (.t 31))),⟨none, .store 1 (.t 36) (.t 34),none⟩,(oN 37 (.idx 1 (.t 32) (.t 33))),⟨none, .store 1 (.t 37) (.t 35),none⟩] [8,30,31,32,33,34,35,36,37]))) (.region [ (oN 38 (.bin .add (.t 27) (.c (.int .i64 1)))),(oN 27 (.mov (.t 38)))] [38])))
def zcm:ACode:=.seq (.region [ (oN 65 (.bin .lss (.t 64) (.t 63)))] []) (.seq (.cond (.t 65) (.skip) (.exit 6)) (.seq (.block 7 (.seq (.region [ (oN 66 (.idx 1 (.t 62) (.t 64))),(oN 67 (.load false 1 (.t 66))),(oN 13 (.mov (.t 67)))] [65,66,67]) (.seq (.region [ (oN 68 (.mov (.t 13))),(oN 69 (.bin .geq (.t 68) (.c (.int .i64 0)))),(oN 70 (.mov (.t 69))),(oG 71 70 true (.mov (.t 13))),(oG 72 70 true (.fldaddr 1 1 (.t 2))),(oG 73 70 true (.load false 1 (.t 72))),(oG 74 70 true (.len (.t 73))),(oG 75 70 true (.bin .lss (.t 71) (.t 74))),(oN 76 (.pick (.t 70) (.t 75) (.c (.bool false))))] [68,69,70,71,72,73,74,75]) (.cond (.t 76) (.draw ( .step (oN 77 (.mov (.t 7))) ( .step (oN 78 (.mov (.t 10))) ( .step (oN 81 (.mov (.t 6))) ( .step (oN 82 (.mov (.t 13))) ( .alt (oN 79 (.idx 1 (.t 77) (.t 78))) ( .alt (oN 80 (.load false 1 (.t 79))) ( .alt (oN 83 (.idx 1 (.t 81) (.t 82))) ( .alt (oN 84 (.load false 1 (.t 83))) ( .alt (oN 85 (.call zc [(.t 84)])) ( .alt (oN 86 (.call zo [(.t 80),(.t 85)])) ( .done) ( .stop)) ( .stop)) ( .stop)) ( .stop)) ( .alt (oN 83 (.idx 1 (.t 81) (.t 82))) ( .alt (oN 80 (.load false 1 (.t 79))) ( .alt (oN 84 (.load false 1 (.t 83))) ( .alt (oN 85 (.call zc [(.t 84)])) ( .alt (oN 86 (.call zo [(.t 80),(.t 85)])) ( .done) ( .stop)) ( .stop)) ( .stop)) ( .alt (oN 84 (.load false 1 (.t 83))) ( .alt (oN 80 (.load false 1 (.t 79))) ( .alt (oN 85 (.call zc [(.t 84)])) ( .alt (oN 86 (.call zo [(.t 80),(.t 85)])) ( .done) ( .stop)) ( .stop)) ( .alt (oN 85 (.call zc [(.t 84)])) ( .step (oN 80 (.load false 1 (.t 79))) ( .alt (oN 86 (.call zo [(.t 80),(.t 85)])) ( .done) ( .stop))) ( .stop))) ( .stop))) ( .stop))) ( .alt (oN 83 (.idx 1 (.t 81) (.t 82))) ( .alt (oN 79 (.idx 1 (.t 77) (.t 78))) ( .alt (oN 80 (.load false 1 (.t 79))) ( .alt (oN 84 (.load false 1 (.t 83))) ( .alt (oN 85 (.call zc [(.t 84)])) ( .alt (oN 86 (.call zo [(.t 80),(.t 85)])) ( .done) ( .stop)) ( .stop)) ( .stop)) ( .alt (oN 84 (.load false 1 (.t 83))) ( .alt (oN 80 (.load false 1 (.t 79))) ( .alt (oN 85 (.call zc [(.t 84)])) ( .alt (oN 86 (.call zo [(.t 80),(.t 85)])) ( .done) ( .stop)) ( .stop)) ( .alt (oN 85 (.call zc [(.t 84)])) ( .step (oN 80 (.load false 1 (.t 79))) ( .alt (oN 86 (.call zo [(.t 80),(.t 85)])) ( .done) ( .stop))) ( .stop))) ( .stop))) ( .alt (oN 84 (.load false 1 (.t 83))) ( .alt (oN 79 (.idx 1 (.t 77) (.t 78))) ( .alt (oN 80 (.load false 1 (.t 79))) ( .alt (oN 85 (.call zc [(.t 84)])) ( .alt (oN 86 (.call zo [(.t 80),(.t 85)])) ( .done) ( .stop)) ( .stop)) ( .alt (oN 85 (.call zc [(.t 84)])) ( .step (oN 80 (.load false 1 (.t 79))) ( .alt (oN 86 (.call zo [(.t 80),(.t 85)])) ( .done) ( .stop))) ( .stop))) ( .alt (oN 85 (.call zc [(.t 84)])) ( .alt (oN 79 (.idx 1 (.t 77) (.t 78))) ( .step (oN 80 (.load false 1 (.t 79))) ( .alt (oN 86 (.call zo [(.t 80),(.t 85)])) ( .done) ( .stop))) ( .stop)) ( .stop))) ( .stop))) ( .stop))))))) [13,76,77,78,79,80,81,82,83,84,85,86]) (.skip))))) (.region [ (oN 87 (.bin .add (.t 64) (.c (.int .i64 1)))),(oN 64 (.mov (.t 87)))] [13,76,87])))
def zcq:ACode:=.seq (.seq (.region [ (oN 99 (.mov (.t 15))),(oN 100 (.bin .geq (.t 99) (.c (.int .i64 0))))] [99]) (.cond (.t 100) (.skip) (.exit 8))) (.seq (.block 9 (.region [ (oN 103 (.mov (.t 14))),(oN 104 (.mov (.t 11))),(oN 105 (.mov (.t 15))),(oN 106 (.idx 8 (.t 104) (.t 105))),(oN 107 (.load true 8 (.t 106))),(oN 108 (.mov (.t 1))),(oN 109 (.call zey [(.t 103),(.t 107),(.t 108)]))] [100,103,104,105,106,107,108,109])) (.region [ (oN 101 (.mov (.t 15))),(oN 102 (.bin .sub (.t 101) (.c (.int .i64 1)))),(oN 15 (.mov (.t 102)))] [101,102]))
def zau:ACode:=.seq (.draw ( .step (oN 110 (.mov (.t 6))) ( .step (oN 111 (.mov (.t 10))) ( .step (oN 114 (.mov (.t 14))) ( .alt (oN 112 (.idx 1 (.t 110) (.t 111))) ( .alt (oN 113 (.load false 1 (.t 112))) ( .alt (oN 115 (.call zc [(.t 114)])) ( .alt (oN 116 (.call zo [(.t 113),(.t 115)])) ( .done) ( .stop)) ( .stop)) ( .alt (oN 115 (.call zc [(.t 114)])) ( .step (oN 113 (.load false 1 (.t 112))) ( .alt (oN 116 (.call zo [(.t 113),(.t 115)])) ( .done) ( .stop))) ( .stop))) ( .alt (oN 115 (.call zc [(.t 114)])) ( .alt (oN 112 (.idx 1 (.t 110) (.t 111))) ( .step (oN 113 (.load false 1 (.t 112))) ( .alt (oN 116 (.call zo [(.t 113),(.t 115)])) ( .done) ( .stop))) ( .stop)) ( .stop)))))) [11,14,15,110,111,112,113,114,115]) (.cond (.t 116) (.region [ (oN 9 (.mov (.c (.bool true))))] [116]) (.skip))
def zaq:ACode:=.seq (.region [ (oN 88 (.xop .mkmap [])),(oN 14 (.mov (.t 88)))] [62,63,64,88]) (.seq (.region [ (oN 89 (.mov (.t 14))),(oN 90 (.mov (.t 7))),(oN 91 (.mov (.t 10))),(oN 92 (.idx 1 (.t 90) (.t 91))),(oN 93 (.load false 1 (.t 92))),(oN 94 (.call zc [(.t 93)])),(oN 95 (.call zo [(.t 89),(.t 94)]))] [89,90,91,92,93,94,95]) (.seq (.seq (.region [ (oN 96 (.mov (.t 11))),(oN 97 (.len (.t 96))),(oN 98 (.bin .sub (.t 97) (.c (.int .i64 1)))),(oN 15 (.mov (.t 98)))] [96,97,98]) (.block 8 (.loop zcq))) (zau)))
def zY:ACode:=.region [ (oN 46 (.mov (.t 10))),(oN 47 (.bin .sub (.t 46) (.c (.int .i64 1)))),(oN 10 (.mov (.t 47)))] [46,47,116]
def zcp:ACode:=.seq (.seq (.region [ (oN 44 (.mov (.t 10))),(oN 45 (.bin .geq (.t 44) (.c (.int .i64 0))))] [44]) (.cond (.t 45) (.skip) (.exit 4))) (.seq (.block 5 (.seq (.region [ (oN 48 (.fldaddr 1 1 (.t 2))),(oN 49 (.load false 1 (.t 48))),(oN 50 (.mov (.t 10))),(oN 51 (.idx 2 (.t 49) (.t 50))),(oN 52 (.fldaddr 1 1 (.t 51))),(oN 53 (.load false 1 (.t 52))),(oN 11 (.mov (.t 53)))] [45,48,49,50,51,52,53]) (.seq (.seq (.region [ (oN 54 (.mov (.t 11))),(oN 55 (.len (.t 54))),(oN 56 (.bin .eql (.t 55) (.c (.int .i64 0))))] [54,55]) (.cond (.t 56) (.exit 5) (.skip))) (.seq (.seq (.region [ (oN 57 (.fldaddr 1 1 (.t 2))),(oN 58 (.load false 1 (.t 57))),(oN 59 (.mov (.t 10))),(oN 60 (.idx 2 (.t 58) (.t 59))),(oN 61 (.load true 2 (.t 60))),(oN 62 (.call zeq [(.t 61)])),(oN 63 (.len (.t 62))),(oN 64 (.mov (.c (.int .i64 0))))] [56,57,58,59,60,61]) (.block 6 (.loop zcm))) (zaq))))) (zY))
def zcj:ACode:=.seq (.seq (.region [ (oN 39 (.mov (.t 9)))] [9]) (.cond (.t 39) (.skip) (.exit 2))) (.block 3 (.seq (.region [ (oN 9 (.mov (.c (.bool false))))] [39]) (.seq (.region [ (oN 40 (.fldaddr 1 1 (.t 2))),(oN 41 (.load false 1 (.t 40))),(oN 42 (.len (.t 41))),(oN 43 (.bin .sub (.t 42) (.c (.int .i64 1)))),(oN 10 (.mov (.t 43)))] [40,41,42,43]) (.block 4 (.loop zcp)))))
def zam:ACode:=.seq (.region [ (oN 117 (.mov (.t 6))),(oN 118 (.mov (.t 7))),(oN 4 (.mov (.t 117))),(oN 5 (.mov (.t 118)))] [1,2,6,7,9,10,117,118]) (.ret)
def zcn:ACode:=.seq (.seq (.region [ (oN 9 (.mov (.c (.bool true))))] [26,27]) (.block 2 (.loop zcj))) (zam)
def zeF:ACode:=.seq (.region [ (oN 2 (.rbox (.t 0))),(oN 4 (.mknil 1)),(oN 5 (.mknil 1))] [0,4,5]) (.seq (.draw ( .step (oN 16 (.fldaddr 1 1 (.t 2))) ( .step (oN 20 (.fldaddr 1 1 (.t 2))) ( .alt (oN 17 (.load false 1 (.t 16))) ( .step (oN 18 (.len (.t 17))) ( .alt (oN 19 (.mksl 1 8 [.nilmp] (.t 18) (.t 18))) ( .step (oN 6 (.mov (.t 19))) ( .alt (oN 21 (.load false 1 (.t 20))) ( .step (oN 22 (.len (.t 21))) ( .alt (oN 23 (.mksl 1 8 [.nilmp] (.t 22) (.t 22))) ( .step (oN 7 (.mov (.t 23))) ( .done)) ( .stop))) ( .stop))) ( .alt (oN 21 (.load false 1 (.t 20))) ( .step (oN 22 (.len (.t 21))) ( .alt (oN 19 (.mksl 1 8 [.nilmp] (.t 18) (.t 18))) ( .step (oN 6 (.mov (.t 19))) ( .alt (oN 23 (.mksl 1 8 [.nilmp] (.t 22) (.t 22))) ( .step (oN 7 (.mov (.t 23))) ( .done)) ( .stop))) ( .alt (oN 23 (.mksl 1 8 [.nilmp] (.t 22) (.t 22))) ( .alt (oN 19 (.mksl 1 8 [.nilmp] (.t 18) (.t 18))) ( .step (oN 6 (.mov (.t 19))) ( .step (oN 7 (.mov (.t 23))) ( .done))) ( .stop)) ( .stop)))) ( .stop)))) ( .alt (oN 21 (.load false 1 (.t 20))) ( .step (oN 22 (.len (.t 21))) ( .alt (oN 17 (.load false 1 (.t 16))) ( .step (oN 18 (.len (.t 17))) ( .alt (oN 19 (.mksl 1 8 [.nilmp] (.t 18) (.t 18))) ( .step (oN 6 (.mov (.t 19))) ( .alt (oN 23 (.mksl 1 8 [.nilmp] (.t 22) (.t 22))) ( .step (oN 7 (.mov (.t 23))) ( .done)) ( .stop))) ( .alt (oN 23 (.mksl 1 8 [.nilmp] (.t 22) (.t 22))) ( .alt (oN 19 (.mksl 1 8 [.nilmp] (.t 18) (.t 18))) ( .step (oN 6 (.mov (.t 19))) ( .step (oN 7 (.mov (.t 23))) ( .done))) ( .stop)) ( .stop)))) ( .alt (oN 23 (.mksl 1 8 [.nilmp] (.t 22) (.t 22))) ( .alt (oN 17 (.load false 1 (.t 16))) ( .step (oN 18 (.len (.t 17))) ( .alt (oN 19 (.mksl 1 8 [.nilmp] (.t 18) (.t 18))) ( .step (oN 6 (.mov (.t 19))) ( .step (oN 7 (.mov (.t 23))) ( .done))) ( .stop))) ( .stop)) ( .stop)))) ( .stop))))) [16,17,18,19,20,21,22,23]) (.seq (.seq (.region [ (oN 24 (.fldaddr 1 1 (.t 2))),(oN 25 (.load false 1 (.t 24))),(oN 26 (.len (.t 25))),(oN 27 (.mov (.c (.int .i64 0))))] [24,25]) (.block 0 (.loop zcl))) (zcn)))
def zeG:List ARet:=[.tmp 4, .tmp 5]
theorem zhW:zac Try.prog zce (qRoL [2] [(19,[0,1,2,3,4,5,6,7,10,11,12,13,14,15,16,17,18,19,20,21,22,23,24,25,26,27,28,29,30,31,32,33,34,35,36,37,38,39,40,41,42,43,44,45,46,47,48,49,50,51,52,53,54,55,56,57,58,59,60,61,62,63,64,65,66,67,68,69,70,71,72,73,74,75,76,77,78,79,80,81,82,83,84,85,86,87,88,89,90,91,92,93,94,95,96,97,98,99,100,101,102,103,104,105,106,107,108,109,110,111,112,113,114,115,116,117,118,119,120,121,122,123,124,125,126,127,128,129,130,131,132,133,134,135,136,137,138,139,140,141,142,143,144,145,146,147,148,149]),(27,[0,1,2,3,4,7,8,9,10,11,12,13,14,15,16,17,18,19,20,21,22,23,24,25,26,27,28,29,30,31,32,33,34,35,36,37,38,39,40,41,42,43,44,45,46,47,48,49,50,51,52,53,54,55,56,57,58,59,60,61,62,63,64,65,66,67,68,69,70,71,72,73,74,75,76,77,78,79,80,81,82,83,84,85,86,87,88,89,90,91,92,93,94,95,96,97,98,99,100,101,102,103,104,105,106,107,108,109,110,111,112,113,114,115,116,117,118,119,120,121,122,123,124,125,126,127,128,129,130,131,132,133,134,135,136,137,138,139,140,141,142,143,144,145,146,147,148,149])])=some (zeF.strip,zeG,119):=by kernel_rfl
def zcU:ACode:=.seq (.region [ (oN 11 (.bin .lss (.t 10) (.t 9)))] []) (.seq (.cond (.t 11) (.skip) (.exit 0)) (.seq (.block 1 (.seq (.region [ (oN 12 (.idx 1 (.t 8) (.t 10))),(oN 13 (.load false 1 (.t 12))),(oN 7 (.mov (.t 13)))] [11,12,13]) (.seq (.region [ (oN 14 (.mov (.t 0))),(oN 15 (.mov (.t 7))),(oN 16 (.xop (.mlook (some .i64) false (.bool false)) [(.t 14),(.t 15)])),(oN 17 (.un .not (.t 16)))] [14,15,16]) (.cond (.t 17) (.seq (.region [ (oN 18 (.mov (.t 0))),(oN 19 (.mov (.t 7))),⟨none, .xop (.mset (some .i64)) [(.t 18),(.t 19),(.c (.bool true))],none⟩] [5,7,17,18,19]) (.region [ (oN 5 (.mov (.c (.bool true))))] [])) (.skip))))) (.region [ (oN 20 (.bin .add (.t 10) (.c (.int .i64 1)))),(oN 10 (.mov (.t 20)))] [7,17,20])))
def zcW:ACode:=.seq (.region [ (oN 21 (.mov (.t 5))),(oN 4 (.mov (.t 21)))] [0,5,8,9,10,21]) (.ret)
def zd9:ACode:=.seq (.region [ (oN 4 (.mov (.c (.bool false))))] [4]) (.seq (.region [ (oN 5 (.mov (.c (.bool false))))] []) (.seq (.seq (.region [ (oN 8 (.mov (.t 1))),(oN 9 (.len (.t 8))),(oN 10 (.mov (.c (.int .i64 0))))] [1]) (.block 0 (.loop zcU))) (zcW)))
def zd3:List ARet:=[.tmp 4]
theorem zfY:zac Try.prog zo (qRo [])=some (zd9.strip,zd3,22):=by kernel_rfl
def zcP:ACode:=.seq (.region [ (oN 7 (.mnext (.t 6))),(oN 8 (.ext 0 (.t 7)))] [7]) (.seq (.cond (.t 8) (.skip) (.exit 0)) (.block 1 (.seq (.region [ (oN 9 (.xop .ment [(.t 6)])),(oN 10 (.ext 0 (.t 9))),(oN 4 (.mov (.t 10)))] [8,9,10]) (.region [ (oN 11 (.mov (.t 3))),(oN 12 (.mov (.t 4))),(oN 13 (.buildSl 1 1 [.int .i64 0] [(0,(.t 12))])),(oN 14 (.append 1 8 (.t 11) (.t 13))),(oN 3 (.mov (.t 14)))] [4,11,12,13,14]))))
def zcO:ACode:=.seq (.region [ (oN 15 (.mov (.t 3))),(oN 16 (.call zdg [(.t 15)]))] [6,15,16]) (.seq (.region [ (oN 17 (.mov (.t 3))),(oN 2 (.mov (.t 17)))] [3,17]) (.ret))
def zdI:ACode:=.seq (.region [ (oN 2 (.mknil 1))] [2]) (.seq (.region [ (oN 3 (.mknil 1))] []) (.seq (.seq (.region [ (oN 5 (.mov (.t 0))),(oN 6 (.xop .mrange [(.t 5)]))] [0,5]) (.block 0 (.loop zcP))) (zcO)))
def zdD:List ARet:=[.tmp 2]
theorem zft:zac Try.prog zc (qRo [])=some (zdI.strip,zdD,18):=by kernel_rfl
def ze0:ACode:=.seq (.region [ (oN 2 (.rbox (.t 0))),(oN 4 (.mov (.c (.bool false))))] [0,4]) (.seq (.region [ (oN 5 (.fldaddr 0 1 (.t 2))),(oN 6 (.load false 1 (.t 5))),(oN 7 (.bin .eql (.t 6) (.c (.int .i64 1)))),(oN 8 (.mov (.t 7))),(oG 9 8 true (.mov (.t 1))),(oG 10 8 true (.fldaddr 1 1 (.t 2))),(oG 11 8 true (.load false 1 (.t 10))),(oG 12 8 true (.xop (.mlook (some .i64) false (.bool false)) [(.t 9),(.t 11)])),(oG 13 8 true (.un .not (.t 12))),(oN 14 (.pick (.t 8) (.t 13) (.c (.bool false)))),(oN 15 (.mov (.t 14))),(oG 16 15 true (.fldaddr 6 1 (.t 2))),(oG 17 15 true (.load false 1 (.t 16))),(oG 18 15 true (.call zy [(.t 17),(.c (.fn (.func zca) []))])),(oG 19 15 true (.un .not (.t 18))),(oN 20 (.pick (.t 15) (.t 19) (.c (.bool false)))),(oN 4 (.mov (.t 20)))] [1,2,5,6,7,8,9,10,11,12,13,14,15,16,17,18,19,20]) (.ret))
def zch:List ARet:=[.tmp 4]
theorem ziF:zac Try.prog zdF (qRo [2])=some (ze0.strip,zch,21):=by kernel_rfl
def zgj:ACode:=.seq (.region [ (oN 12 (.bin .lss (.t 11) (.t 10)))] []) (.seq (.cond (.t 12) (.skip) (.exit 0)) (.seq (.block 1 (.seq (.region [ (oN 13 (.idx 1 (.t 9) (.t 11))),(oN 14 (.load false 1 (.t 13))),(oN 7 (.mov (.t 14)))] [12,13,14]) (.region [ (oN 15 (.mov (.t 0))),(oN 16 (.mov (.t 7))),⟨none, .xop (.mdel (some .i64)) [(.t 15),(.t 16)],none⟩] [7,15,16]))) (.region [ (oN 17 (.bin .add (.t 11) (.c (.int .i64 1)))),(oN 11 (.mov (.t 17)))] [17])))
def zfZ:ACode:=.seq (.region [ (oN 18 (.mov (.t 0))),(oN 19 (.load true 8 (.t 4))),(oN 20 (.call zek [(.t 19)])),(oN 21 (.call zo [(.t 18),(.t 20)]))] [9,10,11,18,19,20,21]) (.seq (.region [ (oN 22 (.load true 8 (.t 4))),(oN 23 (.call zeR [(.t 22)]))] [4,22]) (.cond (.t 23) (.region [ (oN 24 (.mov (.t 0))),(oN 25 (.mov (.t 2))),(oN 26 (.call zo [(.t 24),(.t 25)]))] [0,2,23,24,25,26]) (.skip)))
def zhP:ACode:=.seq (.region [ (oN 4 (.rbox (.t 1)))] [1]) (.seq (.seq (.region [ (oN 8 (.load true 8 (.t 4))),(oN 9 (.call zer [(.t 8)])),(oN 10 (.len (.t 9))),(oN 11 (.mov (.c (.int .i64 0))))] [8]) (.block 0 (.loop zgj))) (zfZ))
def zfe:List ARet:=[]
theorem zls:zac Try.prog zey (qRo [4])=some (zhP.strip,zfe,27):=by kernel_rfl
def zbo:ACode:=.seq (.seq (.region [ (oN 7 (.mov (.t 2))),(oN 8 (.mov (.t 3))),(oN 9 (.bin .lss (.t 7) (.t 8)))] [7,8]) (.cond (.t 9) (.skip) (.exit 0))) (.seq (.block 1 (.draw ( .step (oN 14 (.mov (.t 0))) ( .step (oN 15 (.mov (.t 2))) ( .step (oN 16 (.mov (.t 0))) ( .step (oN 17 (.mov (.t 3))) ( .step (oN 18 (.mov (.t 0))) ( .step (oN 19 (.mov (.t 3))) ( .step (oN 20 (.idx 8 (.t 18) (.t 19))) ( .step (oN 21 (.load true 8 (.t 20))) ( .step (oN 22 (.mov (.t 0))) ( .step (oN 23 (.mov (.t 2))) ( .alt (oN 24 (.idx 8 (.t 22) (.t 23))) ( .step (oN 25 (.load true 8 (.t 24))) ( .step (oN 26 (.idx 8 (.t 14) (.t 15))) ( .alt ⟨none, .store 8 (.t 26) (.t 21),none⟩ ( .step (oN 27 (.idx 8 (.t 16) (.t 17))) ( .alt ⟨none, .store 8 (.t 27) (.t 25),none⟩ ( .done) ( .stop))) ( .stop)))) ( .stop)))))))))))) [9,14,15,16,17,18,19,20,21,22,23,24,25,26,27])) (.region [ (oN 10 (.mov (.t 2))),(oN 11 (.bin .add (.t 10) (.c (.int .i64 1)))),(oN 12 (.mov (.t 3))),(oN 13 (.bin .sub (.t 12) (.c (.int .i64 1)))),(oN 2 (.mov (.t 11))),(oN 3 (.mov (.t 13)))] [10,11,12,13]))
def zbQ:ACode:=.seq (.region [ (oN 4 (.mov (.t 0))),(oN 5 (.len (.t 4))),(oN 6 (.bin .sub (.t 5) (.c (.int .i64 1)))),(oN 2 (.mov (.c (.int .i64 0)))),(oN 3 (.mov (.t 6)))] [4,5,6]) (.block 0 (.loop zbo))
def zbP:List ARet:=[]
theorem zd1:zac Try.prog zaG (qRo [])=some (zbQ.strip,zbP,28):=by kernel_rfl
def znx:ACode:=.seq (.region [ (oN 1 (.rbox (.t 0))),(oN 2 (.mknil 1))] [0,2]) (.seq (.region [ (oN 3 (.alloc [.nilsl]))] []) (.seq (.region [ (oN 4 (.load true 5 (.t 1))),(oN 5 (.mkfn (.func zfW) [(.t 3)])),(oN 6 (.call ziT [(.t 4),(.t 5)]))] [1,4,5,6]) (.seq (.region [ (oN 7 (.load false 1 (.t 3))),(oN 8 (.call zdg [(.t 7)]))] [7,8]) (.seq (.region [ (oN 9 (.load false 1 (.t 3))),(oN 10 (.call zcw [(.t 9)])),(oN 2 (.mov (.t 10)))] [3,9,10]) (.ret)))))
def zng:List ARet:=[.tmp 2]
theorem zsU:zac Try.prog zmw (qRo [1])=some (znx.strip,zng,11):=by kernel_rfl
def zb2:ACode:=.seq (.seq (.region [ (oN 29 (.mov (.t 5))),(oN 30 (.mov (.t 4))),(oN 31 (.len (.t 30))),(oN 32 (.bin .lss (.t 29) (.t 31)))] [29,30,31]) (.cond (.t 32) (.skip) (.exit 2))) (.seq (.block 3 (.seq (.draw ( .step (oN 35 (.mov (.t 4))) ( .step (oN 36 (.mov (.t 5))) ( .step (oN 37 (.idx 1 (.t 35) (.t 36))) ( .step (oN 38 (.load false 1 (.t 37))) ( .step (oN 39 (.mov (.t 4))) ( .step (oN 40 (.mov (.t 5))) ( .step (oN 41 (.bin .sub (.t 40) (.c (.int .i64 1)))) ( .step (oN 42 (.idx 1 (.t 39) (.t 41))) ( .step (oN 43 (.load false 1 (.t 42))) ( .step (oN 44 (.bin .neq (.t 38) (.t 43))) ( .done))))))))))) [32,35,36,37,38,39,40,41,42,43]) (.cond (.t 44) (.seq (.region [ (oN 45 (.mov (.t 0))),(oN 46 (.mov (.t 3))),(oN 47 (.mov (.t 4))),(oN 48 (.mov (.t 5))),(oN 49 (.idx 1 (.t 47) (.t 48))),(oN 50 (.load false 1 (.t 49))),(oN 51 (.idx 1 (.t 45) (.t 46))),⟨none, .store 1 (.t 51) (.t 50),none⟩] [44,45,46,47,48,49,50,51]) (.region [ (oN 52 (.mov (.t 3))),(oN 53 (.bin .add (.t 52) (.c (.int .i64 1)))),(oN 3 (.mov (.t 53)))] [52,53])) (.skip)))) (.region [ (oN 33 (.mov (.t 5))),(oN 34 (.bin .add (.t 33) (.c (.int .i64 1)))),(oN 5 (.mov (.t 34)))] [33,34,44]))
def zbY:ACode:=.seq (.region [ (oN 54 (.mov (.t 0))),(oN 55 (.mov (.t 3))),(oN 56 (.slice 1 (.t 54) (some (.t 55)) none)),⟨none, .clear 1 [.int .u32 0] (.t 56),none⟩] [4,5,54,55,56]) (.seq (.region [ (oN 57 (.mov (.t 0))),(oN 58 (.mov (.t 3))),(oN 59 (.slice 1 (.t 57) none (some (.t 58)))),(oN 2 (.mov (.t 59)))] [0,3,57,58,59]) (.ret))
def zb4:ACode:=.region [ (oN 14 (.mov (.t 3))),(oN 15 (.bin .add (.t 14) (.c (.int .i64 1)))),(oN 3 (.mov (.t 15)))] [2,14,15,25]
def zb6:ACode:=.seq (.seq (.region [ (oN 10 (.mov (.t 3))),(oN 11 (.mov (.t 0))),(oN 12 (.len (.t 11))),(oN 13 (.bin .lss (.t 10) (.t 12)))] [10,11,12]) (.cond (.t 13) (.skip) (.exit 0))) (.seq (.block 1 (.seq (.draw ( .step (oN 16 (.mov (.t 0))) ( .step (oN 17 (.mov (.t 3))) ( .step (oN 18 (.idx 1 (.t 16) (.t 17))) ( .step (oN 19 (.load false 1 (.t 18))) ( .step (oN 20 (.mov (.t 0))) ( .step (oN 21 (.mov (.t 3))) ( .step (oN 22 (.bin .sub (.t 21) (.c (.int .i64 1)))) ( .step (oN 23 (.idx 1 (.t 20) (.t 22))) ( .step (oN 24 (.load false 1 (.t 23))) ( .step (oN 25 (.bin .eql (.t 19) (.t 24))) ( .done))))))))))) [13,16,17,18,19,20,21,22,23,24]) (.cond (.t 25) (.seq (.region [ (oN 26 (.mov (.t 0))),(oN 27 (.mov (.t 3))),(oN 28 (.slice 1 (.t 26) (some (.t 27)) none)),(oN 4 (.mov (.t 28)))] [25,26,27,28]) (.seq (.seq (.region [ (oN 5 (.mov (.c (.int .i64 1))))] []) (.block 2 (.loop zb2))) (zbY))) (.skip)))) (zb4))
def zbZ:ACode:=.seq (.region [ (oN 60 (.mov (.t 0))),(oN 2 (.mov (.t 60)))] [0,3,60]) (.ret)
def zcy:ACode:=.seq (.region [ (oN 2 (.mknil 1))] [2]) (.seq (.seq (.region [ (oN 6 (.mov (.t 0))),(oN 7 (.len (.t 6))),(oN 8 (.bin .lss (.t 7) (.c (.int .i64 2))))] [6,7]) (.cond (.t 8) (.seq (.region [ (oN 9 (.mov (.t 0))),(oN 2 (.mov (.t 9)))] [0,8,9]) (.ret)) (.skip))) (.seq (.seq (.region [ (oN 3 (.mov (.c (.int .i64 1))))] [2,8]) (.block 0 (.loop zb6))) (zbZ)))
def zaf:List ARet:=[.tmp 2]
theorem zeS:zac Try.prog zal (qRo [])=some (zcy.strip,zaf,61):=by kernel_rfl
def zfj:ACode:=.seq (.region [ (oN 10 (.bin .lss (.t 9) (.t 8)))] []) (.seq (.cond (.t 10) (.skip) (.exit 0)) (.seq (.block 1 (.seq (.region [ (oN 11 (.idx 5 (.t 7) (.t 9))),(oN 12 (.load true 5 (.t 11))),(oN 5 (.alloc [.int .i64 0, .int .u32 0, .int .i64 0, .int .i64 0, .nilsl])),⟨none, .store 5 (.t 5) (.t 12),none⟩] [10,11,12]) (.region [ (oN 13 (.mov (.t 3))),(oN 14 (.load true 5 (.t 5))),(oN 15 (.call zdS [(.t 14)])),(oN 16 (.buildSl 5 1 [.int .i64 0, .int .u32 0, .int .i64 0, .int .i64 0, .nilsl] [(0,(.t 15))])),(oN 17 (.append 5 56 (.t 13) (.t 16))),(oN 3 (.mov (.t 17)))] [5,13,14,15,16,17]))) (.region [ (oN 18 (.bin .add (.t 9) (.c (.int .i64 1)))),(oN 9 (.mov (.t 18)))] [18])))
def zfp:ACode:=.seq (.region [ (oN 19 (.mov (.t 3))),(oN 20 (.fldaddr 4 1 (.t 1))),⟨none, .store 1 (.t 20) (.t 19),none⟩] [3,7,8,9,19,20]) (.seq (.region [ (oN 21 (.load true 5 (.t 1))),⟨none, .store 5 (.t 2) (.t 21),none⟩] [1,21]) (.ret))
def zgS:ACode:=.seq (.region [ (oN 1 (.box (.t 0))),(oN 2 (.alloc [.int .i64 0, .int .u32 0, .int .i64 0, .int .i64 0, .nilsl]))] [0]) (.seq (.region [ (oN 3 (.mknil 5))] []) (.seq (.seq (.region [ (oN 6 (.fldaddr 4 1 (.t 1))),(oN 7 (.load false 1 (.t 6))),(oN 8 (.len (.t 7))),(oN 9 (.mov (.c (.int .i64 0))))] [6]) (.block 0 (.loop zfj))) (zfp)))
def zg0:List ARet:=[.cell 2 true 5]
theorem zkA:zac Try.prog zdS (qRo [])=some (zgS.strip,zg0,22):=by kernel_rfl
def zgW:ACode:=.seq (.region [ (oN 1 (.rbox (.t 0))),(oN 2 (.mov (.c (.bool false))))] [0,2]) (.seq (.region [ (oN 3 (.fldaddr 0 1 (.t 1))),(oN 4 (.load false 1 (.t 3))),(oN 5 (.bin .eql (.t 4) (.c (.int .i64 18)))),(oN 6 (.mov (.t 5))),(oG 7 6 false (.fldaddr 4 1 (.t 1))),(oG 8 6 false (.load false 1 (.t 7))),(oG 9 6 false (.call zy [(.t 8),(.c (.fn (.func zca) []))])),(oN 10 (.pick (.t 6) (.c (.bool true)) (.t 9))),(oN 2 (.mov (.t 10)))] [1,3,4,5,6,7,8,9,10]) (.ret))
def zeU:List ARet:=[.tmp 2]
theorem zkn:zac Try.prog zca (qRo [1])=some (zgW.strip,zeU,11):=by kernel_rfl
def zgE:ACode:=.seq (.region [ (oN 1 (.rbox (.t 0))),(oN 2 (.mov (.c (.bool false))))] [0,2]) (.seq (.region [ (oN 3 (.fldaddr 0 1 (.t 1))),(oN 4 (.load false 1 (.t 3))),(oN 5 (.bin .eql (.t 4) (.c (.int .i64 9)))),(oN 6 (.mov (.t 5))),(oG 7 6 false (.fldaddr 0 1 (.t 1))),(oG 8 6 false (.load false 1 (.t 7))),(oG 9 6 false (.bin .eql (.t 8) (.c (.int .i64 10)))),(oN 10 (.pick (.t 6) (.c (.bool true)) (.t 9))),(oN 11 (.mov (.t 10))),(oG 12 11 false (.fldaddr 0 1 (.t 1))),(oG 13 11 false (.load false 1 (.t 12))),(oG 14 11 false (.bin .eql (.t 13) (.c (.int .i64 5)))),(oN 15 (.pick (.t 11) (.c (.bool true)) (.t 14))),(oN 2 (.mov (.t 15)))] [1,3,4,5,6,7,8,9,10,11,12,13,14,15]) (.ret))
def zc3:List ARet:=[.tmp 2]
theorem zkb:zac Try.prog zeR (qRo [1])=some (zgE.strip,zc3,16):=by kernel_rfl
def zje:ACode:=.seq (.region [ (oN 13 (.bin .lss (.t 12) (.t 11)))] []) (.seq (.cond (.t 13) (.skip) (.exit 0)) (.seq (.block 1 (.seq (.region [ (oN 14 (.idx 5 (.t 10) (.t 12))),(oN 15 (.load true 5 (.t 14))),(oN 5 (.alloc [.int .i64 0, .int .u32 0, .int .i64 0, .int .i64 0, .nilsl])),⟨none, .store 5 (.t 5) (.t 15),none⟩] [13,14,15]) (.region [ (oN 16 (.load true 5 (.t 5))),(oN 17 (.mov (.t 1))),(oN 18 (.call ziT [(.t 16),(.t 17)]))] [5,16,17,18]))) (.region [ (oN 19 (.bin .add (.t 12) (.c (.int .i64 1)))),(oN 12 (.mov (.t 19)))] [19])))
def zmh:ACode:=.seq (.region [ (oN 2 (.rbox (.t 0)))] [0]) (.seq (.region [ (oN 6 (.mov (.t 1))),(oN 7 (.load true 5 (.t 2))),(oN 8 (.callv (.t 6) [(.t 7)]))] [6,7,8]) (.seq (.region [ (oN 9 (.fldaddr 4 1 (.t 2))),(oN 10 (.load false 1 (.t 9))),(oN 11 (.len (.t 10))),(oN 12 (.mov (.c (.int .i64 0))))] [2,9]) (.block 0 (.loop zje))))
def zmf:List ARet:=[]
theorem zrN:zac Try.prog ziT (qRo [2])=some (zmh.strip,zmf,20):=by kernel_rfl
def zkY:ACode:=.seq (.region [ (oN 2 (.rbox (.t 0)))] [0]) (.seq (.region [ (oN 3 (.fldaddr 0 1 (.t 2))),(oN 4 (.load false 1 (.t 3))),(oN 5 (.bin .eql (.t 4) (.c (.int .i64 2))))] [3,4]) (.cond (.t 5) (.region [ (oN 6 (.load false 1 (.t 1))),(oN 7 (.fldaddr 2 1 (.t 2))),(oN 8 (.load false 1 (.t 7))),(oN 9 (.buildSl 1 1 [.int .i64 0] [(0,(.t 8))])),(oN 10 (.append 1 8 (.t 6) (.t 9))),⟨none, .store 1 (.t 1) (.t 10),none⟩] [1,2,5,6,7,8,9,10]) (.skip)))
def zix:List ARet:=[]
theorem zpt:zac Try.prog zfW (qRo [2])=some (zkY.strip,zix,11):=by kernel_rfl
def filR (p:Nat→Bool) (n:Nat):List Nat:=(List.range n).filter p
theorem zwK {p:Nat→Bool} {n:Nat} (h:p n=true):filR p (n+1)=filR p n++[n]:=by unfold filR;rw [List.range_succ,List.filter_append];simp [h]
theorem zwy {p:Nat→Bool} {n:Nat} (h:p n=false):filR p (n+1)=filR p n:=by unfold filR;rw [List.range_succ,List.filter_append];simp [h]
theorem zzC {p:Nat→Bool} {n:Nat}:(filR p n).length≤n:=by unfold filR;exact Nat.le_trans (List.length_filter_le _ _) (by simp)
theorem zxD {H H2:AH} {σ:Nat→Nat→Option (Nat × Nat × Nat)} {D:Nat→Nat→Prop} {t:Bool} {r q g:Nat} {l m:List Int} (hD:D r q) (hg:H.get r q=some (.row 1 ((l++m).map cI) g)) (hb:l.length≤big) :
  Vw H H2 σ D t (.own r q g 0 l.length) (za l):=by
 refine .frz t r q g 0 l.length 1 ((l++m).map cI) _ hD hg hb (by simp) (fun i j hi hj=>?_)
 obtain rfl:j=0:=by omega
 rw [Nat.zero_add,zz (show i < (l++m).length by simp;omega),zz hi,List.getElem_append_left hi]
 exact .int _ _ _
def zdM (l:List Int) (j:Nat):Bool:=j == 0||(l.getD j 0 != l.getD (j - 1) 0)
def zK (l:List Int) (n:Nat):List Int:=(filR (zdM l) n).map (fun j=>l.getD j 0)
def zbf (l:List Int):List Int:=zK l l.length
theorem zny {l:List Int} {n:Nat}:(zK l n).length≤n:=by
 unfold zK
 rw [List.length_map]
 exact zzC
theorem ziM {l:List Int} {j:Nat} (hj:j < l.length) (h:zdM l j=true):zK l (j+1)=zK l j++[l[j]]:=by
 unfold zK
 rw [zwK h,List.map_append]
 simp [List.getD_eq_getElem?_getD,hj]
theorem zin {l:List Int} {j:Nat} (h:zdM l j=false):zK l (j+1)=zK l j:=by
 unfold zK
 rw [zwy h]
theorem ziN {l:List Int} {n:Nat} (hn:n≤l.length) (h:∀ j,j < n→zdM l j=true):zK l n=l.take n:=by
 induction n with
 | zero=>rfl
 |
  succ n ih =>
  rw [ziM (by omega) (h n (by omega)),ih (by omega) (fun j hj=>h j (by omega)),List.take_add_one,List.getElem?_eq_getElem (by omega)]
  rfl
theorem zdL {l:List Int} {j:Nat} (h1:1≤j) (hj:j < l.length):zdM l j=(l[j] != l[j - 1]):=by
 unfold zdM
 rw [List.getD_eq_getElem?_getD,List.getD_eq_getElem?_getD,List.getElem?_eq_getElem hj,List.getElem?_eq_getElem (show j - 1 < l.length by omega)]
 simp
 omega
def curI (K l:List Int):List Int:=K++l.drop K.length
theorem zlC {K l:List Int} (h:K.length≤l.length):(curI K l).length=l.length:=by simp [curI];omega
theorem zr9 {K l:List Int} {j:Nat} (h:K.length≤j) (hj:j < l.length):(curI K l)[j]? = some l[j]:=by
 unfold curI
 rw [List.getElem?_append_right h,List.getElem?_drop,show K.length+(j - K.length)=j by omega,List.getElem?_eq_getElem hj]
theorem zpV {K l:List Int} {j:Nat} (h:K.length≤j) (hj:j < l.length):((curI K l).map cI).getD j []=[.int .i64 l[j]]:=by
 simp [List.getD_eq_getElem?_getD,zr9 h hj]
theorem zr8 {K l:List Int} {v:Int} (h:K.length < l.length):(curI K l).set K.length v=curI (K++[v]) l:=by
 unfold curI
 rw [List.set_append_right _ _ (Nat.le_refl _),Nat.sub_self,List.drop_eq_getElem_cons h,List.set_cons_zero]
 simp
theorem zwh {K l:List Int} {v:Int} (h:K.length < l.length):((curI K l).map cI).set K.length [.int .i64 v]=(curI (K++[v]) l).map cI:=by
 rw [← zr8 h,List.map_set]
theorem zpf {l:List Int} {n:Nat} (h:n≤l.length):curI (l.take n) l=l:=by
 unfold curI
 rw [List.length_take,Nat.min_eq_left h,List.take_append_drop]
theorem znX (l:List Int) (g:Nat) (hl:l.length≤100000000000) :
  zN Try.prog zcw [.own 0 0 g 0 l.length] [(0, .row 1 (l.map cI) g)] 1
   (fun v H nx=>∃ m,v=.own 0 0 g 0 (zbf l).length∧H=[(0, .row 1 ((zbf l++m).map cI) g)]∧nx=1):=by
 refine z7 (fn_x zgL rfl ?_)
 unfold zdO
 have hB:=hBig
 have fin:∀ K m,(∀ j,j < l.length→zdM l j=true)→K=(4,AV.undef)→m=0→zbf l=l:=fun K m h _ _=>by unfold zbf;rw [ziN (Nat.le_refl _) h,List.take_length]
 (repeat first | simp (disch:=try exact dis1) only [evD,Nat.reduceBEq,Nat.reduceAdd,Nat.reduceLeDiff] | with_reducible intro _ | ((with_reducible apply And.intro);omega))
 (refine z6 (fun h=>?_) (fun h=>?_))<;>(try simp only [dcd] at h)
 ·
  (repeat first | simp (disch:=try exact dis1) only [evD,Nat.reduceBEq,Nat.reduceAdd,Nat.reduceLeDiff,zbe] | with_reducible intro _ | ((with_reducible apply And.intro);omega))
  have hall:∀ j,j < l.length→zdM l j=true:=fun j hj=>by
   have:j=0:=by omega
   subst this
   rfl
  have e:=fin (4, .undef) 0 hall rfl rfl
  refine ⟨.own 0 0 g 0 l.length,[(0, .row 1 ((l++[]).map cI) g)],1,?_,[],by rw [e],by rw [e],rfl⟩
  rw [List.append_nil]
  exact (Ent.tabB [(0,0,0)] [] rfl rfl rfl (by (try simp only [evWB,Nat.reduceBEq,Nat.reduceAdd,Nat.reduceSub,Nat.reduceLeDiff,Nat.reduceLT,implies_true])<;>exact fin2) (by (try simp only [evWB,Nat.reduceBEq,Nat.reduceAdd,Nat.reduceSub,Nat.reduceLeDiff,Nat.reduceLT,implies_true])<;>exact fin2))
 (repeat first | simp (disch:=try exact dis1) only [evD,Nat.reduceBEq,Nat.reduceAdd,Nat.reduceLeDiff] | with_reducible intro _ | ((with_reducible apply And.intro);omega))
 refine zf (fun i:Nat=>([(0, .own 0 0 g 0 l.length),(3, .int .i64 i)],[(0, .row 1 (l.map cI) g)])) 1 (fun i=>1≤i∧i≤l.length∧∀ j,j < i→zdM l j=true) (fun i=>l.length - i) 1 ⟨by omega,by omega,fun j hj=>(by rw [show j=0 by omega];rfl)⟩ (Ent.tabB [(0,0,0)] [] rfl rfl rfl (by (try simp only [evWB,Nat.reduceBEq,Nat.reduceAdd,Nat.reduceSub,Nat.reduceLeDiff,Nat.reduceLT,implies_true])<;>exact fin2) (by (try simp only [evWB,Nat.reduceBEq,Nat.reduceAdd,Nat.reduceSub,Nat.reduceLeDiff,Nat.reduceLT,implies_true])<;>exact fin2)) ?_
 intro i ⟨hi1,hi2,hall⟩ wf
 unfold zcY
 (repeat first | simp (disch:=try exact dis1) only [evD,Nat.reduceBEq,Nat.reduceAdd,Nat.reduceLeDiff] | with_reducible intro _ | ((with_reducible apply And.intro);omega))
 (refine z6 (fun h2=>?_) (fun h2=>?_))<;>(try simp only [dcd] at h2)
 ·
  have hi':i < l.length:=by omega
  have hi1':i - 1 < l.length:=by omega
  have ei:((i:Int) - 1).toNat=i - 1:=by omega
  (repeat first | simp (disch:=try exact dis1) only [evD,Nat.reduceBEq,Nat.reduceAdd,Nat.reduceLeDiff,zz hi',ei,zz hi1'] | with_reducible intro _ | ((with_reducible apply And.intro);omega))
  (refine z6 (fun h3=>?_) (fun h3=>?_))<;>(try simp only [dcd] at h3)
  ·
   have hne:zdM l i=false:=by rw [zdL hi1 hi'];simp;omega
   have hk0:zK l i=l.take i:=ziN (by omega) hall
   have hk1:zK l (i+1)=l.take i:=by rw [zin hne,hk0]
   have hk1l:(zK l (i+1)).length=i:=by rw [hk1,List.length_take];omega
   have hstart:curI (zK l (i+1)) l=l:=by rw [hk1,zpf (by omega)]
   have esl:((l.length:Int) - i).toNat=l.length - i:=by omega
   (repeat first | simp (disch:=try exact dis1) only [evD,Nat.reduceBEq,Nat.reduceAdd,Nat.reduceLeDiff,esl] | with_reducible intro _ | ((with_reducible apply And.intro);omega))
   refine zf (fun a:Nat=>([(0, .own 0 0 g 0 l.length),(3, .int .i64 (zK l (i+a)).length),(4, .own 0 0 g i (l.length - i)),(5, .int .i64 a)],[(0, .row 1 ((curI (zK l (i+a)) l).map cI) g)])) 1
    (fun a=>1≤a∧i+a≤l.length∧(zK l (i+a)).length < i+a) (fun a=>l.length - (i+a)) 1 ⟨by omega,by omega,by omega⟩ (Ent.tabB [(0,0,0)] [] rfl rfl rfl (by (try simp only [evWB,Nat.reduceBEq,Nat.reduceAdd,Nat.reduceSub,Nat.reduceLeDiff,Nat.reduceLT,implies_true,hstart,hk1l])<;>exact fin2) (by (try simp only [evWB,Nat.reduceBEq,Nat.reduceAdd,Nat.reduceSub,Nat.reduceLeDiff,Nat.reduceLT,implies_true,hstart,hk1l])<;>exact fin2)) ?_
   intro a ⟨ha1,ha2,ha3⟩ wf
   unfold zc0
   (repeat first | simp (disch:=try exact dis1) only [evD,Nat.reduceBEq,Nat.reduceAdd,Nat.reduceLeDiff] | with_reducible intro _ | ((with_reducible apply And.intro);omega))
   (refine z6 (fun h4=>?_) (fun h4=>?_))<;>(try simp only [dcd] at h4)
   ·
    have ha':i+a < l.length:=by omega
    have ha1':i+a - 1 < l.length:=by omega
    have e1:i+((a:Int) - 1).toNat=i+a - 1:=by omega
    have g1:=zpV (K:=zK l (i+a)) (l:=l) (by omega) ha'
    have g2:=zpV (K:=zK l (i+a)) (l:=l) (by omega) ha1'
    have hcl:=zlC (K:=zK l (i+a)) (l:=l) (by omega)
    (repeat first | simp (disch:=try exact dis1) only [evD,Nat.reduceBEq,Nat.reduceAdd,Nat.reduceLeDiff,e1,g1,g2] | with_reducible intro _ | ((with_reducible apply And.intro);omega))
    (refine z6 (fun h5=>?_) (fun h5=>?_))<;>(try simp only [dcd] at h5)
    ·
     have hp:zdM l (i+a)=true:=by rw [zdL (by omega) ha'];simp;omega
     have hy:=ziM ha' hp
     have hst:=zwh (K:=zK l (i+a)) (l:=l) (v:=l[i+a]) (by omega)
     rw [← hy] at hst
     have hyl:(zK l (i+a+1)).length=(zK l (i+a)).length+1:=by rw [hy];simp
     (repeat first | simp (disch:=try exact dis1) only [evD,Nat.reduceBEq,Nat.reduceAdd,Nat.reduceLeDiff,e1,g1,g2,hst] | with_reducible intro _ | ((with_reducible apply And.intro);omega))
     exact ⟨a+1,⟨by omega,by omega,by rw [show i+(a+1)=i+a+1 by omega,hyl];omega⟩,by omega,(Ent.tabB [(0,0,0)] [] rfl rfl rfl (by (try simp only [evWB,Nat.reduceBEq,Nat.reduceAdd,Nat.reduceSub,Nat.reduceLeDiff,Nat.reduceLT,implies_true,show i+(a+1)=i+a+1 by omega,hyl])<;>exact fin2) (by (try simp only [evWB,Nat.reduceBEq,Nat.reduceAdd,Nat.reduceSub,Nat.reduceLeDiff,Nat.reduceLT,implies_true,show i+(a+1)=i+a+1 by omega,hyl])<;>exact fin2))⟩
    ·
     have hp:zdM l (i+a)=false:=by rw [zdL (by omega) ha'];simp;omega
     have hy:=zin hp
     (repeat first | simp (disch:=try exact dis1) only [evD,Nat.reduceBEq,Nat.reduceAdd,Nat.reduceLeDiff] | with_reducible intro _ | ((with_reducible apply And.intro);omega))
     exact ⟨a+1,⟨by omega,by omega,by rw [show i+(a+1)=i+a+1 by omega,hy];omega⟩,by omega,(Ent.tabB [(0,0,0)] [] rfl rfl rfl (by (try simp only [evWB,Nat.reduceBEq,Nat.reduceAdd,Nat.reduceSub,Nat.reduceLeDiff,Nat.reduceLT,implies_true,show i+(a+1)=i+a+1 by omega,hy])<;>exact fin2) (by (try simp only [evWB,Nat.reduceBEq,Nat.reduceAdd,Nat.reduceSub,Nat.reduceLeDiff,Nat.reduceLT,implies_true,show i+(a+1)=i+a+1 by omega,hy])<;>exact fin2))⟩
   ·
    have hia:i+a=l.length:=by omega
    rw [hia] at ha3 ⊢
    have hz:((l.length:Int) - (zK l l.length).length).toNat=l.length - (zK l l.length).length:=by omega
    have hcl:=zlC (K:=zK l l.length) (l:=l) (by omega)
    have hclr:((curI (zK l l.length) l).map cI).take (zK l l.length).length++List.replicate (l.length - (zK l l.length).length) [AV.int .i64 0]++((curI (zK l l.length) l).map cI).drop ((zK l l.length).length+(l.length - (zK l l.length).length))=(zK l l.length++List.replicate (l.length - (zK l l.length).length) 0).map cI:=by
     rw [List.drop_of_length_le (by rw [List.length_map,hcl];omega),List.append_nil,← List.map_take,List.map_append,List.map_replicate]
     congr 2
     unfold curI
     rw [List.take_append_of_le_length (Nat.le_refl _),List.take_length]
    unfold zc2
    (repeat first | simp (disch:=try exact dis1) only [evD,Nat.reduceBEq,Nat.reduceAdd,Nat.reduceLeDiff,zbe,hz,hclr] | with_reducible intro _ | ((with_reducible apply And.intro);omega))
    refine ⟨.own 0 0 g 0 (zbf l).length,[(0, .row 1 ((zbf l++List.replicate (l.length - (zK l l.length).length) 0).map cI) g)],1,?_,_,rfl,rfl,rfl⟩
    exact (Ent.tabB [(0,0,0)] [] rfl rfl rfl (by (try simp only [evWB,Nat.reduceBEq,Nat.reduceAdd,Nat.reduceSub,Nat.reduceLeDiff,Nat.reduceLT,implies_true,zbf])<;>exact fin2) (by (try simp only [evWB,Nat.reduceBEq,Nat.reduceAdd,Nat.reduceSub,Nat.reduceLeDiff,Nat.reduceLT,implies_true,zbf])<;>exact fin2))
  ·
   have hne:zdM l i=true:=by rw [zdL hi1 hi'];simp;omega
   unfold zc4
   (repeat first | simp (disch:=try exact dis1) only [evD,Nat.reduceBEq,Nat.reduceAdd,Nat.reduceLeDiff] | with_reducible intro _ | ((with_reducible apply And.intro);omega))
   refine ⟨i+1,⟨by omega,by omega,fun j hj=>?_⟩,by omega,(Ent.tabB [(0,0,0)] [] rfl rfl rfl (by (try simp only [evWB,Nat.reduceBEq,Nat.reduceAdd,Nat.reduceSub,Nat.reduceLeDiff,Nat.reduceLT,implies_true])<;>exact fin2) (by (try simp only [evWB,Nat.reduceBEq,Nat.reduceAdd,Nat.reduceSub,Nat.reduceLeDiff,Nat.reduceLT,implies_true])<;>exact fin2))⟩
   by_cases hji:j=i
   · subst hji;exact hne
   · exact hall j (by omega)
 ·
  obtain rfl:i=l.length:=by omega
  unfold zc1
  have e:=fin (4, .undef) 0 hall rfl rfl
  (repeat first | simp (disch:=try exact dis1) only [evD,Nat.reduceBEq,Nat.reduceAdd,Nat.reduceLeDiff,zbe] | with_reducible intro _ | ((with_reducible apply And.intro);omega))
  refine ⟨.own 0 0 g 0 l.length,[(0, .row 1 ((l++[]).map cI) g)],1,?_,[],by rw [e],by rw [e],rfl⟩
  rw [List.append_nil]
  exact (Ent.tabB [(0,0,0)] [] rfl rfl rfl (by (try simp only [evWB,Nat.reduceBEq,Nat.reduceAdd,Nat.reduceSub,Nat.reduceLeDiff,Nat.reduceLT,implies_true])<;>exact fin2) (by (try simp only [evWB,Nat.reduceBEq,Nat.reduceAdd,Nat.reduceSub,Nat.reduceLeDiff,Nat.reduceLT,implies_true])<;>exact fin2))
end Go.Ab
namespace Go.Ab
def insU (n:Int):List Int→List Int
 | []=>[n]
 | x::l=>if x < n then x::insU n l else if x=n then x::l else n::x::l
def zcf (a b:List Int):List Int:=b.foldl (fun a x=>insU x a) a
def Asc (l:List Int):Prop:=l.Pairwise (· < ·)
theorem zoD {n y:Int}:∀ {l:List Int},y∈insU n l↔y=n∨y∈l
 | []=>by simp [insU]
 |
  x::l=>by
  unfold insU
  split
  ·
   rw [List.mem_cons,zoD,List.mem_cons]
   constructor
   ·
    rintro (h | h | h)
    · exact .inr (.inl h)
    · exact .inl h
    · exact .inr (.inr h)
   ·
    rintro (h | h | h)
    · exact .inr (.inl h)
    · exact .inl h
    · exact .inr (.inr h)
  ·
   split
   ·
    rename_i h
    subst h
    simp
   · simp
theorem zrY {n:Int}:∀ {l:List Int},Asc l→Asc (insU n l)
 | [],_=>by simp [insU,Asc]
 |
  x::l,h=>by
  have hx:=fun y (hy:y∈l)=>List.rel_of_pairwise_cons h hy
  have hl:=List.Pairwise.of_cons h
  unfold insU
  split
  ·
   rename_i h1
   refine List.Pairwise.cons (fun y hy=>?_) (zrY hl)
   rcases zoD.1 hy with rfl | hy
   · exact h1
   · exact hx y hy
  ·
   split
   · exact h
   ·
    refine List.Pairwise.cons (fun y hy=>?_) h
    rcases List.mem_cons.1 hy with rfl | hy
    · omega
    ·
     have:=hx y hy
     omega
theorem zeg {y:Int}:∀ {b a:List Int},y∈zcf a b↔y∈a∨y∈b
 | [],a=>by simp [zcf]
 |
  x::b,a=>by
  have:=zeg (y:=y) (b:=b) (a:=insU x a)
  unfold zcf at this ⊢
  rw [List.foldl_cons,this,zoD,List.mem_cons]
  constructor
  ·
   rintro ((h | h) | h)
   · exact .inr (.inl h)
   · exact .inl h
   · exact .inr (.inr h)
  ·
   rintro (h | h | h)
   · exact .inl (.inr h)
   · exact .inl (.inl h)
   · exact .inr h
theorem zeh:∀ {b a:List Int},Asc a→Asc (zcf a b)
 | [],a,h=>h
 |
  x::b,a,h=>by
  have:=zeh (b:=b) (zrY (n:=x) h)
  unfold zcf at this ⊢
  rw [List.foldl_cons]
  exact this
theorem zlJ {l:List Int} (h:Asc l):l.Nodup:=List.nodup_iff_pairwise_ne.2 (List.Pairwise.imp (fun h=>by omega) h)
theorem zoJ:∀ {a b:List Int},Asc a→Asc b→(∀ x,x∈a↔x∈b)→a=b
 | [],[],_,_,_=>rfl
 | [],y::b,_,_,h=>by have:=(h y).2 (by simp);cases this
 | x::a,[],_,_,h=>by have:=(h x).1 (by simp);cases this
 |
  x::a,y::b,ha,hb,h=>by
  have hx:=fun z (hz:z∈a)=>List.rel_of_pairwise_cons ha hz
  have hy:=fun z (hz:z∈b)=>List.rel_of_pairwise_cons hb hz
  have e:x=y:=by
   rcases List.mem_cons.1 ((h x).1 (by simp)) with h1 | h1
   · exact h1
   ·
    rcases List.mem_cons.1 ((h y).2 (by simp)) with h2 | h2
    · exact h2.symm
    ·
     have:=hx y h2
     have:=hy x h1
     omega
  subst e
  congr 1
  refine zoJ (List.Pairwise.of_cons ha) (List.Pairwise.of_cons hb) fun z=>?_
  constructor
  ·
   intro hz
   rcases List.mem_cons.1 ((h z).1 (List.mem_cons_of_mem _ hz)) with rfl | h1
   · have:=hx z hz;omega
   · exact h1
  ·
   intro hz
   rcases List.mem_cons.1 ((h z).2 (List.mem_cons_of_mem _ hz)) with rfl | h1
   · have:=hy z hz;omega
   · exact h1
def zp3 (a b:List Int):List Int:=a.filter fun x => !decide (x∈b)
theorem znL {a b:List Int} {y:Int}:y∈zp3 a b↔y∈a∧y∉b:=by
 unfold zp3
 rw [List.mem_filter]
 simp
theorem znI {a b:List Int} (h:Asc a):Asc (zp3 a b):=List.Pairwise.filter _ h
theorem zlQ {a b:List Int} (ha:Asc a) (hb:Asc b) (h:∀ x∈a,x∈b):a.length≤b.length:=by
 have:=List.Nodup.length_le_of_subset (zlJ ha) h
 exact this
theorem zsJ:∀ {a b:List Int},Asc a→Asc b→(∀ x∈a,x∈b)→a.length=b.length→a=b:=by
 intro a b ha hb h hl
 refine zoJ ha hb fun x=>⟨h x,fun hx=>?_⟩
 refine Classical.byContradiction fun hn=>?_
 have h2:∀ y∈x::a,y∈b:=fun y hy=>by
  rcases List.mem_cons.1 hy with rfl | hy
  · exact hx
  · exact h y hy
 have:=List.Nodup.length_le_of_subset (List.nodup_cons.2 ⟨hn,zlJ ha⟩) h2
 simp only [List.length_cons] at this
 omega
end Go.Ab
namespace Go.Ab
open Go.RowKit Go.Proofs
def zmo:List St→Bool
 | []=>true
 | x::l=>(zna x == l.isEmpty)&&zmo l
def inN (n:Int) (t:Int):Bool:=decide (0≤t∧t < n)
def zD (l:List St):List Int:=match l.getLast? with
 | none=>[]
 | some s=>zj9 s
def zjq (l:List St) (n:Int):Bool := !l.isEmpty&&(zmo l&&(zD l).all (inN n))
theorem zlW {l:List St} (h:l.length - 1 < l.length):zD l=zj9 l[l.length - 1]:=by
 unfold zD
 rw [List.getLast?_eq_getElem?,List.getElem?_eq_getElem h]
end Go.Ab
namespace Go.Ab
mutual
def zf8:Ex→List Int
 | .mk op _ v _ l=>ziy (if op=2 then [v] else []) l
def ziy:List Int→List Ex→List Int
 | a,[]=>a
 | a,x::l=>ziy (zcf a (zf8 x)) l
end
mutual
def occX:Ex→List Int
 | .mk op _ v _ l=>(if op=2 then [v] else [])++zdz l
def zdz:List Ex→List Int
 | []=>[]
 | x::l=>occX x++zdz l
end
mutual
theorem zjS {y:Int}:∀ e:Ex,y∈zf8 e↔y∈occX e
 | .mk op _ v _ l=>by rw [zf8,occX,znh,List.mem_append]
theorem znh {y:Int}:∀ (a:List Int) (l:List Ex),y∈ziy a l↔y∈a∨y∈zdz l
 | a,[]=>by rw [ziy,zdz];simp
 | a,x::l=>by rw [ziy,znh,zeg,zjS x,zdz,List.mem_append,or_assoc]
end
theorem znj:∀ (a:List Int) (l:List Ex),Asc a→Asc (ziy a l)
 | a,[],h=>by rw [ziy];exact h
 | a,x::l,h=>by rw [ziy];exact znj _ l (zeh h)
theorem zvk (e:Ex):Asc (zf8 e):=by
 obtain ⟨op,n,v,w,l⟩:=e
 rw [zf8]
 refine znj _ _ ?_
 split<;>simp [Asc]
def zlH:List Int→List Ex→List Int
 | a,[]=>a
 | a,x::l=>zlH (zcf a (zf8 x)) l
def zfD (s:St):List Int:=zlH [] s.e
theorem zpQ:∀ (a:List Int) (l:List Ex),Asc a→Asc (zlH a l)
 | a,[],h=>h
 | a,x::l,h=>zpQ _ l (zeh h)
theorem zpX {y:Int}:∀ (a:List Int) (l:List Ex),y∈zlH a l↔y∈a∨y∈zdz l
 | a,[]=>by rw [zlH,zdz];simp
 | a,x::l=>by rw [zlH,zpX,zeg,zjS x,zdz,List.mem_append,or_assoc]
theorem zvx (s:St):Asc (zfD s):=zpQ _ _ (by simp [Asc])
def zlt (s:St):List Int:=if s.op=1∨s.op=3 then [s.var] else []
def zjz (s:St):Bool:=decide (s.op=9∨s.op=10∨s.op=5)
def zgf (exit:List Int) (s:St) (after:List Int):List Int :=
 if zjz s=true then zcf (zcf (zp3 after (zlt s)) (zfD s)) exit else zcf (zp3 after (zlt s)) (zfD s)
def zi8 (exit:List Int) (l:List St) (e:List Int):List Int:=l.foldr (zgf exit) e
def zjy (exit:List Int) (l:List St) (e:List Int):List Int:=if l.length=0 then [] else zi8 exit l e
def endT (ins:List (List Int)) (a:List Int) (t:Int):List Int:=if 0≤t∧t < ins.length then zcf a (ins.getD t.toNat []) else a
def endB (ins:List (List Int)) (l:List St):List Int:=(zD l).foldl (endT ins) []
theorem zqS {exit:List Int} {s:St} {a:List Int} (h:Asc a):Asc (zgf exit s a):=by
 unfold zgf
 split
 · exact zeh (zeh (znI h))
 · exact zeh (znI h)
theorem zho {exit:List Int} {s:St} {a:List Int} {y:Int}:y∈zgf exit s a↔(y∈a∧y∉zlt s)∨y∈zfD s∨(zjz s=true∧y∈exit):=by
 unfold zgf
 split
 ·
  rename_i h
  rw [zeg,zeg,znL]
  simp [h,or_assoc]
 ·
  rename_i h
  rw [zeg,znL]
  simp [h]
theorem znv {exit:List Int}:∀ {l:List St} {a:List Int},Asc a→Asc (zi8 exit l a)
 | [],_,h=>h
 |
  s::l,a,h=>by
  show Asc (zgf exit s (zi8 exit l a))
  exact zqS (znv h)
theorem zq8 {exit:List Int} {l:List St} {a:List Int} (h:Asc a):Asc (zjy exit l a):=by
 unfold zjy
 split
 · simp [Asc]
 · exact znv h
theorem zo6 {ins:List (List Int)}:∀ {ts a:List Int},Asc a→Asc (ts.foldl (endT ins) a)
 | [],_,h=>h
 |
  t::ts,a,h=>by
  rw [List.foldl_cons]
  refine zo6 ?_
  unfold endT
  split
  · exact zeh h
  · exact h
theorem zsD {ins:List (List Int)} {l:List St}:Asc (endB ins l):=zo6 (by simp [Asc])
theorem zpy {ins:List (List Int)} {y:Int}:∀ {ts a:List Int},y∈ts.foldl (endT ins) a↔y∈a∨∃ t∈ts,(0≤t∧t < ins.length)∧y∈ins.getD t.toNat []
 | [],a=>by simp
 |
  t::ts,a=>by
  rw [List.foldl_cons,zpy]
  unfold endT
  split
  ·
   rename_i h
   rw [zeg]
   constructor
   ·
    rintro ((h1 | h1) | ⟨t',h1,h2⟩)
    · exact .inl h1
    · exact .inr ⟨t,by simp,h,h1⟩
    · exact .inr ⟨t',List.mem_cons_of_mem _ h1,h2⟩
   ·
    rintro (h1 | ⟨t',h1,h2,h3⟩)
    · exact .inl (.inl h1)
    ·
     rcases List.mem_cons.1 h1 with rfl | h1
     · exact .inl (.inr h3)
     · exact .inr ⟨t',h1,h2,h3⟩
  ·
   rename_i h
   constructor
   ·
    rintro (h1 | ⟨t',h1,h2⟩)
    · exact .inl h1
    · exact .inr ⟨t',List.mem_cons_of_mem _ h1,h2⟩
   ·
    rintro (h1 | ⟨t',h1,h2,h3⟩)
    · exact .inl h1
    ·
     rcases List.mem_cons.1 h1 with rfl | h1
     · exact absurd h2 h
     · exact .inr ⟨t',h1,h2,h3⟩
theorem zgG {ins:List (List Int)} {l:List St} {y:Int}:y∈endB ins l↔∃ t∈zD l,(0≤t∧t < ins.length)∧y∈ins.getD t.toNat []:=by
 unfold endB
 rw [zpy]
 simp
def newB (exit:List Int) (g:List Bl) (ins:List (List Int)) (i:Nat):List Int:=zjy exit ((g.map (·.stmts)).getD i []) (endB ins ((g.map (·.stmts)).getD i []))
def zfH (exit:List Int) (g:List Bl) (ins:List (List Int)) (i:Nat):List (List Int) :=
 if (newB exit g ins i).length=(ins.getD i []).length then ins else ins.set i (newB exit g ins i)
def ziw (exit:List Int) (g:List Bl):Nat→List (List Int)→List (List Int)
 | 0,ins=>ins
 | n+1,ins=>ziw exit g n (zfH exit g ins n)
structure LInv (exit:List Int) (g:List Bl) (ins:List (List Int)):Prop where
 len:ins.length=g.length
 asc:∀ i,Asc (ins.getD i [])
 sub:∀ i,∀ x∈ins.getD i [],x∈newB exit g ins i
theorem zoV {exit:List Int} {g:List Bl} {a b:List (List Int)} (hl:a.length=b.length) (h:∀ i,∀ x∈a.getD i [],x∈b.getD i []) (i:Nat):∀ x∈newB exit g a i,x∈newB exit g b i:=by
 intro x hx
 unfold newB zjy at *
 split at hx
 · cases hx
 ·
  rename_i h0
  rw [if_neg h0]
  have he:∀ y∈endB a ((g.map (·.stmts)).getD i []),y∈endB b ((g.map (·.stmts)).getD i []):=fun y hy=>by
   obtain ⟨t,h1,h2,h3⟩:=zgG.1 hy
   exact zgG.2 ⟨t,h1,⟨h2.1,by omega⟩,h _ y h3⟩
  revert x
  generalize (g.map (·.stmts)).getD i []=l at he h0
  generalize endB a l=ea at he
  generalize endB b l=eb at he
  clear h0
  induction l with
  | nil=>exact he
  |
   cons s l ih =>
   intro x hx
   have hx:x∈zgf exit s (zi8 exit l ea):=hx
   show x∈zgf exit s (zi8 exit l eb)
   rw [zho] at hx ⊢
   rcases hx with ⟨h1,h2⟩ | h1
   · exact .inl ⟨ih x h1,h2⟩
   · exact .inr h1
theorem zjL {exit:List Int} {g:List Bl} {ins:List (List Int)} {i:Nat}:Asc (newB exit g ins i):=zq8 zsD
theorem ziJ {α:Type} {l:List α} {i j:Nat} {a d:α} (h:i < l.length):(l.set i a).getD j d=if j=i then a else l.getD j d:=by
 rw [List.getD_eq_getElem?_getD,List.getD_eq_getElem?_getD,List.getElem?_set]
 by_cases hij:i=j
 · subst hij;simp [h]
 · rw [if_neg hij,if_neg (fun e=>hij e.symm)]
theorem LInv.step {exit:List Int} {g:List Bl} {ins:List (List Int)} (h:LInv exit g ins) {i:Nat} (hi:i < g.length) :
  LInv exit g (zfH exit g ins i)∧(∀ j,∀ x∈ins.getD j [],x∈(zfH exit g ins i).getD j [])∧(zfH exit g ins i).getD i []=newB exit g ins i:=by
 have hil:i < ins.length:=by rw [h.len];exact hi
 unfold zfH
 split
 ·
  rename_i he
  refine ⟨h,fun j x hx=>hx,?_⟩
  exact zsJ (h.asc i) zjL (h.sub i) he.symm
 ·
  have hgrow:∀ j,∀ x∈ins.getD j [],x∈(ins.set i (newB exit g ins i)).getD j []:=fun j x hx=>by
   rw [ziJ hil]
   split
   · rename_i hji;subst hji;exact h.sub j x hx
   · exact hx
  have hlen:ins.length=(ins.set i (newB exit g ins i)).length:=by simp
  refine ⟨⟨by simp [h.len],fun j=>?_,fun j x hx=>?_⟩,hgrow,by rw [ziJ hil,if_pos rfl]⟩
  ·
   rw [ziJ hil]
   split
   · exact zjL
   · exact h.asc j
  ·
   rw [ziJ hil] at hx
   split at hx
   ·
    rename_i hji
    subst hji
    exact zoV hlen hgrow j x hx
   · exact zoV hlen hgrow j x (h.sub j x hx)
def zds (ins:List (List Int)):Nat:=(ins.map (·.length)).sum
def univ (exit:List Int) (g:List Bl):List Int:=exit++g.flatMap fun b=>b.stmts.flatMap zfD
theorem zvt {exit:List Int} {g:List Bl} {ins:List (List Int)} (h:∀ i,∀ x∈ins.getD i [],x∈univ exit g) (i:Nat):∀ x∈newB exit g ins i,x∈univ exit g:=by
 unfold newB zjy
 split
 · intro x hx;cases hx
 ·
  have he:∀ y∈endB ins ((g.map (·.stmts)).getD i []),y∈univ exit g:=fun y hy=>by
   obtain ⟨t,h1,h2,h3⟩:=zgG.1 hy
   exact h _ y h3
  have hs:∀ s∈(g.map (·.stmts)).getD i [],∀ y∈zfD s,y∈univ exit g:=fun s hs y hy=>by
   by_cases hi:i < g.length
   ·
    rw [List.getD_eq_getElem?_getD,List.getElem?_map,List.getElem?_eq_getElem hi] at hs
    exact List.mem_append_right _ (List.mem_flatMap.2 ⟨g[i],List.getElem_mem hi,List.mem_flatMap.2 ⟨s,hs,hy⟩⟩)
   ·
    rw [List.getD_eq_getElem?_getD,List.getElem?_map,List.getElem?_eq_none (by omega)] at hs
    cases hs
  generalize (g.map (·.stmts)).getD i []=l at he hs
  generalize endB ins l=e at he
  induction l with
  | nil=>exact he
  |
   cons s l ih =>
   intro x hx
   have hx:x∈zgf exit s (zi8 exit l e):=hx
   rw [zho] at hx
   rcases hx with ⟨h1,h2⟩ | h1 | ⟨_,h1⟩
   · exact ih (fun s' hs'=>hs s' (List.mem_cons_of_mem _ hs')) x h1
   · exact hs s (by simp) x h1
   · exact List.mem_append_left _ h1
structure LInvU (exit:List Int) (g:List Bl) (ins:List (List Int)):Prop extends LInv exit g ins where
 uni:∀ i,∀ x∈ins.getD i [],x∈univ exit g
theorem zlR:∀ (l:List (List Int)) (i:Nat) (a:List Int),i < l.length→zds (l.set i a)+(l.getD i []).length=zds l+a.length
 | [],i,a,h=>by simp at h
 | b::l,0,a,h=>by simp only [zds,List.set_cons_zero,List.map_cons,List.sum_cons,List.getD_cons_zero];omega
 |
  b::l,i+1,a,h=>by
  have:=zlR l i a (by simpa using h)
  simp only [zds,List.set_cons_succ,List.map_cons,List.sum_cons,List.getD_cons_succ] at *
  omega
theorem LInvU.step {exit:List Int} {g:List Bl} {ins:List (List Int)} (h:LInvU exit g ins) {i:Nat} (hi:i < g.length):LInvU exit g (zfH exit g ins i):=by
 obtain ⟨h1,h2,h3⟩:=h.toLInv.step hi
 refine ⟨h1,fun j x hx=>?_⟩
 unfold zfH at hx
 split at hx
 · exact h.uni j x hx
 ·
  rw [ziJ (by rw [h.len];exact hi)] at hx
  split at hx
  · exact zvt h.uni i x hx
  · exact h.uni j x hx
theorem LInvU.total_step {exit:List Int} {g:List Bl} {ins:List (List Int)} (h:LInvU exit g ins) {i:Nat} (hi:i < g.length):zds ins≤zds (zfH exit g ins i)∧(zds ins=zds (zfH exit g ins i)→zfH exit g ins i=ins):=by
 unfold zfH
 split
 · exact ⟨Nat.le_refl _,fun _=>rfl⟩
 ·
  rename_i hne
  have h1:=zlR ins i (newB exit g ins i) (by rw [h.len];exact hi)
  have h2:=zlQ (h.asc i) zjL (h.sub i)
  exact ⟨by omega,fun he=>by omega⟩
theorem LInvU.pass {exit:List Int} {g:List Bl}:∀ {n:Nat} {ins:List (List Int)},LInvU exit g ins→n≤g.length→LInvU exit g (ziw exit g n ins)∧zds ins≤zds (ziw exit g n ins)∧(zds ins=zds (ziw exit g n ins)→ziw exit g n ins=ins∧∀ i,i < n→zfH exit g ins i=ins)
 | 0,ins,h,_=>⟨h,Nat.le_refl _,fun _=>⟨rfl,fun i hi=>absurd hi (Nat.not_lt_zero _)⟩⟩
 |
  n+1,ins,h,hn=>by
  have h1:=h.step (i:=n) (by omega)
  obtain ⟨h2,h3⟩:=h.total_step (i:=n) (by omega)
  obtain ⟨h4,h5,h6⟩:=LInvU.pass (n:=n) h1 (by omega)
  refine ⟨h4,Nat.le_trans h2 h5,fun he=>?_⟩
  have he2:zds (ziw exit g n (zfH exit g ins n))=zds ins:=he.symm
  have e1:=h3 (by omega)
  obtain ⟨h7,h8⟩:=h6 (by omega)
  rw [e1] at h7 h8
  refine ⟨by show ziw exit g n (zfH exit g ins n)=ins;rw [e1];exact h7,fun i hi=>?_⟩
  by_cases hin:i=n
  · subst hin;exact e1
  · exact h8 i (by omega)
theorem zsw {n m:Nat}:∀ {l:List (List Int)},l.length=n→(∀ a∈l,a.length≤m)→zds l≤n * m
 | [],rfl,_=>by simp [zds]
 |
  a::l,rfl,h=>by
  have h1:=zsw (l:=l) (n:=l.length) (m:=m) rfl (fun b hb=>h b (List.mem_cons_of_mem _ hb))
  have h2:=h a (by simp)
  simp only [zds,List.map_cons,List.sum_cons,List.length_cons] at *
  rw [Nat.add_mul]
  omega
theorem LInvU.bound {exit:List Int} {g:List Bl} {ins:List (List Int)} (h:LInvU exit g ins):zds ins≤g.length * (univ exit g).length:=by
 refine zsw h.len fun a ha=>?_
 obtain ⟨i,hi,rfl⟩:=List.mem_iff_getElem.1 ha
 have e:ins.getD i []=ins[i]:=by rw [List.getD_eq_getElem?_getD,List.getElem?_eq_getElem hi];rfl
 have:=List.Nodup.length_le_of_subset (zlJ (h.asc i)) (h.uni i)
 rwa [e] at this
def fixL (exit:List Int) (g:List Bl):Nat→List (List Int)→List (List Int)
 | 0,ins=>ins
 | k+1,ins=>if zds (ziw exit g g.length ins)=zds ins then ins else fixL exit g k (ziw exit g g.length ins)
def zkc (exit:List Int) (g:List Bl):Nat:=g.length * (univ exit g).length+1
def zgA (exit:List Int) (g:List Bl):List (List Int):=fixL exit g (zkc exit g) (g.map fun _=>[])
def zcz (exit:List Int) (g:List Bl) (i:Nat):List Int:=endB (zgA exit g) ((g.map (·.stmts)).getD i [])
theorem zp9 (exit:List Int) (g:List Bl):LInvU exit g (g.map fun _=>[]):=by
 have e:∀ i,(g.map fun _=>([]:List Int)).getD i []=[]:=fun i=>by
  rw [List.getD_eq_getElem?_getD,List.getElem?_map]
  cases g[i]? <;> rfl
 exact ⟨⟨by simp,fun i=>by rw [e];simp [Asc],fun i x hx=>by rw [e] at hx;cases hx⟩,fun i x hx=>by rw [e] at hx;cases hx⟩
theorem zsC {exit:List Int} {g:List Bl}:∀ (k:Nat) {ins:List (List Int)},LInvU exit g ins→zkc exit g≤k+zds ins→LInvU exit g (fixL exit g k ins)∧∀ i,i < g.length→newB exit g (fixL exit g k ins) i=(fixL exit g k ins).getD i []
 | 0,ins,h,h1=>by have:=h.bound;unfold zkc at h1;omega
 |
  k+1,ins,h,h1=>by
  rw [fixL]
  obtain ⟨h3,h4,h5⟩:=h.pass (Nat.le_refl _)
  split
  ·
   rename_i he
   obtain ⟨_,h6⟩:=h5 he.symm
   refine ⟨h,fun i hi=>?_⟩
   have:=(h.toLInv.step hi).2.2
   rw [h6 i hi] at this
   exact this.symm
  · exact zsC k h3 (by omega)
theorem znM (exit:List Int) (g:List Bl):LInvU exit g (zgA exit g)∧∀ i,i < g.length→newB exit g (zgA exit g) i=(zgA exit g).getD i []:=zsC _ (zp9 exit g) (by omega)
end Go.Ab
namespace Go.Ab
open Go.RowKit Go.Proofs
structure SetS (c:Int) (ps:List (Int × Int)):Prop where
 keys:(ps.map (·.1)).Nodup
 borns:(ps.map (·.2)).Nodup
 lt:∀ p∈ps,p.2 < c
 top:c≤1000000
 len:ps.length≤1000000
theorem zsx {ps sel:List (Int × Int)} (h1:sel.Nodup) (h2:ps.Nodup) (h3:∀ p∈sel,p∈ps) (h4:∀ p∈ps,p∈sel):sel.Perm ps :=
 List.perm_iff_count.2 fun a=>by
  by_cases ha:a∈ps
  · rw [List.Nodup.count h1,List.Nodup.count h2,if_pos ha,if_pos (h4 a ha)]
  · rw [List.Nodup.count h1,List.Nodup.count h2,if_neg ha,if_neg (fun h=>ha (h3 a h))]
theorem zmT (c:Int) (ps:List (Int × Int)) (hs:SetS c ps):zN Try.prog zc [.mp 0 0] [(0, .row 3 ((setM c ps).map cm) 0)] 1
  (fun v H nx=>v=za (zcd (ps.map (·.1)))∧H=[(0, .row 3 ((setM c ps).map cm) 0)]∧nx=1):=by
 refine z7 (fn_x zft rfl ?_)
 unfold zdI
 have hB:=hBig
 have htop:=hs.top
 have hlen:=hs.len
 (repeat first | simp (disch:=try exact dis1) only [evD,Nat.reduceBEq,Nat.reduceAdd,Nat.reduceLeDiff,evM,zn,zpN] | with_reducible intro _ | ((with_reducible apply And.intro);omega))
 refine zf (fun sel:List (Int × Int)=>([(3, .own 1 0 0 0 sel.length),(6, .it 2)],[(0, .row 3 ((setM c ps).map cm) 0),(1, .row 1 (sel.map fun p=>cI p.1) 0),(2, .row 1 ([.mp 0 0]::[.int .i64 c]::[.int .i64 c]::sel.map fun p=>[.int .i64 p.2]) 0)])) 3
  (fun sel=>sel.Nodup∧∀ p∈sel,p∈ps) (fun sel=>ps.length - sel.length) [] ⟨List.nodup_nil,fun p h=>by cases h⟩ (Ent.tabB [(0,0,0),(1,2,0),(2,3,0)] [] rfl rfl rfl (by (try simp only [evWB,Nat.reduceBEq,Nat.reduceAdd,Nat.reduceSub,Nat.reduceLeDiff,Nat.reduceLT,implies_true,zn])<;>exact fin8) (by (try simp only [evWB,Nat.reduceBEq,Nat.reduceAdd,Nat.reduceSub,Nat.reduceLeDiff,Nat.reduceLT,implies_true,zn])<;>exact fin8)) ?_
 rintro sel ⟨hnd,hsub⟩ wf
 have hpn:ps.Nodup:=ziv hs.keys
 have hsl:sel.length≤ps.length:=List.Nodup.length_le_of_subset hnd hsub
 unfold zcP
 (repeat first | simp (disch:=try exact dis1) only [evD,Nat.reduceBEq,Nat.reduceAdd,Nat.reduceLeDiff] | with_reducible intro _ | ((with_reducible apply And.intro);omega))
 refine zsk (ps:=ps) (sel:=sel) (c:=c) rfl rfl (by omega) hs.lt hs.borns hsub (fun hall=>?_) (fun p hp hns=>?_)
 ·
  have hperm:=zsx hnd hpn hsub hall
  have hlen2:=hperm.length_eq
  (repeat first | simp (disch:=try exact dis1) only [evD,Nat.reduceBEq,Nat.reduceAdd,Nat.reduceLeDiff] | with_reducible intro _ | ((with_reducible apply And.intro);omega))
  have hsort:zcd (sel.map (·.1))=zcd (ps.map (·.1)):=zmZ (((zZ _).trans (hperm.map _)).trans (zZ _).symm) (zcJ _) (zcJ _)
  have hmm:(sel.map fun p=>cI p.1)=(sel.map (·.1)).map fun n=>[AV.int .i64 n]:=by rw [List.map_map];rfl
  rw [hmm]
  unfold zcO
  (repeat first | simp (disch:=try exact dis1) only [evD,Nat.reduceBEq,Nat.reduceAdd,Nat.reduceLeDiff] | with_reducible intro _ | ((with_reducible apply And.intro);omega))
  have hsc:=zmP (H:=[(0, .row 3 ((setM c ps).map cm) 0),(1, .row 1 ((sel.map (·.1)).map fun n=>[AV.int .i64 n]) 0),(2, .row 1 ([.mp 0 0]::[.int .i64 c]::[.int .i64 c]::sel.map fun p=>[.int .i64 p.2]) 0)]) (nx:=3) (r:=1) (q:=0) (g:=0) (zs:=sel.map (·.1)) rfl (by rw [List.length_map];omega)
  rw [List.length_map] at hsc
  refine zks hsc ?_
  rintro _ _ _ hres
  simp only [Prod.mk.injEq] at hres
  obtain ⟨rfl,rfl,rfl⟩:=hres
  have hl3:sel.length=(zcd (ps.map (·.1))).length:=by rw [(zZ _).length_eq,List.length_map];exact hlen2
  rw [hsort,hl3]
  generalize zcd (ps.map (·.1))=so at hl3 ⊢
  (repeat first | simp (disch:=try exact dis1) only [evD,Nat.reduceBEq,Nat.reduceAdd,Nat.reduceLeDiff,zdD] | with_reducible intro _ | ((with_reducible apply And.intro);omega))
  exact ⟨za so,[(0, .row 3 ((setM c ps).map cm) 0)],1,(Ent.tabB [(0,0,0)] [1] rfl rfl rfl (by (try simp only [evWB,Nat.reduceBEq,Nat.reduceAdd,Nat.reduceSub,Nat.reduceLeDiff,Nat.reduceLT,implies_true,zn])<;>exact fin8) (by (try simp only [evWB,Nat.reduceBEq,Nat.reduceAdd,Nat.reduceSub,Nat.reduceLeDiff,Nat.reduceLT,implies_true,zn])<;>exact fin8)),rfl,rfl,rfl⟩
 ·
  have hent:=fun (H:AH) (nx:Nat) (hr) (hm)=>zsu (H:=H) (nx:=nx) (r:=2) (rm:=0) (qm:=0) (c:=c) (since:=c) (sel:=sel) (p:=p) hr hm hs.borns hp
  (repeat first | simp (disch:=try exact dis1) only [evD,Nat.reduceBEq,Nat.reduceAdd,Nat.reduceLeDiff] | with_reducible intro _ | ((with_reducible apply And.intro);omega))
  rw [hent _ _ rfl rfl]
  (repeat first | simp (disch:=try exact dis1) only [evD,Nat.reduceBEq,Nat.reduceAdd,Nat.reduceLeDiff] | with_reducible intro _ | ((with_reducible apply And.intro);omega))
  refine ⟨sel++[p],⟨?_,?_⟩,?_,(Ent.tabB [(0,0,0),(1,1,1),(2,2,0)] [] rfl rfl rfl (by (try simp only [evWB,Nat.reduceBEq,Nat.reduceAdd,Nat.reduceSub,Nat.reduceLeDiff,Nat.reduceLT,implies_true,zn,List.length_append,List.length_singleton,List.map_append,List.map_cons,List.map_nil])<;>exact fin8) (by (try simp only [evWB,Nat.reduceBEq,Nat.reduceAdd,Nat.reduceSub,Nat.reduceLeDiff,Nat.reduceLT,implies_true,zn,List.length_append,List.length_singleton,List.map_append,List.map_cons,List.map_nil])<;>exact fin8))⟩
  ·
   rw [List.nodup_append]
   exact ⟨hnd,by simp,fun a ha b hb e=>hns (by rw [List.mem_singleton] at hb;rw [← hb,← e];exact ha)⟩
  ·
   intro a ha
   rcases List.mem_append.1 ha with ha | ha
   · exact hsub a ha
   · rw [List.mem_singleton] at ha;rw [ha];exact hp
  ·
   have:sel.length < ps.length:=by
    have:=List.Nodup.length_le_of_subset (List.nodup_cons.2 ⟨hns,hnd⟩) (show ∀ a∈p::sel,a∈ps from fun a ha=>by
     rcases List.mem_cons.1 ha with rfl | ha
     · exact hp
     · exact hsub a ha)
    simp only [List.length_cons] at this
    omega
   rw [List.length_append,List.length_singleton]
   omega
def famS (n:Nat) (S:Nat→Int × List (Int × Int)):AObj:=.fam 3 (fi cm n (fun i=>setM (S i).1 (S i).2) (fun _=>0))
theorem zxG {n k:Nat} {S:Nat→Int × List (Int × Int)} (hk:k < n) {t:AH}:AH.get ((0,famS n S)::t) 0 (k+1)=some (.row 3 ((setM (S k).1 (S k).2).map cm) 0):=by
 unfold AH.get famS
 simp only [AH.look,zcg,cond_true,Option.bind_some,AObj.part,zml hk,Option.map_some]
theorem zdf (n k:Nat) (hk:k < n) (S:Nat→Int × List (Int × Int)) (hs:SetS (S k).1 (S k).2):zN Try.prog zc [.mp 0 (k+1)] [(0,famS n S)] 1
  (fun v H nx=>v=za (zcd ((S k).2.map (·.1)))∧H=[(0,famS n S)]∧nx=1):=by
 refine z7 (fn_x zft rfl ?_)
 unfold zdI
 have hB:=hBig
 have htop:=hs.top
 have hlen:=hs.len
 have hg:=@zxG n k S hk
 unfold famS at hg ⊢
 generalize hc:(S k).1=c at *
 generalize hps:(S k).2=ps at *
 (repeat first | simp (disch:=try exact dis1) only [evD,Nat.reduceBEq,Nat.reduceAdd,Nat.reduceLeDiff,evM,zml hk,hc,hps,zn,zpN] | with_reducible intro _ | ((with_reducible apply And.intro);omega))
 refine zf (fun sel:List (Int × Int)=>([(3, .own 1 0 0 0 sel.length),(6, .it 2)],[(0, .fam 3 (fi cm n (fun i=>setM (S i).1 (S i).2) (fun _=>0))),(1, .row 1 (sel.map fun p=>cI p.1) 0),(2, .row 1 ([.mp 0 (k+1)]::[.int .i64 c]::[.int .i64 c]::sel.map fun p=>[.int .i64 p.2]) 0)])) 3
  (fun sel=>sel.Nodup∧∀ p∈sel,p∈ps) (fun sel=>ps.length - sel.length) [] ⟨List.nodup_nil,fun p h=>by cases h⟩ (Ent.tabB [(0,0,0),(1,2,0),(2,3,0)] [] rfl rfl rfl (by (try simp only [evWB,Nat.reduceBEq,Nat.reduceAdd,Nat.reduceSub,Nat.reduceLeDiff,Nat.reduceLT,implies_true,zn])<;>exact fin8) (by (try simp only [evWB,Nat.reduceBEq,Nat.reduceAdd,Nat.reduceSub,Nat.reduceLeDiff,Nat.reduceLT,implies_true,zn])<;>exact fin8)) ?_
 rintro sel ⟨hnd,hsub⟩ wf
 have hpn:ps.Nodup:=ziv hs.keys
 have hsl:sel.length≤ps.length:=List.Nodup.length_le_of_subset hnd hsub
 unfold zcP
 (repeat first | simp (disch:=try exact dis1) only [evD,Nat.reduceBEq,Nat.reduceAdd,Nat.reduceLeDiff] | with_reducible intro _ | ((with_reducible apply And.intro);omega))
 refine zsk (ps:=ps) (sel:=sel) (c:=c) rfl hg (by omega) hs.lt hs.borns hsub (fun hall=>?_) (fun p hp hns=>?_)
 ·
  have hperm:=zsx hnd hpn hsub hall
  have hlen2:=hperm.length_eq
  (repeat first | simp (disch:=try exact dis1) only [evD,Nat.reduceBEq,Nat.reduceAdd,Nat.reduceLeDiff] | with_reducible intro _ | ((with_reducible apply And.intro);omega))
  have hsort:zcd (sel.map (·.1))=zcd (ps.map (·.1)):=zmZ (((zZ _).trans (hperm.map _)).trans (zZ _).symm) (zcJ _) (zcJ _)
  have hmm:(sel.map fun p=>cI p.1)=(sel.map (·.1)).map fun n=>[AV.int .i64 n]:=by rw [List.map_map];rfl
  rw [hmm]
  unfold zcO
  (repeat first | simp (disch:=try exact dis1) only [evD,Nat.reduceBEq,Nat.reduceAdd,Nat.reduceLeDiff] | with_reducible intro _ | ((with_reducible apply And.intro);omega))
  have hsc:=zmP (H:=[(0, .fam 3 (fi cm n (fun i=>setM (S i).1 (S i).2) (fun _=>0))),(1, .row 1 ((sel.map (·.1)).map fun n=>[AV.int .i64 n]) 0),(2, .row 1 ([.mp 0 (k+1)]::[.int .i64 c]::[.int .i64 c]::sel.map fun p=>[.int .i64 p.2]) 0)]) (nx:=3) (r:=1) (q:=0) (g:=0) (zs:=sel.map (·.1)) rfl (by rw [List.length_map];omega)
  rw [List.length_map] at hsc
  refine zks hsc ?_
  rintro _ _ _ hres
  simp only [Prod.mk.injEq] at hres
  obtain ⟨rfl,rfl,rfl⟩:=hres
  have hl3:sel.length=(zcd (ps.map (·.1))).length:=by rw [(zZ _).length_eq,List.length_map];exact hlen2
  rw [hsort,hl3]
  generalize zcd (ps.map (·.1))=so at hl3 ⊢
  (repeat first | simp (disch:=try exact dis1) only [evD,Nat.reduceBEq,Nat.reduceAdd,Nat.reduceLeDiff,zdD] | with_reducible intro _ | ((with_reducible apply And.intro);omega))
  exact ⟨za so,[(0, .fam 3 (fi cm n (fun i=>setM (S i).1 (S i).2) (fun _=>0)))],1,(Ent.tabB [(0,0,0)] [1] rfl rfl rfl (by (try simp only [evWB,Nat.reduceBEq,Nat.reduceAdd,Nat.reduceSub,Nat.reduceLeDiff,Nat.reduceLT,implies_true,zn])<;>exact fin8) (by (try simp only [evWB,Nat.reduceBEq,Nat.reduceAdd,Nat.reduceSub,Nat.reduceLeDiff,Nat.reduceLT,implies_true,zn])<;>exact fin8)),rfl,rfl,rfl⟩
 ·
  have hent:=fun (H:AH) (nx:Nat) (hr) (hm)=>zsu (H:=H) (nx:=nx) (r:=2) (rm:=0) (qm:=k+1) (c:=c) (since:=c) (sel:=sel) (p:=p) hr hm hs.borns hp
  (repeat first | simp (disch:=try exact dis1) only [evD,Nat.reduceBEq,Nat.reduceAdd,Nat.reduceLeDiff] | with_reducible intro _ | ((with_reducible apply And.intro);omega))
  rw [hent _ _ rfl hg]
  (repeat first | simp (disch:=try exact dis1) only [evD,Nat.reduceBEq,Nat.reduceAdd,Nat.reduceLeDiff] | with_reducible intro _ | ((with_reducible apply And.intro);omega))
  refine ⟨sel++[p],⟨?_,?_⟩,?_,(Ent.tabB [(0,0,0),(1,1,1),(2,2,0)] [] rfl rfl rfl (by (try simp only [evWB,Nat.reduceBEq,Nat.reduceAdd,Nat.reduceSub,Nat.reduceLeDiff,Nat.reduceLT,implies_true,zn,List.length_append,List.length_singleton,List.map_append,List.map_cons,List.map_nil])<;>exact fin8) (by (try simp only [evWB,Nat.reduceBEq,Nat.reduceAdd,Nat.reduceSub,Nat.reduceLeDiff,Nat.reduceLT,implies_true,zn,List.length_append,List.length_singleton,List.map_append,List.map_cons,List.map_nil])<;>exact fin8))⟩
  ·
   rw [List.nodup_append]
   exact ⟨hnd,by simp,fun a ha b hb e=>hns (by rw [List.mem_singleton] at hb;rw [← hb,← e];exact ha)⟩
  ·
   intro a ha
   rcases List.mem_append.1 ha with ha | ha
   · exact hsub a ha
   · rw [List.mem_singleton] at ha;rw [ha];exact hp
  ·
   have:sel.length < ps.length:=by
    have:=List.Nodup.length_le_of_subset (List.nodup_cons.2 ⟨hns,hnd⟩) (show ∀ a∈p::sel,a∈ps from fun a ha=>by
     rcases List.mem_cons.1 ha with rfl | ha
     · exact hp
     · exact hsub a ha)
    simp only [List.length_cons] at this
    omega
   rw [List.length_append,List.length_singleton]
   omega
abbrev MS:=Int × List (Int × Int)
def MS.keys (s:MS):List Int:=s.2.map (·.1)
def MS.ok (s:MS):Prop:=SetS s.1 s.2
def add1 (s:MS) (v:Int):MS:=if v∈s.keys then s else (s.1+1,s.2++[(v,s.1)])
def addL (s:MS) (l:List Int):MS:=l.foldl add1 s
theorem zub {s:MS} {v:Int}:(add1 s v).keys=if v∈s.keys then s.keys else s.keys++[v]:=by
 unfold add1
 split
 · rfl
 · simp [MS.keys]
theorem zr1 {s:MS} {v:Int}:s.2.length≤(add1 s v).2.length∧(add1 s v).1≤s.1+1∧(add1 s v).2.length≤s.2.length+1:=by
 unfold add1
 split
 · exact ⟨Nat.le_refl _,by omega,by omega⟩
 · exact ⟨by simp,by simp,by simp⟩
theorem SetS.add {c:Int} {ps:List (Int × Int)} (h:SetS c ps) {v:Int} (hv:v∉ps.map (·.1)) (ht:c < 1000000) (hl:ps.length < 1000000):SetS (c+1) (ps++[(v,c)]):=by
 refine ⟨?_,?_,fun p hp=>?_,by omega,by simp;omega⟩
 ·
  rw [List.map_append,List.nodup_append]
  exact ⟨h.keys,by simp,fun a ha b hb e=>hv (by simp only [List.map_cons,List.map_nil,List.mem_singleton] at hb;rw [← hb,← e];exact ha)⟩
 ·
  rw [List.map_append,List.nodup_append]
  refine ⟨h.borns,by simp,fun a ha b hb e=>?_⟩
  simp only [List.map_cons,List.map_nil,List.mem_singleton] at hb
  obtain ⟨p,hp,hpe⟩:=List.mem_map.1 ha
  have:=h.lt p hp
  omega
 ·
  rcases List.mem_append.1 hp with hp | hp
  · have:=h.lt p hp;omega
  · rw [List.mem_singleton] at hp;rw [hp];simp only;omega
theorem zzp {s:MS} {v:Int} (h:s.ok) (ht:s.1 < 1000000) (hl:s.2.length < 1000000):(add1 s v).ok:=by
 unfold add1
 split
 · exact h
 · rename_i hv;exact SetS.add h hv ht hl
theorem zei:∀ {l:List Int} {s:MS},s.2.length≤(addL s l).2.length∧(addL s l).1≤s.1+l.length∧(addL s l).2.length≤s.2.length+l.length
 | [],s=>⟨Nat.le_refl _,by simp [addL],by simp [addL]⟩
 |
  v::l,s=>by
  have h1:=zr1 (s:=s) (v:=v)
  have h2:=zei (l:=l) (s:=add1 s v)
  show s.2.length≤(addL (add1 s v) l).2.length∧(addL (add1 s v) l).1≤s.1+_∧(addL (add1 s v) l).2.length≤_
  simp only [List.length_cons]
  exact ⟨by omega,by omega,by omega⟩
theorem zji:∀ {l:List Int} {s:MS},s.ok→s.1+l.length≤1000000→s.2.length+l.length≤1000000→(addL s l).ok
 | [],s,h,_,_=>h
 |
  v::l,s,h,h1,h2=>by
  simp only [List.length_cons] at h1 h2
  have h3:=zr1 (s:=s) (v:=v)
  exact zji (l:=l) (zzp h (by omega) (by omega)) (by omega) (by omega)
theorem zeV {y:Int}:∀ {l:List Int} {s:MS},y∈(addL s l).keys↔y∈s.keys∨y∈l
 | [],s=>by simp [addL]
 |
  v::l,s=>by
  show y∈(addL (add1 s v) l).keys↔_
  rw [zeV,zub]
  split
  ·
   rename_i h
   constructor
   ·
    rintro (h1 | h1)
    · exact .inl h1
    · exact .inr (List.mem_cons_of_mem _ h1)
   ·
    rintro (h1 | h1)
    · exact .inl h1
    ·
     rcases List.mem_cons.1 h1 with rfl | h1
     · exact .inl h
     · exact .inr h1
  · rw [List.mem_append,List.mem_singleton,List.mem_cons,or_assoc]
theorem zqi {s:MS} {l:List Int} {i:Nat} (h:i < l.length):addL s (l.take (i+1))=add1 (addL s (l.take i)) l[i]:=by
 unfold addL
 rw [List.take_add_one,List.getElem?_eq_getElem h,List.foldl_append]
 rfl
theorem zsz {p:Int × Int} {ps:List (Int × Int)}:(enL (ps++[p])).map cm=(enL ps).map cm++[[.int .i64 p.1, .bool true, .int .i64 p.2]]:=by simp [enL,cm]
theorem zui {c v:Int} {ps:List (Int × Int)}:[AV.int .i64 (c+1), .undef, .undef]::((enL ps).map cm++[[.int .i64 v, .bool true, .int .i64 c]])=(setM (c+1) (ps++[(v,c)])).map cm:=by
 simp [setM,enL,cm]
theorem zgT (s:MS) (l:List Int) (hs:s.ok) (h1:s.1+l.length≤1000000) (h2:s.2.length+l.length≤1000000):zN Try.prog zo [.mp 0 0,za l] [(0, .row 3 ((setM s.1 s.2).map cm) 0)] 1
  (fun v H nx=>v=.bool (decide (s.2.length < (addL s l).2.length))∧H=[(0, .row 3 ((setM (addL s l).1 (addL s l).2).map cm) 0)]∧nx=1):=by
 refine z7 (fn_x zfY rfl ?_)
 unfold zd9
 have hB:=hBig
 (repeat first | simp (disch:=try exact dis1) only [evD,Nat.reduceBEq,Nat.reduceAdd,Nat.reduceLeDiff,za] | with_reducible intro _ | ((with_reducible apply And.intro);omega))
 refine zf (fun i:Nat=>([(0, .mp 0 0),(5, .bool (decide (s.2.length < (addL s (l.take i)).2.length))),(8,za l),(9, .int .i64 l.length),(10, .int .i64 i)],[(0, .row 3 ((setM (addL s (l.take i)).1 (addL s (l.take i)).2).map cm) 0)])) 1
  (fun i=>i≤l.length) (fun i=>l.length - i) 0 (Nat.zero_le _) (by rw [List.take_zero,show addL s []=s from rfl,dF (Nat.lt_irrefl _)];exact (Ent.tabB [(0,0,0)] [] rfl rfl rfl (by (try simp only [evWB,Nat.reduceBEq,Nat.reduceAdd,Nat.reduceSub,Nat.reduceLeDiff,Nat.reduceLT,implies_true,zn,za])<;>exact fin6) (by (try simp only [evWB,Nat.reduceBEq,Nat.reduceAdd,Nat.reduceSub,Nat.reduceLeDiff,Nat.reduceLT,implies_true,zn,za])<;>exact fin6))) ?_
 rintro i hi wf
 unfold zcU
 by_cases hl:i < l.length
 ·
  have hgl:=zz (f:=cI) (d:=[]) hl
  have hb:=zei (l:=l.take i) (s:=s)
  rw [List.length_take] at hb
  have hnx:=zqi (s:=s) hl
  generalize addL s (l.take i)=si at hb hnx ⊢
  obtain ⟨c,ps⟩:=si
  simp only at hb hnx ⊢
  by_cases hk:l[i]∈ps.map (·.1)
  ·
   obtain ⟨j,hj,hje,hf⟩:=zj2 hk
   have e1:add1 (c,ps) l[i]=(c,ps):=if_pos hk
   rw [e1] at hnx
   (repeat first | simp (disch:=try exact dis1) only [evD,Nat.reduceBEq,Nat.reduceAdd,Nat.reduceLeDiff,dT,hgl,za,zn,hf] | with_reducible intro _ | ((with_reducible apply And.intro);omega))
   exact ⟨i+1,by omega,by omega,(Ent.tabB [(0,0,0)] [] rfl rfl rfl (by (try simp only [evWB,Nat.reduceBEq,Nat.reduceAdd,Nat.reduceSub,Nat.reduceLeDiff,Nat.reduceLT,implies_true,zn,za,hnx])<;>exact fin6) (by (try simp only [evWB,Nat.reduceBEq,Nat.reduceAdd,Nat.reduceSub,Nat.reduceLeDiff,Nat.reduceLT,implies_true,zn,za,hnx])<;>exact fin6))⟩
  ·
   have hf:=ziR hk
   have e1:add1 (c,ps) l[i]=(c+1,ps++[(l[i],c)]):=if_neg hk
   rw [e1] at hnx
   (repeat first | simp (disch:=try exact dis1) only [evD,Nat.reduceBEq,Nat.reduceAdd,Nat.reduceLeDiff,dT,hgl,za,zn,hf] | with_reducible intro _ | ((with_reducible apply And.intro);omega))
   have hd:decide (s.2.length < ps.length+1)=true:=dT (by omega)
   exact ⟨i+1,by omega,by omega,(Ent.tabB [(0,0,0)] [] rfl rfl rfl (by (try simp only [evWB,Nat.reduceBEq,Nat.reduceAdd,Nat.reduceSub,Nat.reduceLeDiff,Nat.reduceLT,implies_true,zn,za,hnx,zsz,List.length_append,List.length_singleton,hd])<;>exact fin6) (by (try simp only [evWB,Nat.reduceBEq,Nat.reduceAdd,Nat.reduceSub,Nat.reduceLeDiff,Nat.reduceLT,implies_true,zn,za,hnx,zsz,List.length_append,List.length_singleton,hd])<;>exact fin6))⟩
 ·
  (repeat first | simp (disch:=try exact dis1) only [evD,Nat.reduceBEq,Nat.reduceAdd,Nat.reduceLeDiff,dF] | with_reducible intro _ | ((with_reducible apply And.intro);omega))
  unfold zcW
  (repeat first | simp (disch:=try exact dis1) only [evD,Nat.reduceBEq,Nat.reduceAdd,Nat.reduceLeDiff,zd3] | with_reducible intro _ | ((with_reducible apply And.intro);omega))
  rw [List.take_of_length_le (by omega)]
  exact ⟨_,_,_,(Ent.tabB [(0,0,0)] [] rfl rfl rfl (by (try simp only [evWB,Nat.reduceBEq,Nat.reduceAdd,Nat.reduceSub,Nat.reduceLeDiff,Nat.reduceLT,implies_true,zn])<;>exact fin6) (by (try simp only [evWB,Nat.reduceBEq,Nat.reduceAdd,Nat.reduceSub,Nat.reduceLeDiff,Nat.reduceLT,implies_true,zn])<;>exact fin6)),rfl,rfl,rfl⟩
theorem zzH {n k:Nat} {S:Nat→MS} {a:MS} {m:List MC} (h:m=setM a.1 a.2):(fi cm n (fun i=>setM (S i).1 (S i).2) (fun _=>0)).set k (m.map cm,0)=fi cm n (fun i=>setM (updF S k a i).1 (updF S k a i).2) (fun _=>0):=by
 rw [fi_set,h]
 congr 1
 ·
  funext i
  unfold updF
  split<;>rfl
 ·
  funext i
  unfold updF
  split<;>rfl
theorem zye {n k:Nat} {S:Nat→MS} {c v:Int} {ps:List (Int × Int)}:(fi cm n (fun i=>setM (S i).1 (S i).2) (fun _=>0)).set k ([AV.int .i64 (c+1), .undef, .undef]::((enL ps).map cm++[[.int .i64 v, .bool true, .int .i64 c]]),0) =
  fi cm n (fun i=>setM (updF S k (c+1,ps++[(v,c)]) i).1 (updF S k (c+1,ps++[(v,c)]) i).2) (fun _=>0):=by
 rw [zui]
 exact zzH rfl
theorem znJ {α:Type} {S:Nat→α} {k:Nat} {a b:α}:updF (updF S k a) k b=updF S k b:=by
 funext i
 unfold updF
 split<;>rfl
theorem zpr {α:Type} {S:Nat→α} {k:Nat}:updF S k (S k)=S:=by
 funext i
 unfold updF
 split
 · rename_i h;rw [h]
 · rfl
theorem zlS (n k:Nat) (hk:k < n) (S:Nat→MS) (l:List Int) (hs:(S k).ok) (h1:(S k).1+l.length≤1000000) (h2:(S k).2.length+l.length≤1000000):zN Try.prog zo [.mp 0 (k+1),za l] [(0,famS n S)] 1
  (fun v H nx=>v=.bool (decide ((S k).2.length < (addL (S k) l).2.length))∧H=[(0,famS n (updF S k (addL (S k) l)))]∧nx=1):=by
 refine z7 (fn_x zfY rfl ?_)
 unfold zd9 famS
 have hB:=hBig
 (repeat first | simp (disch:=try exact dis1) only [evD,Nat.reduceBEq,Nat.reduceAdd,Nat.reduceLeDiff,za] | with_reducible intro _ | ((with_reducible apply And.intro);omega))
 refine zf (fun i:Nat=>([(0, .mp 0 (k+1)),(5, .bool (decide ((S k).2.length < (addL (S k) (l.take i)).2.length))),(8,za l),(9, .int .i64 l.length),(10, .int .i64 i)],[(0, .fam 3 (fi cm n (fun j=>setM (updF S k (addL (S k) (l.take i)) j).1 (updF S k (addL (S k) (l.take i)) j).2) (fun _=>0)))])) 1
  (fun i=>i≤l.length) (fun i=>l.length - i) 0 (Nat.zero_le _) (by rw [List.take_zero,show addL (S k) []=S k from rfl,dF (Nat.lt_irrefl _),zpr];exact (Ent.tabB [(0,0,0)] [] rfl rfl rfl (by (try simp only [evWB,Nat.reduceBEq,Nat.reduceAdd,Nat.reduceSub,Nat.reduceLeDiff,Nat.reduceLT,implies_true,za])<;>exact fin8) (by (try simp only [evWB,Nat.reduceBEq,Nat.reduceAdd,Nat.reduceSub,Nat.reduceLeDiff,Nat.reduceLT,implies_true,za])<;>exact fin8))) ?_
 rintro i hi wf
 unfold zcU
 by_cases hl:i < l.length
 ·
  have hgl:=zz (f:=cI) (d:=[]) hl
  have hb:=zei (l:=l.take i) (s:=S k)
  rw [List.length_take] at hb
  have hnx:=zqi (s:=S k) hl
  generalize addL (S k) (l.take i)=si at hb hnx ⊢
  obtain ⟨c,ps⟩:=si
  simp only at hb hnx ⊢
  by_cases hm:l[i]∈ps.map (·.1)
  ·
   obtain ⟨j,hj,hje,hf⟩:=zj2 hm
   have e1:add1 (c,ps) l[i]=(c,ps):=if_pos hm
   rw [e1] at hnx
   (repeat first | simp (disch:=try exact dis1) only [evD,Nat.reduceBEq,Nat.reduceAdd,Nat.reduceLeDiff,dT,hgl,za,zml hk,zir,zn,hf] | with_reducible intro _ | ((with_reducible apply And.intro);omega))
   exact ⟨i+1,by omega,by omega,(Ent.tabB [(0,0,0)] [] rfl rfl rfl (by (try simp only [evWB,Nat.reduceBEq,Nat.reduceAdd,Nat.reduceSub,Nat.reduceLeDiff,Nat.reduceLT,implies_true,za,hnx])<;>exact fin8) (by (try simp only [evWB,Nat.reduceBEq,Nat.reduceAdd,Nat.reduceSub,Nat.reduceLeDiff,Nat.reduceLT,implies_true,za,hnx])<;>exact fin8))⟩
  ·
   have hf:=ziR hm
   have e1:add1 (c,ps) l[i]=(c+1,ps++[(l[i],c)]):=if_neg hm
   rw [e1] at hnx
   (repeat first | simp (disch:=try exact dis1) only [evD,Nat.reduceBEq,Nat.reduceAdd,Nat.reduceLeDiff,dT,hgl,za,zml hk,zir,zn,hf,zye,znJ] | with_reducible intro _ | ((with_reducible apply And.intro);omega))
   have hd:decide ((S k).2.length < ps.length+1)=true:=dT (by omega)
   exact ⟨i+1,by omega,by omega,(Ent.tabB [(0,0,0)] [] rfl rfl rfl (by (try simp only [evWB,Nat.reduceBEq,Nat.reduceAdd,Nat.reduceSub,Nat.reduceLeDiff,Nat.reduceLT,implies_true,za,hnx,List.length_append,List.length_singleton,hd])<;>exact fin8) (by (try simp only [evWB,Nat.reduceBEq,Nat.reduceAdd,Nat.reduceSub,Nat.reduceLeDiff,Nat.reduceLT,implies_true,za,hnx,List.length_append,List.length_singleton,hd])<;>exact fin8))⟩
 ·
  (repeat first | simp (disch:=try exact dis1) only [evD,Nat.reduceBEq,Nat.reduceAdd,Nat.reduceLeDiff,dF] | with_reducible intro _ | ((with_reducible apply And.intro);omega))
  unfold zcW
  (repeat first | simp (disch:=try exact dis1) only [evD,Nat.reduceBEq,Nat.reduceAdd,Nat.reduceLeDiff,zd3] | with_reducible intro _ | ((with_reducible apply And.intro);omega))
  rw [List.take_of_length_le (by omega)]
  exact ⟨_,_,_,(Ent.tabB [(0,0,0)] [] rfl rfl rfl fin8 fin8),rfl,rfl,rfl⟩
theorem zws {sz n:Nat} {f:Nat→Nat→AV}:lenV (.sl sz n f)=some n:=rfl
theorem zuF {sz n:Nat} {f:Nat→Nat→AV} {H:AH}:fits H (.sl sz n f)=True:=rfl
theorem zt0 {n:Int}:∀ {i:Nat} {l:List Int},(∀ j,(h:j < l.length)→j < i→l[j] < n)→insU n l=l.take i++insU n (l.drop i)
 | 0,l,_=>by simp
 | i+1,[],_=>by simp
 |
  i+1,x::l,h=>by
  have h0:=h 0 (by simp) (by omega)
  simp only [List.getElem_cons_zero] at h0
  rw [insU,if_pos h0,List.take_succ_cons,List.drop_succ_cons,List.cons_append,← zt0 (i:=i) fun j hj hji=>h (j+1) (by simpa using hj) (by omega)]
theorem zos {n:Int}:∀ {l:List Int},(insU n l).length≤l.length+1
 | []=>by simp [insU]
 |
  x::l=>by
  unfold insU
  split
  ·
   have:=zos (n:=n) (l:=l)
   simp only [List.length_cons];omega
  · split<;>simp
theorem zns {a:List Int}:∀ {b:List Int},(zcf a b).length≤a.length+b.length:=by
 intro b
 induction b generalizing a with
 | nil=>simp [zcf]
 |
  cons x b ih =>
  have h1:=ih (a:=insU x a)
  have h2:=zos (n:=x) (l:=a)
  show (zcf (insU x a) b).length≤_
  simp only [List.length_cons]
  omega
theorem vw_W {H H2:AH} {σ:Nat→Nat→Option (Nat × Nat × Nat)} {D:Nat→Nat→Prop} {t:Bool} {r q g:Nat} {l:List Int} (hD:D r q) (hg:H.get r q=some (.row 1 (l.map cW) g)) (hb:l.length≤big):Vw H H2 σ D t (.own r q g 0 l.length) (encL 1 cW l) :=
 zhx hD hg hb (fun a _ j hj=>match j with | 0=>.int _ _ _ | j+1=>absurd hj (by omega))
theorem zxM {H H2:AH} {σ:Nat→Nat→Option (Nat × Nat × Nat)} {D:Nat→Nat→Prop} {t:Bool} {r q g:Nat} {l m:List Int} (hD:D r q) (hg:H.get r q=some (.row 1 ((l++m).map cW) g)) (hb:l.length≤big) :
  Vw H H2 σ D t (.own r q g 0 l.length) (encL 1 cW l):=by
 refine .frz t r q g 0 l.length 1 ((l++m).map cW) _ hD hg hb (by simp) (fun i j hi hj=>?_)
 obtain rfl:j=0:=by omega
 rw [Nat.zero_add,zz (show i < (l++m).length by simp;omega),zz hi,List.getElem_append_left hi]
 exact .int _ _ _
theorem zpR {K l:List Int} {j:Nat} (h:K.length≤j) (hj:j < l.length):((curI K l).map cW).getD j []=[.int .u32 l[j]]:=by
 simp [List.getD_eq_getElem?_getD,zr9 h hj,cW]
theorem zt9 {K l:List Int} {v:Int} (h:K.length < l.length):((curI K l).map cW).set K.length [.int .u32 v]=(curI (K++[v]) l).map cW:=by
 rw [← zr8 h,List.map_set];rfl
theorem zmW {α:Type} {sz:Nat} {f:α→List AV} {l:List α} {i:Nat} (h:i≤l.length) (hf:∀ a,(f a).length=sz) {H:AH}:zeB sz (.sl sz i fun a j=>((l.map f).getD (Int.toNat 0+a) []).getD j .undef) H=some ((l.take i).map f):=by
 simp only [zeB,Nat.beq_refl,cond_true,Option.some.injEq]
 apply List.ext_getElem
 · simp<;>omega
 ·
  intro k h1 h2
  simp only [List.length_map,List.length_range] at h1
  have hk:k < l.length:=by omega
  simp only [List.getElem_map,List.getElem_range,Int.toNat_zero,Nat.zero_add,List.getElem_take]
  rw [zz hk,zlx _ _ _ (by rw [hf];omega),List.drop_zero]
theorem zlU {α:Type} {sz:Nat} {f:α→List AV} {l:List α} {i:Nat} (h:i≤l.length) (hf:∀ a,(f a).length=sz) {H:AH}:zeB sz (.sl sz (l.length - i) fun a j=>((l.map f).getD (i+a) []).getD j .undef) H=some ((l.drop i).map f):=by
 simp only [zeB,Nat.beq_refl,cond_true,Option.some.injEq]
 apply List.ext_getElem
 · simp<;>omega
 ·
  intro k h1 h2
  simp only [List.length_map,List.length_range] at h1
  have hk:i+k < l.length:=by omega
  simp only [List.getElem_map,List.getElem_range,List.getElem_drop]
  rw [zz hk,zlx _ _ _ (by rw [hf];omega),List.drop_zero]
theorem zn5 (l:List Int) (g:Nat) (hl:l.length≤100000000000) :
  zN Try.prog zal [.own 0 0 g 0 l.length] [(0, .row 1 (l.map cW) g)] 1
   (fun v H nx=>∃ m,v=.own 0 0 g 0 (zbf l).length∧H=[(0, .row 1 ((zbf l++m).map cW) g)]∧nx=1):=by
 refine z7 (fn_x zeS rfl ?_)
 unfold zcy
 have hB:=hBig
 have fin:∀ K m,(∀ j,j < l.length→zdM l j=true)→K=(4,AV.undef)→m=0→zbf l=l:=fun K m h _ _=>by unfold zbf;rw [ziN (Nat.le_refl _) h,List.take_length]
 (repeat first | simp (disch:=try exact dis1) only [evD,Nat.reduceBEq,Nat.reduceAdd,Nat.reduceLeDiff] | with_reducible intro _ | ((with_reducible apply And.intro);omega))
 (refine z6 (fun h=>?_) (fun h=>?_))<;>(try simp only [dcd] at h)
 ·
  (repeat first | simp (disch:=try exact dis1) only [evD,Nat.reduceBEq,Nat.reduceAdd,Nat.reduceLeDiff,zaf] | with_reducible intro _ | ((with_reducible apply And.intro);omega))
  have hall:∀ j,j < l.length→zdM l j=true:=fun j hj=>by
   have:j=0:=by omega
   subst this
   rfl
  have e:=fin (4, .undef) 0 hall rfl rfl
  refine ⟨.own 0 0 g 0 l.length,[(0, .row 1 ((l++[]).map cW) g)],1,?_,[],by rw [e],by rw [e],rfl⟩
  rw [List.append_nil]
  exact (Ent.tabB [(0,0,0)] [] rfl rfl rfl (by (try simp only [evWB,Nat.reduceBEq,Nat.reduceAdd,Nat.reduceSub,Nat.reduceLeDiff,Nat.reduceLT,implies_true])<;>exact fin2) (by (try simp only [evWB,Nat.reduceBEq,Nat.reduceAdd,Nat.reduceSub,Nat.reduceLeDiff,Nat.reduceLT,implies_true])<;>exact fin2))
 (repeat first | simp (disch:=try exact dis1) only [evD,Nat.reduceBEq,Nat.reduceAdd,Nat.reduceLeDiff] | with_reducible intro _ | ((with_reducible apply And.intro);omega))
 refine zf (fun i:Nat=>([(0, .own 0 0 g 0 l.length),(3, .int .i64 i)],[(0, .row 1 (l.map cW) g)])) 1 (fun i=>1≤i∧i≤l.length∧∀ j,j < i→zdM l j=true) (fun i=>l.length - i) 1 ⟨by omega,by omega,fun j hj=>(by rw [show j=0 by omega];rfl)⟩ (Ent.tabB [(0,0,0)] [] rfl rfl rfl (by (try simp only [evWB,Nat.reduceBEq,Nat.reduceAdd,Nat.reduceSub,Nat.reduceLeDiff,Nat.reduceLT,implies_true])<;>exact fin2) (by (try simp only [evWB,Nat.reduceBEq,Nat.reduceAdd,Nat.reduceSub,Nat.reduceLeDiff,Nat.reduceLT,implies_true])<;>exact fin2)) ?_
 intro i ⟨hi1,hi2,hall⟩ wf
 unfold zb6
 (repeat first | simp (disch:=try exact dis1) only [evD,Nat.reduceBEq,Nat.reduceAdd,Nat.reduceLeDiff] | with_reducible intro _ | ((with_reducible apply And.intro);omega))
 (refine z6 (fun h2=>?_) (fun h2=>?_))<;>(try simp only [dcd] at h2)
 ·
  have hi':i < l.length:=by omega
  have hi1':i - 1 < l.length:=by omega
  have ei:((i:Int) - 1).toNat=i - 1:=by omega
  (repeat first | simp (disch:=try exact dis1) only [evD,Nat.reduceBEq,Nat.reduceAdd,Nat.reduceLeDiff,zz hi',ei,zz hi1',cW] | with_reducible intro _ | ((with_reducible apply And.intro);omega))
  (refine z6 (fun h3=>?_) (fun h3=>?_))<;>(try simp only [dcd] at h3)
  ·
   have hne:zdM l i=false:=by rw [zdL hi1 hi'];simp;omega
   have hk0:zK l i=l.take i:=ziN (by omega) hall
   have hk1:zK l (i+1)=l.take i:=by rw [zin hne,hk0]
   have hk1l:(zK l (i+1)).length=i:=by rw [hk1,List.length_take];omega
   have hstart:curI (zK l (i+1)) l=l:=by rw [hk1,zpf (by omega)]
   have esl:((l.length:Int) - i).toNat=l.length - i:=by omega
   (repeat first | simp (disch:=try exact dis1) only [evD,Nat.reduceBEq,Nat.reduceAdd,Nat.reduceLeDiff,esl] | with_reducible intro _ | ((with_reducible apply And.intro);omega))
   refine zf (fun a:Nat=>([(0, .own 0 0 g 0 l.length),(3, .int .i64 (zK l (i+a)).length),(4, .own 0 0 g i (l.length - i)),(5, .int .i64 a)],[(0, .row 1 ((curI (zK l (i+a)) l).map cW) g)])) 1
    (fun a=>1≤a∧i+a≤l.length∧(zK l (i+a)).length < i+a) (fun a=>l.length - (i+a)) 1 ⟨by omega,by omega,by omega⟩ (Ent.tabB [(0,0,0)] [] rfl rfl rfl (by (try simp only [evWB,Nat.reduceBEq,Nat.reduceAdd,Nat.reduceSub,Nat.reduceLeDiff,Nat.reduceLT,implies_true,hstart,hk1l])<;>exact fin2) (by (try simp only [evWB,Nat.reduceBEq,Nat.reduceAdd,Nat.reduceSub,Nat.reduceLeDiff,Nat.reduceLT,implies_true,hstart,hk1l])<;>exact fin2)) ?_
   intro a ⟨ha1,ha2,ha3⟩ wf
   unfold zb2
   (repeat first | simp (disch:=try exact dis1) only [evD,Nat.reduceBEq,Nat.reduceAdd,Nat.reduceLeDiff] | with_reducible intro _ | ((with_reducible apply And.intro);omega))
   (refine z6 (fun h4=>?_) (fun h4=>?_))<;>(try simp only [dcd] at h4)
   ·
    have ha':i+a < l.length:=by omega
    have ha1':i+a - 1 < l.length:=by omega
    have e1:i+((a:Int) - 1).toNat=i+a - 1:=by omega
    have g1:=zpR (K:=zK l (i+a)) (l:=l) (by omega) ha'
    have g2:=zpR (K:=zK l (i+a)) (l:=l) (by omega) ha1'
    have hcl:=zlC (K:=zK l (i+a)) (l:=l) (by omega)
    (repeat first | simp (disch:=try exact dis1) only [evD,Nat.reduceBEq,Nat.reduceAdd,Nat.reduceLeDiff,e1,g1,g2] | with_reducible intro _ | ((with_reducible apply And.intro);omega))
    (refine z6 (fun h5=>?_) (fun h5=>?_))<;>(try simp only [dcd] at h5)
    ·
     have hp:zdM l (i+a)=true:=by rw [zdL (by omega) ha'];simp;omega
     have hy:=ziM ha' hp
     have hst:=zt9 (K:=zK l (i+a)) (l:=l) (v:=l[i+a]) (by omega)
     rw [← hy] at hst
     have hyl:(zK l (i+a+1)).length=(zK l (i+a)).length+1:=by rw [hy];simp
     (repeat first | simp (disch:=try exact dis1) only [evD,Nat.reduceBEq,Nat.reduceAdd,Nat.reduceLeDiff,e1,g1,g2,hst] | with_reducible intro _ | ((with_reducible apply And.intro);omega))
     exact ⟨a+1,⟨by omega,by omega,by rw [show i+(a+1)=i+a+1 by omega,hyl];omega⟩,by omega,(Ent.tabB [(0,0,0)] [] rfl rfl rfl (by (try simp only [evWB,Nat.reduceBEq,Nat.reduceAdd,Nat.reduceSub,Nat.reduceLeDiff,Nat.reduceLT,implies_true,show i+(a+1)=i+a+1 by omega,hyl])<;>exact fin2) (by (try simp only [evWB,Nat.reduceBEq,Nat.reduceAdd,Nat.reduceSub,Nat.reduceLeDiff,Nat.reduceLT,implies_true,show i+(a+1)=i+a+1 by omega,hyl])<;>exact fin2))⟩
    ·
     have hp:zdM l (i+a)=false:=by rw [zdL (by omega) ha'];simp;omega
     have hy:=zin hp
     (repeat first | simp (disch:=try exact dis1) only [evD,Nat.reduceBEq,Nat.reduceAdd,Nat.reduceLeDiff] | with_reducible intro _ | ((with_reducible apply And.intro);omega))
     exact ⟨a+1,⟨by omega,by omega,by rw [show i+(a+1)=i+a+1 by omega,hy];omega⟩,by omega,(Ent.tabB [(0,0,0)] [] rfl rfl rfl (by (try simp only [evWB,Nat.reduceBEq,Nat.reduceAdd,Nat.reduceSub,Nat.reduceLeDiff,Nat.reduceLT,implies_true,show i+(a+1)=i+a+1 by omega,hy])<;>exact fin2) (by (try simp only [evWB,Nat.reduceBEq,Nat.reduceAdd,Nat.reduceSub,Nat.reduceLeDiff,Nat.reduceLT,implies_true,show i+(a+1)=i+a+1 by omega,hy])<;>exact fin2))⟩
   ·
    have hia:i+a=l.length:=by omega
    rw [hia] at ha3 ⊢
    have hz:((l.length:Int) - (zK l l.length).length).toNat=l.length - (zK l l.length).length:=by omega
    have hcl:=zlC (K:=zK l l.length) (l:=l) (by omega)
    have hclr:((curI (zK l l.length) l).map cW).take (zK l l.length).length++List.replicate (l.length - (zK l l.length).length) [AV.int .u32 0]++((curI (zK l l.length) l).map cW).drop ((zK l l.length).length+(l.length - (zK l l.length).length))=(zK l l.length++List.replicate (l.length - (zK l l.length).length) 0).map cW:=by
     rw [List.drop_of_length_le (by rw [List.length_map,hcl];omega),List.append_nil,← List.map_take,List.map_append,List.map_replicate]
     congr 2
     unfold curI
     rw [List.take_append_of_le_length (Nat.le_refl _),List.take_length]
    unfold zbY
    (repeat first | simp (disch:=try exact dis1) only [evD,Nat.reduceBEq,Nat.reduceAdd,Nat.reduceLeDiff,zaf,hz,hclr] | with_reducible intro _ | ((with_reducible apply And.intro);omega))
    refine ⟨.own 0 0 g 0 (zbf l).length,[(0, .row 1 ((zbf l++List.replicate (l.length - (zK l l.length).length) 0).map cW) g)],1,?_,_,rfl,rfl,rfl⟩
    exact (Ent.tabB [(0,0,0)] [] rfl rfl rfl (by (try simp only [evWB,Nat.reduceBEq,Nat.reduceAdd,Nat.reduceSub,Nat.reduceLeDiff,Nat.reduceLT,implies_true,zbf])<;>exact fin2) (by (try simp only [evWB,Nat.reduceBEq,Nat.reduceAdd,Nat.reduceSub,Nat.reduceLeDiff,Nat.reduceLT,implies_true,zbf])<;>exact fin2))
  ·
   have hne:zdM l i=true:=by rw [zdL hi1 hi'];simp;omega
   unfold zb4
   (repeat first | simp (disch:=try exact dis1) only [evD,Nat.reduceBEq,Nat.reduceAdd,Nat.reduceLeDiff] | with_reducible intro _ | ((with_reducible apply And.intro);omega))
   refine ⟨i+1,⟨by omega,by omega,fun j hj=>?_⟩,by omega,(Ent.tabB [(0,0,0)] [] rfl rfl rfl (by (try simp only [evWB,Nat.reduceBEq,Nat.reduceAdd,Nat.reduceSub,Nat.reduceLeDiff,Nat.reduceLT,implies_true])<;>exact fin2) (by (try simp only [evWB,Nat.reduceBEq,Nat.reduceAdd,Nat.reduceSub,Nat.reduceLeDiff,Nat.reduceLT,implies_true])<;>exact fin2))⟩
   by_cases hji:j=i
   · subst hji;exact hne
   · exact hall j (by omega)
 ·
  obtain rfl:i=l.length:=by omega
  unfold zbZ
  have e:=fin (4, .undef) 0 hall rfl rfl
  (repeat first | simp (disch:=try exact dis1) only [evD,Nat.reduceBEq,Nat.reduceAdd,Nat.reduceLeDiff,zaf] | with_reducible intro _ | ((with_reducible apply And.intro);omega))
  refine ⟨.own 0 0 g 0 l.length,[(0, .row 1 ((l++[]).map cW) g)],1,?_,[],by rw [e],by rw [e],rfl⟩
  rw [List.append_nil]
  exact (Ent.tabB [(0,0,0)] [] rfl rfl rfl (by (try simp only [evWB,Nat.reduceBEq,Nat.reduceAdd,Nat.reduceSub,Nat.reduceLeDiff,Nat.reduceLT,implies_true])<;>exact fin2) (by (try simp only [evWB,Nat.reduceBEq,Nat.reduceAdd,Nat.reduceSub,Nat.reduceLeDiff,Nat.reduceLT,implies_true])<;>exact fin2))
theorem zok (l:List Int) (n:Int) (hl:l.length≤1000000):zE Try.prog ziB [encL 1 cW l, .int .u32 n] (·=encL 1 cW (insU n l)):=by
 refine fn_x zoB rfl ?_
 unfold zjH
 have hB:=hBig
 (repeat first | simp (disch:=try exact dis1) only [evD,Nat.reduceBEq,Nat.reduceAdd,Nat.reduceLeDiff,za] | with_reducible intro _ | ((with_reducible apply And.intro);omega))
 refine zf (fun i:Nat=>([(0,encL 1 cW l),(1, .int .u32 n),(5, .int .i64 i)],[])) 0 (fun i=>i≤l.length∧∀ j,(h:j < l.length)→j < i→l[j] < n) (fun i=>l.length - i) 0 ⟨Nat.zero_le _,fun j _ h=>by omega⟩ (Ent.tab [] [] rfl (by (try simp only [evWB,Nat.reduceBEq,Nat.reduceAdd,Nat.reduceSub,Nat.reduceLeDiff,Nat.reduceLT,implies_true,za])<;>exact fin2) (by (try simp only [evWB,Nat.reduceBEq,Nat.reduceAdd,Nat.reduceSub,Nat.reduceLeDiff,Nat.reduceLT,implies_true,za])<;>exact fin2)) ?_
 rintro i ⟨hi,hlt⟩ wf
 unfold zhN
 have hat:=zt0 hlt
 by_cases hil:i < l.length
 ·
  have hgl:(l.map cW).getD i []=[.int .u32 l[i]]:=zz (f:=cW) (d:=[]) hil
  by_cases hx:l[i] < n
  ·
   (repeat first | simp (disch:=try exact dis1) only [evD,Nat.reduceBEq,Nat.reduceAdd,Nat.reduceLeDiff,dT,za,hgl] | with_reducible intro _ | ((with_reducible apply And.intro);omega))
   refine ⟨i+1,⟨by omega,fun j hj hji=>?_⟩,by omega,Ent.keep rfl fin5⟩
   by_cases hje:j=i
   · subst hje;exact hx
   · exact hlt j hj (by omega)
  ·
   rw [List.drop_eq_getElem_cons hil,insU,if_neg hx] at hat
   (repeat first | simp (disch:=try exact dis1) only [evD,Nat.reduceBEq,Nat.reduceAdd,Nat.reduceLeDiff,dT,dF,za,hgl] | with_reducible intro _ | ((with_reducible apply And.intro);omega))
   unfold ze9
   by_cases he:l[i]=n
   ·
    rw [if_pos he,← List.drop_eq_getElem_cons hil,List.take_append_drop] at hat
    rw [hat]
    (repeat first | simp (disch:=try exact dis1) only [evD,Nat.reduceBEq,Nat.reduceAdd,Nat.reduceLeDiff,dT,za,hgl,zfE] | with_reducible intro _ | ((with_reducible apply And.intro);omega))
    exact ⟨_,zaF rfl,rfl⟩
   ·
    rw [if_neg he,← List.drop_eq_getElem_cons hil] at hat
    have hll:=congrArg List.length hat
    simp only [List.length_append,List.length_cons,List.length_take,List.length_drop] at hll
    rw [hat]
    have e1:=fun H=>zmW (f:=cW) (sz:=1) (H:=H) hi (fun _=>rfl)
    have e2:=fun H=>zlU (f:=cW) (sz:=1) (H:=H) hi (fun _=>rfl)
    have k1:(l.take i).length=i:=by rw [List.length_take];omega
    have k2:((l.take i).map cW).take i=(l.take i).map cW:=List.take_of_length_le (by rw [List.length_map];omega)
    have k3:(((l.take i).map cW)++[[AV.int .u32 n]]).take (i+1)=((l.take i).map cW)++[[AV.int .u32 n]]:=List.take_of_length_le (by simp;omega)
    have k4:(((l.take i).map cW)++[[AV.int .u32 n]]).length=i+1:=by simp;omega
    have t1:((i:Int) - 0).toNat=i:=by omega
    have t2:((l.length:Int) - (i:Int)).toNat=l.length - i:=by omega
    (repeat first | simp (disch:=try exact dis1) only [evD,Nat.reduceBEq,Nat.reduceAdd,Nat.reduceLeDiff,dT,dF,za,hgl,zmC,zmO,e1,e2,zws,zuF,t1,t2,k1,k2,k3,k4,zfE] | with_reducible intro _ | ((with_reducible apply And.intro);omega))
    have er:(l.take i).map cW++[[AV.int .u32 n]]++(l.drop i).map cW=(l.take i++n::l.drop i).map cW:=by simp [cW]
    have el:i+1+(l.length - i)=(l.take i++n::l.drop i).length:=by rw [List.length_append,List.length_cons,List.length_drop,k1];omega
    rw [er,el]
    exact ⟨_,vw_W trivial rfl (by rw [← el];omega),rfl⟩
 ·
  obtain rfl:i=l.length:=by omega
  rw [List.take_length,List.drop_length,insU] at hat
  (repeat first | simp (disch:=try exact dis1) only [evD,Nat.reduceBEq,Nat.reduceAdd,Nat.reduceLeDiff,dF,za] | with_reducible intro _ | ((with_reducible apply And.intro);omega))
  unfold ze9
  rw [hat]
  have e1:=fun H=>zmW (f:=cW) (sz:=1) (H:=H) hi (fun _=>rfl)
  have e2:=fun H=>zlU (f:=cW) (sz:=1) (H:=H) hi (fun _=>rfl)
  have k3:((l.map cW)++[[AV.int .u32 n]]).take (l.length+1)=(l.map cW)++[[AV.int .u32 n]]:=List.take_of_length_le (by simp)
  have k4:((l.map cW)++[[AV.int .u32 n]]).length=l.length+1:=by simp
  have t1:((l.length:Int) - 0).toNat=l.length:=by omega
  have t2:((l.length:Int) - (l.length:Int)).toNat=l.length - l.length:=by omega
  (repeat first | simp (disch:=try exact dis1) only [evD,Nat.reduceBEq,Nat.reduceAdd,Nat.reduceLeDiff,dF,za,zmC,zmO,e1,e2,zws,zuF,t1,t2,k3,k4,zfE] | with_reducible intro _ | ((with_reducible apply And.intro);omega))
  have er:l.map cW++[[AV.int .u32 n]]++(l.drop l.length).map cW=(l++[n]).map cW:=by simp [cW]
  have el:l.length+1+(l.length - l.length)=(l++[n]).length:=by simp
  rw [er,el]
  exact ⟨_,vw_W trivial rfl (by rw [← el];omega),rfl⟩
theorem zpD (a:List Int):zE Try.prog zhl [encL 1 cW a,encL 1 cW a] (·=.bool true):=by
 refine fn_x zpW rfl ?_
 unfold zkP
 have hB:=hBig
 (repeat first | simp (disch:=try exact dis1) only [evD,Nat.reduceBEq,Nat.reduceAdd,Nat.reduceLeDiff,dF] | with_reducible intro _ | ((with_reducible apply And.intro);omega))
 refine zf (fun i:Nat=>([(0,encL 1 cW a),(1,encL 1 cW a),(5, .int .i64 i)],[])) 0 (fun i=>i≤a.length) (fun i=>a.length - i) 0 (Nat.zero_le _) (Ent.keep rfl fin5) ?_
 rintro i hi wf
 unfold zia
 by_cases hil:i < a.length
 ·
  have hgl:(a.map cW).getD i []=[.int .u32 a[i]]:=zz (f:=cW) (d:=[]) hil
  (repeat first | simp (disch:=try exact dis1) only [evD,Nat.reduceBEq,Nat.reduceAdd,Nat.reduceLeDiff,dT,dF,hgl] | with_reducible intro _ | ((with_reducible apply And.intro);omega))
  exact ⟨i+1,by omega,by omega,Ent.keep rfl fin5⟩
 ·
  (repeat first | simp (disch:=try exact dis1) only [evD,Nat.reduceBEq,Nat.reduceAdd,Nat.reduceLeDiff,dF] | with_reducible intro _ | ((with_reducible apply And.intro);omega))
  unfold zh1
  (repeat first | simp (disch:=try exact dis1) only [evD,Nat.reduceBEq,Nat.reduceAdd,Nat.reduceLeDiff,zld] | with_reducible intro _ | ((with_reducible apply And.intro);omega))
  exact ⟨_, .bool _ _,rfl⟩
mutual
theorem zjV:∀ e:Ex,(zf8 e).length≤zc9 e
 |
  .mk op _ v _ l=>by
  have h:=znV (if op=2 then [v] else []) l
  rw [zf8,zc9]
  have:(if op=2 then [v] else ([]:List Int)).length≤1:=by split<;>simp
  omega
theorem znV:∀ (a:List Int) (l:List Ex),(ziy a l).length≤a.length+zt l
 | a,[]=>by rw [ziy,zt];simp
 |
  a,x::l=>by
  have h1:=znV (zcf a (zf8 x)) l
  have h2:=zns (a:=a) (b:=zf8 x)
  have h3:=zjV x
  rw [ziy,zt]
  omega
end
theorem zmt {l:List Ex} {i:Nat} (h:i < l.length):zt (l.drop i)=zc9 l[i]+zt (l.drop (i+1)):=by
 rw [List.drop_eq_getElem_cons h,zt]
theorem zlj (s:St):zE Try.prog zer [.agg s.cells] (·=za (zlt s)):=by
 refine fn_x zlf rfl ?_
 unfold zhK
 have hB:=hBig
 obtain ⟨op,var,width,next,els,tgt,l,cs⟩:=s
 unfold zlt
 simp only
 by_cases h:op=1∨op=3
 ·
  rw [if_pos h]
  rcases h with rfl | rfl
  ·
   (repeat first | simp (disch:=try exact dis1) only [evD,Nat.reduceBEq,Nat.reduceAdd,Nat.reduceLeDiff,dT,dF,fldP,za,St.cells,zdR] | with_reducible intro _ | ((with_reducible apply And.intro);omega))
   exact ⟨_,zcT (l:=[var]) trivial rfl (by simp only [List.length_singleton];omega),rfl⟩
  ·
   (repeat first | simp (disch:=try exact dis1) only [evD,Nat.reduceBEq,Nat.reduceAdd,Nat.reduceLeDiff,dT,dF,fldP,za,St.cells,zdR] | with_reducible intro _ | ((with_reducible apply And.intro);omega))
   exact ⟨_,zcT (l:=[var]) trivial rfl (by simp only [List.length_singleton];omega),rfl⟩
 ·
  rw [if_neg h]
  (repeat first | simp (disch:=try exact dis1) only [evD,Nat.reduceBEq,Nat.reduceAdd,Nat.reduceLeDiff,dT,dF,fldP,za,St.cells,zdR] | with_reducible intro _ | ((with_reducible apply And.intro);omega))
  exact ⟨_,zcT (l:=[]) trivial rfl (by simp only [List.length_nil];omega),rfl⟩
theorem zke (s:St):zE Try.prog zeR [.agg s.cells] (·=.bool (zjz s)):=by
 refine fn_x zkb rfl ?_
 unfold zgE
 have hB:=hBig
 obtain ⟨op,var,width,next,els,tgt,l,cs⟩:=s
 unfold zjz
 simp only
 by_cases h9:op=9
 ·
  (repeat first | simp (disch:=try exact dis1) only [evD,Nat.reduceBEq,Nat.reduceAdd,Nat.reduceLeDiff,dT,dF,fldP,za,St.cells,zc3] | with_reducible intro _ | ((with_reducible apply And.intro);omega))
  exact ⟨_, .bool _ _,rfl⟩
 by_cases h10:op=10
 ·
  (repeat first | simp (disch:=try exact dis1) only [evD,Nat.reduceBEq,Nat.reduceAdd,Nat.reduceLeDiff,dT,dF,fldP,za,St.cells,zc3] | with_reducible intro _ | ((with_reducible apply And.intro);omega))
  exact ⟨_, .bool _ _,rfl⟩
 (repeat first | simp (disch:=try exact dis1) only [evD,Nat.reduceBEq,Nat.reduceAdd,Nat.reduceLeDiff,dT,dF,fldP,za,St.cells,zc3] | with_reducible intro _ | ((with_reducible apply And.intro);omega))
 exact ⟨_, .bool _ _,congrArg AV.bool (decide_eq_decide.2 (by omega))⟩
end Go.Ab
