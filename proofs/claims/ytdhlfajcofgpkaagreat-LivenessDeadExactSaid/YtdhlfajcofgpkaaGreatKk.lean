/-
  Part 11 of the proof: how the calls of this program run, over values instead of memory, and what each function computes.
-/
import Derived.KernelRfl
import Derived.Test.YtdhlfajcofgpkaaGreatKj
set_option maxRecDepth 100000
set_option linter.unusedVariables false
set_option linter.unusedSimpArgs false
set_option linter.unnecessarySimpa false
set_option linter.unusedSectionVars false
namespace Go.Ab
open Go.RowKit Go.Proofs
def zil:ACode:=.seq (.draw ( .step (oN 53 (.mov (.t 13))) ( .step (oN 54 (.fldaddr 1 1 (.t 2))) ( .step (oN 55 (.load false 1 (.t 54))) ( .step (oN 56 (.mov (.t 14))) ( .step (oN 57 (.idx 2 (.t 55) (.t 56))) ( .step (oN 58 (.fldaddr 1 1 (.t 57))) ( .step (oN 59 (.load false 1 (.t 58))) ( .step (oN 60 (.len (.t 59))) ( .step (oN 61 (.bin .add (.t 53) (.t 60))) ( .step (oN 62 (.fldaddr 1 1 (.t 15))) ( .step (oN 63 (.load false 1 (.t 62))) ( .step (oN 64 (.len (.t 63))) ( .step (oN 65 (.bin .sub (.t 61) (.t 64))) ( .step (oN 13 (.mov (.t 65))) ( .done))))))))))))))) [53,54,55,56,57,58,59,60,61,62,63,64,65]) (.region [ (oN 66 (.fldaddr 1 1 (.t 12))),(oN 67 (.load false 1 (.t 66))),(oN 68 (.load true 2 (.t 15))),(oN 69 (.buildSl 2 1 [.int .u32 0, .nilsl] [(0,(.t 68))])),(oN 70 (.append 2 32 (.t 67) (.t 69))),(oN 71 (.fldaddr 1 1 (.t 12))),⟨none, .store 1 (.t 71) (.t 70),none⟩] [15,66,67,68,69,70,71])
def zft:ACode:=.seq (.seq (.region [ (oN 35 (.mov (.t 14))),(oN 36 (.fldaddr 1 1 (.t 2))),(oN 37 (.load false 1 (.t 36))),(oN 38 (.len (.t 37))),(oN 39 (.bin .lss (.t 35) (.t 38)))] [35,36,37,38]) (.cond (.t 39) (.skip) (.exit 2))) (.seq (.block 3 (.join (.draw ( .step (oN 42 (.fldaddr 1 1 (.t 2))) ( .step (oN 44 (.mov (.t 14))) ( .step (oN 47 (.mov (.t 11))) ( .step (oN 48 (.mov (.t 14))) ( .step (oN 51 (.mov (.t 1))) ( .alt (oN 43 (.load false 1 (.t 42))) ( .alt (oN 45 (.idx 2 (.t 43) (.t 44))) ( .alt (oN 46 (.load true 2 (.t 45))) ( .alt (oN 49 (.idx 1 (.t 47) (.t 48))) ( .alt (oN 50 (.load false 1 (.t 49))) ( .alt (oN 52 (.callq zr [(.t 46),(.t 50),(.t 51)])) ( .alt (oN 15 (.alloc [.int .u32 0, .nilsl])) ( .alt ⟨none, .store 2 (.t 15) (.t 52),none⟩ ( .done) ( .stop)) ( .stop)) ( .alt (oN 15 (.alloc [.int .u32 0, .nilsl])) ( .step (oN 52 (.callq zr [(.t 46),(.t 50),(.t 51)])) ( .alt ⟨none, .store 2 (.t 15) (.t 52),none⟩ ( .done) ( .stop))) ( .stop))) ( .alt (oN 15 (.alloc [.int .u32 0, .nilsl])) ( .step (oN 50 (.load false 1 (.t 49))) ( .step (oN 52 (.callq zr [(.t 46),(.t 50),(.t 51)])) ( .alt ⟨none, .store 2 (.t 15) (.t 52),none⟩ ( .done) ( .stop)))) ( .stop))) ( .alt (oN 15 (.alloc [.int .u32 0, .nilsl])) ( .step (oN 49 (.idx 1 (.t 47) (.t 48))) ( .step (oN 50 (.load false 1 (.t 49))) ( .step (oN 52 (.callq zr [(.t 46),(.t 50),(.t 51)])) ( .alt ⟨none, .store 2 (.t 15) (.t 52),none⟩ ( .done) ( .stop))))) ( .stop))) ( .alt (oN 49 (.idx 1 (.t 47) (.t 48))) ( .alt (oN 46 (.load true 2 (.t 45))) ( .alt (oN 50 (.load false 1 (.t 49))) ( .alt (oN 52 (.callq zr [(.t 46),(.t 50),(.t 51)])) ( .alt (oN 15 (.alloc [.int .u32 0, .nilsl])) ( .alt ⟨none, .store 2 (.t 15) (.t 52),none⟩ ( .done) ( .stop)) ( .stop)) ( .alt (oN 15 (.alloc [.int .u32 0, .nilsl])) ( .step (oN 52 (.callq zr [(.t 46),(.t 50),(.t 51)])) ( .alt ⟨none, .store 2 (.t 15) (.t 52),none⟩ ( .done) ( .stop))) ( .stop))) ( .alt (oN 15 (.alloc [.int .u32 0, .nilsl])) ( .step (oN 50 (.load false 1 (.t 49))) ( .step (oN 52 (.callq zr [(.t 46),(.t 50),(.t 51)])) ( .alt ⟨none, .store 2 (.t 15) (.t 52),none⟩ ( .done) ( .stop)))) ( .stop))) ( .alt (oN 50 (.load false 1 (.t 49))) ( .alt (oN 46 (.load true 2 (.t 45))) ( .alt (oN 52 (.callq zr [(.t 46),(.t 50),(.t 51)])) ( .alt (oN 15 (.alloc [.int .u32 0, .nilsl])) ( .alt ⟨none, .store 2 (.t 15) (.t 52),none⟩ ( .done) ( .stop)) ( .stop)) ( .alt (oN 15 (.alloc [.int .u32 0, .nilsl])) ( .step (oN 52 (.callq zr [(.t 46),(.t 50),(.t 51)])) ( .alt ⟨none, .store 2 (.t 15) (.t 52),none⟩ ( .done) ( .stop))) ( .stop))) ( .alt (oN 15 (.alloc [.int .u32 0, .nilsl])) ( .step (oN 46 (.load true 2 (.t 45))) ( .step (oN 52 (.callq zr [(.t 46),(.t 50),(.t 51)])) ( .alt ⟨none, .store 2 (.t 15) (.t 52),none⟩ ( .done) ( .stop)))) ( .stop))) ( .alt (oN 15 (.alloc [.int .u32 0, .nilsl])) ( .step (oN 46 (.load true 2 (.t 45))) ( .step (oN 50 (.load false 1 (.t 49))) ( .step (oN 52 (.callq zr [(.t 46),(.t 50),(.t 51)])) ( .alt ⟨none, .store 2 (.t 15) (.t 52),none⟩ ( .done) ( .stop))))) ( .stop)))) ( .alt (oN 15 (.alloc [.int .u32 0, .nilsl])) ( .step (oN 46 (.load true 2 (.t 45))) ( .step (oN 49 (.idx 1 (.t 47) (.t 48))) ( .step (oN 50 (.load false 1 (.t 49))) ( .step (oN 52 (.callq zr [(.t 46),(.t 50),(.t 51)])) ( .alt ⟨none, .store 2 (.t 15) (.t 52),none⟩ ( .done) ( .stop)))))) ( .stop)))) ( .alt (oN 49 (.idx 1 (.t 47) (.t 48))) ( .alt (oN 45 (.idx 2 (.t 43) (.t 44))) ( .alt (oN 46 (.load true 2 (.t 45))) ( .alt (oN 50 (.load false 1 (.t 49))) ( .alt (oN 52 (.callq zr [(.t 46),(.t 50),(.t 51)])) ( .alt (oN 15 (.alloc [.int .u32 0, .nilsl])) ( .alt ⟨none, .store 2 (.t 15) (.t 52),none⟩ ( .done) ( .stop)) ( .stop)) ( .alt (oN 15 (.alloc [.int .u32 0, .nilsl])) ( .step (oN 52 (.callq zr [(.t 46),(.t 50),(.t 51)])) ( .alt ⟨none, .store 2 (.t 15) (.t 52),none⟩ ( .done) ( .stop))) ( .stop))) ( .alt (oN 15 (.alloc [.int .u32 0, .nilsl])) ( .step (oN 50 (.load false 1 (.t 49))) ( .step (oN 52 (.callq zr [(.t 46),(.t 50),(.t 51)])) ( .alt ⟨none, .store 2 (.t 15) (.t 52),none⟩ ( .done) ( .stop)))) ( .stop))) ( .alt (oN 50 (.load false 1 (.t 49))) ( .alt (oN 46 (.load true 2 (.t 45))) ( .alt (oN 52 (.callq zr [(.t 46),(.t 50),(.t 51)])) ( .alt (oN 15 (.alloc [.int .u32 0, .nilsl])) ( .alt ⟨none, .store 2 (.t 15) (.t 52),none⟩ ( .done) ( .stop)) ( .stop)) ( .alt (oN 15 (.alloc [.int .u32 0, .nilsl])) ( .step (oN 52 (.callq zr [(.t 46),(.t 50),(.t 51)])) ( .alt ⟨none, .store 2 (.t 15) (.t 52),none⟩ ( .done) ( .stop))) ( .stop))) ( .alt (oN 15 (.alloc [.int .u32 0, .nilsl])) ( .step (oN 46 (.load true 2 (.t 45))) ( .step (oN 52 (.callq zr [(.t 46),(.t 50),(.t 51)])) ( .alt ⟨none, .store 2 (.t 15) (.t 52),none⟩ ( .done) ( .stop)))) ( .stop))) ( .alt (oN 15 (.alloc [.int .u32 0, .nilsl])) ( .step (oN 46 (.load true 2 (.t 45))) ( .step (oN 50 (.load false 1 (.t 49))) ( .step (oN 52 (.callq zr [(.t 46),(.t 50),(.t 51)])) ( .alt ⟨none, .store 2 (.t 15) (.t 52),none⟩ ( .done) ( .stop))))) ( .stop)))) ( .alt (oN 50 (.load false 1 (.t 49))) ( .alt (oN 45 (.idx 2 (.t 43) (.t 44))) ( .alt (oN 46 (.load true 2 (.t 45))) ( .alt (oN 52 (.callq zr [(.t 46),(.t 50),(.t 51)])) ( .alt (oN 15 (.alloc [.int .u32 0, .nilsl])) ( .alt ⟨none, .store 2 (.t 15) (.t 52),none⟩ ( .done) ( .stop)) ( .stop)) ( .alt (oN 15 (.alloc [.int .u32 0, .nilsl])) ( .step (oN 52 (.callq zr [(.t 46),(.t 50),(.t 51)])) ( .alt ⟨none, .store 2 (.t 15) (.t 52),none⟩ ( .done) ( .stop))) ( .stop))) ( .alt (oN 15 (.alloc [.int .u32 0, .nilsl])) ( .step (oN 46 (.load true 2 (.t 45))) ( .step (oN 52 (.callq zr [(.t 46),(.t 50),(.t 51)])) ( .alt ⟨none, .store 2 (.t 15) (.t 52),none⟩ ( .done) ( .stop)))) ( .stop))) ( .alt (oN 15 (.alloc [.int .u32 0, .nilsl])) ( .step (oN 45 (.idx 2 (.t 43) (.t 44))) ( .step (oN 46 (.load true 2 (.t 45))) ( .step (oN 52 (.callq zr [(.t 46),(.t 50),(.t 51)])) ( .alt ⟨none, .store 2 (.t 15) (.t 52),none⟩ ( .done) ( .stop))))) ( .stop))) ( .alt (oN 15 (.alloc [.int .u32 0, .nilsl])) ( .step (oN 45 (.idx 2 (.t 43) (.t 44))) ( .step (oN 46 (.load true 2 (.t 45))) ( .step (oN 50 (.load false 1 (.t 49))) ( .step (oN 52 (.callq zr [(.t 46),(.t 50),(.t 51)])) ( .alt ⟨none, .store 2 (.t 15) (.t 52),none⟩ ( .done) ( .stop)))))) ( .stop)))) ( .alt (oN 15 (.alloc [.int .u32 0, .nilsl])) ( .step (oN 45 (.idx 2 (.t 43) (.t 44))) ( .step (oN 46 (.load true 2 (.t 45))) ( .step (oN 49 (.idx 1 (.t 47) (.t 48))) ( .step (oN 50 (.load false 1 (.t 49))) ( .step (oN 52 (.callq zr [(.t 46),(.t 50),(.t 51)])) ( .alt ⟨none, .store 2 (.t 15) (.t 52),none⟩ ( .done) ( .stop))))))) ( .stop)))) ( .alt (oN 49 (.idx 1 (.t 47) (.t 48))) ( .alt (oN 43 (.load false 1 (.t 42))) ( .alt (oN 45 (.idx 2 (.t 43) (.t 44))) ( .alt (oN 46 (.load true 2 (.t 45))) ( .alt (oN 50 (.load false 1 (.t 49))) ( .alt (oN 52 (.callq zr [(.t 46),(.t 50),(.t 51)])) ( .alt (oN 15 (.alloc [.int .u32 0, .nilsl])) ( .alt ⟨none, .store 2 (.t 15) (.t 52),none⟩ ( .done) ( .stop)) ( .stop)) ( .alt (oN 15 (.alloc [.int .u32 0, .nilsl])) ( .step (oN 52 (.callq zr [(.t 46),(.t 50),(.t 51)])) ( .alt ⟨none, .store 2 (.t 15) (.t 52),none⟩ ( .done) ( .stop))) ( .stop))) ( .alt (oN 15 (.alloc [.int .u32 0, .nilsl])) ( .step (oN 50 (.load false 1 (.t 49))) ( .step (oN 52 (.callq zr [(.t 46),(.t 50),(.t 51)])) ( .alt ⟨none, .store 2 (.t 15) (.t 52),none⟩ ( .done) ( .stop)))) ( .stop))) ( .alt (oN 50 (.load false 1 (.t 49))) ( .alt (oN 46 (.load true 2 (.t 45))) ( .alt (oN 52 (.callq zr [(.t 46),(.t 50),(.t 51)])) ( .alt (oN 15 (.alloc [.int .u32 0, .nilsl])) ( .alt ⟨none, .store 2 (.t 15) (.t 52),none⟩ ( .done) ( .stop)) ( .stop)) ( .alt (oN 15 (.alloc [.int .u32 0, .nilsl])) ( .step (oN 52 (.callq zr [(.t 46),(.t 50),(.t 51)])) ( .alt ⟨none, .store 2 (.t 15) (.t 52),none⟩ ( .done) ( .stop))) ( .stop))) ( .alt (oN 15 (.alloc [.int .u32 0, .nilsl])) ( .step (oN 46 (.load true 2 (.t 45))) ( .step (oN 52 (.callq zr [(.t 46),(.t 50),(.t 51)])) ( .alt ⟨none, .store 2 (.t 15) (.t 52),none⟩ ( .done) ( .stop)))) ( .stop))) ( .alt (oN 15 (.alloc [.int .u32 0, .nilsl])) ( .step (oN 46 (.load true 2 (.t 45))) ( .step (oN 50 (.load false 1 (.t 49))) ( .step (oN 52 (.callq zr [(.t 46),(.t 50),(.t 51)])) ( .alt ⟨none, .store 2 (.t 15) (.t 52),none⟩ ( .done) ( .stop))))) ( .stop)))) ( .alt (oN 50 (.load false 1 (.t 49))) ( .alt (oN 45 (.idx 2 (.t 43) (.t 44))) ( .alt (oN 46 (.load true 2 (.t 45))) ( .alt (oN 52 (.callq zr [(.t 46),(.t 50),(.t 51)])) ( .alt (oN 15 (.alloc [.int .u32 0, .nilsl])) ( .alt ⟨none, .store 2 (.t 15) (.t 52),none⟩ ( .done) ( .stop)) ( .stop)) ( .alt (oN 15 (.alloc [.int .u32 0, .nilsl])) ( .step (oN 52 (.callq zr [(.t 46),(.t 50),(.t 51)])) ( .alt ⟨none, .store 2 (.t 15) (.t 52),none⟩ ( .done) ( .stop))) ( .stop))) ( .alt (oN 15 (.alloc [.int .u32 0, .nilsl])) ( .step (oN 46 (.load true 2 (.t 45))) ( .step (oN 52 (.callq zr [(.t 46),(.t 50),(.t 51)])) ( .alt ⟨none, .store 2 (.t 15) (.t 52),none⟩ ( .done) ( .stop)))) ( .stop))) ( .alt (oN 15 (.alloc [.int .u32 0, .nilsl])) ( .step (oN 45 (.idx 2 (.t 43) (.t 44))) ( .step (oN 46 (.load true 2 (.t 45))) ( .step (oN 52 (.callq zr [(.t 46),(.t 50),(.t 51)])) ( .alt ⟨none, .store 2 (.t 15) (.t 52),none⟩ ( .done) ( .stop))))) ( .stop))) ( .alt (oN 15 (.alloc [.int .u32 0, .nilsl])) ( .step (oN 45 (.idx 2 (.t 43) (.t 44))) ( .step (oN 46 (.load true 2 (.t 45))) ( .step (oN 50 (.load false 1 (.t 49))) ( .step (oN 52 (.callq zr [(.t 46),(.t 50),(.t 51)])) ( .alt ⟨none, .store 2 (.t 15) (.t 52),none⟩ ( .done) ( .stop)))))) ( .stop)))) ( .alt (oN 50 (.load false 1 (.t 49))) ( .alt (oN 43 (.load false 1 (.t 42))) ( .alt (oN 45 (.idx 2 (.t 43) (.t 44))) ( .alt (oN 46 (.load true 2 (.t 45))) ( .alt (oN 52 (.callq zr [(.t 46),(.t 50),(.t 51)])) ( .alt (oN 15 (.alloc [.int .u32 0, .nilsl])) ( .alt ⟨none, .store 2 (.t 15) (.t 52),none⟩ ( .done) ( .stop)) ( .stop)) ( .alt (oN 15 (.alloc [.int .u32 0, .nilsl])) ( .step (oN 52 (.callq zr [(.t 46),(.t 50),(.t 51)])) ( .alt ⟨none, .store 2 (.t 15) (.t 52),none⟩ ( .done) ( .stop))) ( .stop))) ( .alt (oN 15 (.alloc [.int .u32 0, .nilsl])) ( .step (oN 46 (.load true 2 (.t 45))) ( .step (oN 52 (.callq zr [(.t 46),(.t 50),(.t 51)])) ( .alt ⟨none, .store 2 (.t 15) (.t 52),none⟩ ( .done) ( .stop)))) ( .stop))) ( .alt (oN 15 (.alloc [.int .u32 0, .nilsl])) ( .step (oN 45 (.idx 2 (.t 43) (.t 44))) ( .step (oN 46 (.load true 2 (.t 45))) ( .step (oN 52 (.callq zr [(.t 46),(.t 50),(.t 51)])) ( .alt ⟨none, .store 2 (.t 15) (.t 52),none⟩ ( .done) ( .stop))))) ( .stop))) ( .alt (oN 15 (.alloc [.int .u32 0, .nilsl])) ( .step (oN 43 (.load false 1 (.t 42))) ( .step (oN 45 (.idx 2 (.t 43) (.t 44))) ( .step (oN 46 (.load true 2 (.t 45))) ( .step (oN 52 (.callq zr [(.t 46),(.t 50),(.t 51)])) ( .alt ⟨none, .store 2 (.t 15) (.t 52),none⟩ ( .done) ( .stop)))))) ( .stop))) ( .alt (oN 15 (.alloc [.int .u32 0, .nilsl])) ( .step (oN 43 (.load false 1 (.t 42))) ( .step (oN 45 (.idx 2 (.t 43) (.t 44))) ( .step (oN 46 (.load true 2 (.t 45))) ( .step (oN 50 (.load false 1 (.t 49))) ( .step (oN 52 (.callq zr [(.t 46),(.t 50),(.t 51)])) ( .alt ⟨none, .store 2 (.t 15) (.t 52),none⟩ ( .done) ( .stop))))))) ( .stop)))) ( .alt (oN 15 (.alloc [.int .u32 0, .nilsl])) ( .step (oN 43 (.load false 1 (.t 42))) ( .step (oN 45 (.idx 2 (.t 43) (.t 44))) ( .step (oN 46 (.load true 2 (.t 45))) ( .step (oN 49 (.idx 1 (.t 47) (.t 48))) ( .step (oN 50 (.load false 1 (.t 49))) ( .step (oN 52 (.callq zr [(.t 46),(.t 50),(.t 51)])) ( .alt ⟨none, .store 2 (.t 15) (.t 52),none⟩ ( .done) ( .stop)))))))) ( .stop))))))))) [39,42,43,44,45,46,47,48,49,50,51,52]) (zil))) (.region [ (oN 40 (.mov (.t 14))),(oN 41 (.bin .add (.t 40) (.c (.int .i64 1)))),(oN 14 (.mov (.t 41)))] [40,41]))
def zdf:ACode:=.seq (.seq (.region [ (oN 72 (.mov (.t 13))),(oN 73 (.bin .eql (.t 72) (.c (.int .i64 0))))] [11,14,72]) (.cond (.t 73) (.seq (.region [ (oN 74 (.load true 2 (.t 12))),(oN 75 (.mov (.t 8))),⟨none, .store 2 (.t 4) (.t 74),none⟩,(oN 5 (.mov (.t 75))),(oN 6 (.mov (.c (.int .i64 0))))] [1,2,8,9,12,13,73,74,75]) (.ret)) (.skip))) (.seq (.region [ (oN 76 (.load true 2 (.t 12))),⟨none, .store 2 (.t 2) (.t 76),none⟩] [5,6,12,73,76]) (.region [ (oN 77 (.mov (.t 8))),(oN 78 (.mov (.t 13))),(oN 79 (.bin .add (.t 77) (.t 78))),(oN 8 (.mov (.t 79)))] [13,77,78,79]))
def ziu:ACode:=.region [ (oN 24 (.mov (.t 9))),(oN 25 (.bin .add (.t 24) (.c (.int .i64 1)))),(oN 9 (.mov (.t 25)))] [24,25]
def ziK:ACode:=.seq (.seq (.region [ (oN 22 (.mov (.t 9))),(oN 23 (.bin .leq (.t 22) (.c (.int .i64 1024))))] [22]) (.cond (.t 23) (.skip) (.exit 0))) (.seq (.block 1 (.seq (.region [ (oN 27 (.load true 2 (.t 2))),(oN 28 (.mov (.t 1))),(oN 29 (.call zkW [(.t 27),(.t 28)])),(oN 26 (.mov (.t 29))),(oN 30 (.ext 0 (.t 26))),(oN 31 (.ext 1 (.t 26))),(oN 10 (.mov (.t 30))),(oN 11 (.mov (.t 31)))] [10,23,26,27,28,29,30,31]) (.seq (.region [ (oN 32 (.fldaddr 0 1 (.t 2))),(oN 33 (.load false 1 (.t 32))),(oN 34 (.build [.int .u32 0, .nilsl] [(0,1,(.t 33))])),(oN 12 (.alloc [.int .u32 0, .nilsl])),⟨none, .store 2 (.t 12) (.t 34),none⟩] [32,33,34]) (.seq (.region [ (oN 13 (.mov (.c (.int .i64 0))))] []) (.seq (.seq (.region [ (oN 14 (.mov (.c (.int .i64 0))))] []) (.block 2 (.loop zft))) (zdf)))))) (ziu))
def zmQ:ACode:=.seq (.region [ (oN 80 (.load true 2 (.t 2))),(oN 81 (.mov (.t 8))),⟨none, .store 2 (.t 4) (.t 80),none⟩,(oN 5 (.mov (.t 81))),(oN 6 (.mov (.c (.int .i64 0))))] [1,2,8,9,80,81]) (.ret)
def zlR:ACode:=.seq (.region [ (oN 2 (.box (.t 0))),(oN 4 (.alloc [.int .u32 0, .nilsl])),(oN 5 (.mov (.c (.int .i64 0)))),(oN 6 (.mov (.c (.int .i64 0))))] [0,5,6]) (.seq (.region [ (oN 16 (.load true 2 (.t 2))),(oN 17 (.call zel [(.t 16)])),(oN 7 (.mov (.t 17)))] [16,17]) (.seq (.seq (.region [ (oN 18 (.mov (.t 7))),(oN 19 (.bin .neq (.t 18) (.c (.int .i64 0))))] [18]) (.cond (.t 19) (.seq (.region [ (oN 20 (.build [.int .u32 0, .nilsl] [])),(oN 21 (.mov (.t 7))),⟨none, .store 2 (.t 4) (.t 20),none⟩,(oN 5 (.mov (.c (.int .i64 0)))),(oN 6 (.mov (.t 21)))] [1,2,7,19,20,21]) (.ret)) (.skip))) (.seq (.region [ (oN 8 (.mov (.c (.int .i64 0))))] [5,6,7,19]) (.seq (.seq (.region [ (oN 9 (.mov (.c (.int .i64 0))))] []) (.block 0 (.loop ziK))) (zmQ)))))
def zh2:List ARet:=[.cell 4 true 2, .tmp 5, .tmp 6]
theorem zro:zV Tryz.prog zly (qRo [])=some (zlR.strip,zh2,82):=by kernel_rfl
theorem zAJ {b:List St}:∀ {a:List St},a.Sublist b→(a.flatMap zcF).length≤(b.flatMap zcF).length:=by
 intro a h
 induction h with
 | slnil=>exact Nat.le_refl _
 | cons s _ ih=>simp only [List.flatMap_cons,List.length_append];omega
 | cons_cons s _ ih=>simp only [List.flatMap_cons,List.length_append];omega
theorem SubB.univ {exit:List Int}:∀ {a b:List Bl},SubB a b→(Go.Ab.univ exit a).length≤(Go.Ab.univ exit b).length
 | [],_,_=>by simp [Go.Ab.univ]
 | x::a,[],h=>by have:=h.1;simp at this
 |
  x::a,y::b,h=>by
  obtain ⟨_,hs⟩:=h.2 0 (by simp) (by simp)
  have h2:SubB a b:=⟨by have:=h.1;simpa using this,fun i h1 h2=>h.2 (i+1) (by simpa using h1) (by simpa using h2)⟩
  have h3:=SubB.univ (exit:=exit) h2
  simp only [List.getElem_cons_zero] at hs
  have:=zAJ hs
  simp only [Go.Ab.univ,List.length_append,List.flatMap_cons] at h3 ⊢
  omega
structure FewD (exit:List Int) (bl:List Bl):Prop where
 sz:∀ b∈bl,∀ s∈b.stmts,zC s.e≤100000∧s.cases.length≤100000∧(s.op=1→s.e.length=1)
 len:bl.length≤1000000
 cnt:zo bl≤1000
 uni:(univ exit bl).length+exit.length≤400000
theorem FewD.few {exit:List Int} {bl:List Bl} (h:FewD exit bl):FewV exit bl:=by
 refine ⟨fun b hb s hs=>(h.sz b hb s hs).1,h.len,fun b hb=>?_,fun b hb=>?_,h.uni⟩
 ·
  have:=ziT hb
  have:=h.cnt
  omega
 ·
  have:=zhX (l:=b.stmts) (n:=100000) fun s hs=>(h.sz b hb s hs).2.1
  omega
theorem FewD.sub {exit:List Int} {a b:List Bl} (h:FewD exit b) (k:SubB a b):FewD exit a:=by
 refine ⟨fun x hx s hs=>?_,by rw [k.1];exact h.len,Nat.le_trans k.count h.cnt,by have:=k.univ (exit:=exit);have:=h.uni;omega⟩
 obtain ⟨y,hy,_,h2⟩:=k.mem hx
 exact h.sz y hy s (h2.mem hs)
theorem FewD.sweep {exit:List Int} {bl:List Bl} (h:FewD exit bl) {i:Nat} (hi:i < bl.length) :
  zz Tryz.prog zr [.agg bl[i].cells,za (zM exit bl i),za exit] (·=.agg (Bl.cells ⟨bl[i].addr,sweepD exit (zM exit bl i) bl[i].stmts⟩)):=by
 have hb:=List.getElem_mem hi
 have hu:=h.uni
 have hv:=h.few.stmts _ hb
 refine zrq bl[i] _ exit (fun s hs=>(h.sz _ hb s hs).2.2) (fun s hs=>(h.sz _ hb s hs).1) hv fun k _=>?_
 have hlo:∀ x∈zM exit bl i,x∈univ exit bl:=by
  rw [zbP hi]
  exact zr8 (zgN exit bl).1
 have:=zqh (U:=univ exit bl) (ziX (exit:=exit) (l:=bl[i].stmts.drop k) (a:=zM exit bl i) zmx) (zjS hlo fun s hs=>zne hb (List.mem_of_mem_drop hs))
 omega
theorem zwM {exit:List Int} {bl:List Bl} {i:Nat} (h:i < bl.length):((zip exit bl).map cLL).getD i []=[za (zM exit bl i)]:=by
 simp [zip,cLL,List.getD_eq_getElem?_getD,h]
set_option maxHeartbeats 1000000 in
theorem zzu {Q:QT} (ad:Int) (bl:List Bl) (exit:List Int) (hU:FewD exit bl) (tt rr:Int)
  (hfin:∀ nn:Nat,nn=zo bl - zo (roundR exit bl)→wpX Tryz.prog 0 zdf Q [(1,za exit),(2, .ptr 0 0 0 0 0),(4, .ptr 1 0 0 0 0),(8, .int .i64 tt),(9, .int .i64 rr),(11,zcZ (zip exit bl)),(12, .ptr 2 0 0 0 0),(13, .int .i64 nn),(14, .int .i64 bl.length),(39, .bool false)]
   [(0, .row 2 [[.int .u32 ad,encL 2 Bl.cells bl]] 0),(1, .row 2 [[.int .u32 0, .nilsl]] 0),(2, .row 2 [[.int .u32 ad, .own 3 0 0 0 bl.length]] 0),(3, .row 2 ((roundR exit bl).map Bl.cells) 0)] 4)
  {K:Kn} {H:AH} {nx:Nat} (hent:Ent 0 K H nx [(1,za exit),(2, .ptr 0 0 0 0 0),(4, .ptr 1 0 0 0 0),(8, .int .i64 tt),(9, .int .i64 rr),(11,zcZ (zip exit bl)),(12, .ptr 2 0 0 0 0),(13, .int .i64 0),(14, .int .i64 0)]
   [(0, .row 2 [[.int .u32 ad,encL 2 Bl.cells bl]] 0),(1, .row 2 [[.int .u32 0, .nilsl]] 0),(2, .row 2 [[.int .u32 ad, .own 3 0 0 0 0]] 0),(3, .row 2 [] 0)] 4) :
  zhW Tryz.prog 0 zft (zaZ 2 (seqQ Tryz.prog 0 zdf Q)) K H nx:=by
 have hB:=hBig
 have hlen:=hU.len
 have hcnt:=hU.cnt
 have hrl:=zbS (exit:=exit) (bl:=bl)
 refine zg (fun i:Nat=>([(1,za exit),(2, .ptr 0 0 0 0 0),(4, .ptr 1 0 0 0 0),(8, .int .i64 tt),(9, .int .i64 rr),(11,zcZ (zip exit bl)),(12, .ptr 2 0 0 0 0),(13, .int .i64 ((zo (bl.take i) - zo ((roundR exit bl).take i):Nat):Int)),(14, .int .i64 i)],
   [(0, .row 2 [[.int .u32 ad,encL 2 Bl.cells bl]] 0),(1, .row 2 [[.int .u32 0, .nilsl]] 0),(2, .row 2 [[.int .u32 ad, .own 3 0 0 0 i]] 0),(3, .row 2 (((roundR exit bl).take i).map Bl.cells) 0)])) 4
  (fun i=>i≤bl.length∧zo ((roundR exit bl).take i)≤zo (bl.take i)∧zo (bl.take i)≤zo bl) (fun i=>bl.length - i) 0 ⟨Nat.zero_le _,Nat.le_refl _,by show 0≤_;omega⟩ hent ?_
 rintro i ⟨hi,hc1,hc2⟩ wf
 unfold zft
 by_cases hil:i < bl.length
 ·
  have hg:=zp (f:=Bl.cells) (d:=[]) hil
  have ho:=zwM (exit:=exit) hil
  have hol:(zip exit bl).length=bl.length:=by simp [zip]
  have hsw:=hU.sweep hil
  have hri:i < (roundR exit bl).length:=by omega
  have hrg:=ze3 (exit:=exit) hil
  have ht1:=zhh hil
  have ht2:=zhh hri
  have hR:(roundR exit bl).take (i+1)=(roundR exit bl).take i++[⟨bl[i].addr,sweepD exit (zM exit bl i) bl[i].stmts⟩]:=by rw [List.take_add_one,List.getElem?_eq_getElem hri,hrg];rfl
  rw [hrg] at ht2
  have hsl:=(zcf (exit:=exit) (e:=zM exit bl i) (ee:=zM exit bl i) (fun _ h=>h) (l:=bl[i].stmts)).sub.length_le
  have hcl:zo (bl.take (i+1))≤zo bl:=by
   have:zo bl=zo (bl.take (i+1))+zo (bl.drop (i+1)):=by
    have e:bl=bl.take (i+1)++bl.drop (i+1):=(List.take_append_drop _ _).symm
    conv=>lhs;rw [e]
    simp only [zo,List.map_append,List.sum_append]
   omega
  have htl:(((roundR exit bl).take i).map Bl.cells).length=i:=by rw [List.length_map,List.length_take];omega
  have hcell:bl[i].cells.length=2:=rfl
  have htwo:=Bl.two bl[i]
  simp only at ht2
  generalize hsd:sweepD exit (zM exit bl i) bl[i].stmts=sd at *
  generalize zM exit bl i=lo at *
  clear hsd
  generalize hT:(roundR exit bl).take i=T at *
  have hTt:(T.map Bl.cells).take i=T.map Bl.cells:=List.take_of_length_le (by omega)
  have htwo2:=Bl.two ⟨bl[i].addr,sd⟩
  simp only [Bl.cells] at hg hsw hcell htwo
  (repeat first | simp (disch:=try exact dis1) only [evD,Nat.reduceBEq,Nat.reduceAdd,Nat.reduceLeDiff,dT,hg,fldP,zcZ,hcell,htwo,za,ho,hol] | with_reducible intro _ | ((with_reducible apply And.intro);omega))
  refine zto (fun _:Unit=>([(1,za exit),(2, .ptr 0 0 0 0 0),(4, .ptr 1 0 0 0 0),(8, .int .i64 tt),(9, .int .i64 rr),(11,zcZ (zip exit bl)),(12, .ptr 2 0 0 0 0),(13, .int .i64 ((zo (bl.take i) - zo T:Nat):Int)),(14, .int .i64 i),(15, .ptr 4 0 0 0 0)],
   [(0, .row 2 [[.int .u32 ad,encL 2 Bl.cells bl]] 0),(1, .row 2 [[.int .u32 0, .nilsl]] 0),(2, .row 2 [[.int .u32 ad, .own 3 0 0 0 i]] 0),(3, .row 2 (T.map Bl.cells) 0),(4, .row 2 [[.int .u32 bl[i].addr,encL 8 St.cells sd]] 0)])) 5 (fun _=>True) ?_ ?_
  ·
   (repeat first | simp (disch:=try exact dis1) only [evD,Nat.reduceBEq,Nat.reduceAdd,Nat.reduceLeDiff,dT,hg,fldP,zcZ,hcell,htwo,za,ho,hol] | with_reducible intro _ | ((with_reducible apply And.intro);omega))
   (repeat' with_reducible apply And.intro)
   all_goals try omega
   all_goals (refine zbl (zk hsw rfl) ?_;(repeat first | simp (disch:=try exact dis1) only [evD,Nat.reduceBEq,Nat.reduceAdd,Nat.reduceLeDiff,fldP,hg,hcell,zcZ,za] | with_reducible intro _ | ((with_reducible apply And.intro);omega)))
   all_goals exact ⟨(),(Ent.tab [(0,0,0),(1,1,0),(2,2,0),(3,3,0),(4,4,0)] [] rfl (by (try simp only [evWB,Nat.reduceBEq,Nat.reduceAdd,Nat.reduceSub,Nat.reduceLeDiff,Nat.reduceLT,implies_true,zcZ,za])<;>exact fin2) (by (try simp only [evWB,Nat.reduceBEq,Nat.reduceAdd,Nat.reduceSub,Nat.reduceLeDiff,Nat.reduceLT,implies_true,zcZ,za])<;>exact fin2))⟩
  ·
   rintro _ _ wf2
   unfold zil
   (repeat first | simp (disch:=try exact dis1) only [evD,Nat.reduceBEq,Nat.reduceAdd,Nat.reduceLeDiff,fldP,hg,htl,hTt,zcZ,za] | with_reducible intro _ | ((with_reducible apply And.intro);omega))
   rw [hR] at ht2
   refine ⟨i+1,⟨by omega,?_,hcl⟩,by omega,?_⟩
   ·
    rw [hR]
    omega
   · exact (Ent.tab [(0,0,0),(1,1,0),(2,2,0),(3,3,1)] [] rfl (by (try simp only [evWB,Nat.reduceBEq,Nat.reduceAdd,Nat.reduceSub,Nat.reduceLeDiff,Nat.reduceLT,implies_true,za,zcZ,hR,List.map_append,List.map_cons,List.map_nil,Bl.cells])<;>exact fin2) (by (try simp only [evWB,Nat.reduceBEq,Nat.reduceAdd,Nat.reduceSub,Nat.reduceLeDiff,Nat.reduceLT,implies_true,za,zcZ,hR,List.map_append,List.map_cons,List.map_nil,Bl.cells])<;>exact fin2))
 ·
  obtain rfl:i=bl.length:=by omega
  rw [List.take_length] at hc1
  have e1:(roundR exit bl).take bl.length=roundR exit bl:=List.take_of_length_le (by omega)
  rw [e1,List.take_length]
  (repeat first | simp (disch:=try exact dis1) only [evD,Nat.reduceBEq,Nat.reduceAdd,Nat.reduceLeDiff,dF] | with_reducible intro _ | ((with_reducible apply And.intro);omega))
  exact hfin _ rfl
structure RunR (exit:List Int) (bl0 R x:List Bl) (k:Nat):Prop where
 few:FewD exit x
 len:x.length=bl0.length
 cnt:k+zo x≤zo bl0
 go:∀ j,zo x < j→deadR exit j x=R
theorem zk7 {exit:List Int}:∀ (k k':Nat) {bl:List Bl},zo bl < k→zo bl < k'→deadR exit k bl=deadR exit k' bl
 | 0,_,_,h,_=>absurd h (Nat.not_lt_zero _)
 | _+1,0,_,_,h=>absurd h (Nat.not_lt_zero _)
 |
  k+1,k'+1,bl,h,h'=>by
  unfold deadR
  split
  · rfl
  ·
   have:=(zdQ (exit:=exit) (y:=bl)).count
   exact zk7 k k' (by omega) (by omega)
def zqi (exit:List Int) (bl:List Bl):List Bl:=deadR exit (zo bl+1) bl
theorem RunR.start {exit:List Int} {bl:List Bl} (h:FewD exit bl):RunR exit bl (zqi exit bl) bl 0:=⟨h,rfl,by omega,fun j hj=>zk7 _ _ hj (by omega)⟩
theorem RunR.next {exit:List Int} {bl0 R x:List Bl} {k:Nat} (h:RunR exit bl0 R x k):(zo x - zo (roundR exit x)=0→roundR exit x=R)∧(zo x - zo (roundR exit x)≠0→RunR exit bl0 R (roundR exit x) (k+1)):=by
 have hc:=(zdQ (exit:=exit) (y:=x)).count
 have hn:=h.cnt
 have hg:=h.go (zo x+1) (by omega)
 unfold deadR at hg
 refine ⟨fun h0=>?_,fun h0=>⟨h.few.sub zdQ,by rw [zbS];exact h.len,by omega,fun j hj=>?_⟩⟩
 ·
  rw [if_pos (by omega)] at hg
  exact hg
 ·
  rw [if_neg (by omega)] at hg
  rw [zk7 j (zo x) hj (by omega)]
  exact hg
theorem zwF {exit:List Int} {bl:List Bl}:(zqi exit bl).length=bl.length:=by
 have:∀ (k:Nat) (bl:List Bl),(deadR exit k bl).length=bl.length:=by
  intro k
  induction k with
  | zero=>intro bl;rfl
  |
   succ k ih =>
   intro bl
   unfold deadR
   split
   · exact zbS
   · rw [ih,zbS]
 exact this _ _
def zuW (g:G) (exit:List Int):AV:=if zdz g=0 then .tup [.agg (G.cells ⟨g.addr,zqi exit g.blocks⟩), .int .i64 ((zo g.blocks - zo (zqi exit g.blocks):Nat):Int), .int .i64 0] else .tup [.agg (G.cells ⟨0,[]⟩), .int .i64 0, .int .i64 (zdz g)]
theorem ztX (g:G) (exit:List Int) (hU:zdz g=0→FewD exit g.blocks) (hf:fewB g):zz Tryz.prog zly [.agg g.cells,za exit] (·=zuW g exit):=by
 refine fn_x zro rfl ?_
 unfold zlR zuW
 have hB:=hBig
 have hcg:=zlw g hf
 obtain ⟨ad,bl⟩:=g
 simp only [G.cells] at hcg hU ⊢
 (repeat first | simp (disch:=try exact dis1) only [evD,Nat.reduceBEq,Nat.reduceAdd,Nat.reduceLeDiff,fldP,za,zls,tab,List.getD_cons_zero,List.getD_cons_succ] | with_reducible intro _ | ((with_reducible apply And.intro);omega))
 refine zi (zk hcg rfl) ?_
 by_cases hc:zdz ⟨ad,bl⟩=0
 ·
  rw [if_pos hc,hc]
  have hU:=hU hc
  have hlen:=hU.len
  have hcnt:=hU.cnt
  have hql:=zwF (exit:=exit) (bl:=bl)
  (repeat first | simp (disch:=try exact dis1) only [evD,Nat.reduceBEq,Nat.reduceAdd,Nat.reduceLeDiff,dF,fldP,za,zls,tab,List.getD_cons_zero,List.getD_cons_succ] | with_reducible intro _ | ((with_reducible apply And.intro);omega))
  refine zg (fun a:Nat × List Bl=>([(1,za exit),(2, .ptr 0 0 0 0 0),(4, .ptr 1 0 0 0 0),(8, .int .i64 ((zo bl - zo a.2:Nat):Int)),(9, .int .i64 a.1)],[(0, .row 2 [[.int .u32 ad,encL 2 Bl.cells a.2]] 0),(1, .row 2 [[.int .u32 0, .nilsl]] 0)])) 2
   (fun a=>RunR exit bl (zqi exit bl) a.2 a.1) (fun a=>zo a.2) (0,bl) (RunR.start hU) ?_ ?_
  ·
   simp only [Nat.sub_self]
   exact (Ent.tab [(0,0,0),(1,1,0)] [] rfl (by (try simp only [evWB,Nat.reduceBEq,Nat.reduceAdd,Nat.reduceSub,Nat.reduceLeDiff,Nat.reduceLT,implies_true,za])<;>exact fin2) (by (try simp only [evWB,Nat.reduceBEq,Nat.reduceAdd,Nat.reduceSub,Nat.reduceLeDiff,Nat.reduceLT,implies_true,za])<;>exact fin2))
  rintro ⟨k,x⟩ hrun wf
  simp only at hrun
  unfold ziK
  have hrc:=hrun.cnt
  have hxl:=hrun.len
  have hlv:=ztu ⟨ad,x⟩ exit hrun.few.few
  obtain ⟨n1,n2⟩:=hrun.next
  have hrr:=(zdQ (exit:=exit) (y:=x)).count
  simp only [G.cells] at hlv
  (repeat first | simp (disch:=try exact dis1) only [evD,Nat.reduceBEq,Nat.reduceAdd,Nat.reduceLeDiff,dT,fldP,za] | with_reducible intro _ | ((with_reducible apply And.intro);omega))
  refine zi (zk hlv rfl) ?_
  (repeat first | simp (disch:=try exact dis1) only [evD,Nat.reduceBEq,Nat.reduceAdd,Nat.reduceLeDiff,fldP,za] | with_reducible intro _ | ((with_reducible apply And.intro);omega))
  refine zzu ad x exit hrun.few ((zo bl - zo x:Nat):Int) k ?_ ?_
  ·
   rintro nn rfl
   unfold zdf
   generalize hnn:zo x - zo (roundR exit x)=nn at *
   have hRl:=zbS (exit:=exit) (bl:=x)
   generalize hR:roundR exit x=y at *
   by_cases h0:nn=0
   ·
    obtain rfl:=n1 h0
    have et:zo bl - zo (zqi exit bl)=zo bl - zo x:=by omega
    (repeat first | simp (disch:=try exact dis1) only [evD,Nat.reduceBEq,Nat.reduceAdd,Nat.reduceLeDiff,dT,fldP,zh2] | with_reducible intro _ | ((with_reducible apply And.intro);omega))
    refine ⟨.tup [.agg [.int .u32 ad,encL 2 Bl.cells (zqi exit bl)], .int .i64 ((zo bl - zo (zqi exit bl):Nat):Int), .int .i64 0], .tup _ _ _ rfl (fun j a c h1 h2=>?_),rfl⟩
    match j with
    |
     0 =>
     cases h1;cases h2
     refine .agg _ _ _ rfl (fun j a c h1 h2=>?_)
     match j with
     | 0=>cases h1;cases h2;exact .int _ _ _
     | 1=>cases h1;cases h2;rw [← hRl];exact zuD trivial rfl (by omega)
     | j+2=>cases h1
    | 1=>cases h1;cases h2;rw [et];exact .int _ _ _
    | 2=>cases h1;cases h2;exact .int _ _ _
    | j+3=>cases h1
   ·
    have hr2:=n2 h0
    have hrc2:=hr2.cnt
    (repeat first | simp (disch:=try exact dis1) only [evD,Nat.reduceBEq,Nat.reduceAdd,Nat.reduceLeDiff,dF,fldP] | with_reducible intro _ | ((with_reducible apply And.intro);omega))
    unfold ziu
    (repeat first | simp (disch:=try exact dis1) only [evD,Nat.reduceBEq,Nat.reduceAdd,Nat.reduceLeDiff,fldP] | with_reducible intro _ | ((with_reducible apply And.intro);omega))
    refine ⟨(k+1,y),hr2,by simp only;omega,?_⟩
    rw [← hRl]
    exact (Ent.tab [(0,0,0),(1,1,0)] [3] rfl (by (try simp only [evWB,Nat.reduceBEq,Nat.reduceAdd,Nat.reduceSub,Nat.reduceLeDiff,Nat.reduceLT,implies_true,za])<;>exact fin7) (by (try simp only [evWB,Nat.reduceBEq,Nat.reduceAdd,Nat.reduceSub,Nat.reduceLeDiff,Nat.reduceLT,implies_true,za])<;>exact fin7))
  · exact (Ent.tab [(0,0,0),(1,1,0),(2,2,0)] [] rfl (by (try simp only [evWB,Nat.reduceBEq,Nat.reduceAdd,Nat.reduceSub,Nat.reduceLeDiff,Nat.reduceLT,implies_true,za,zcZ])<;>exact fin2) (by (try simp only [evWB,Nat.reduceBEq,Nat.reduceAdd,Nat.reduceSub,Nat.reduceLeDiff,Nat.reduceLT,implies_true,za,zcZ])<;>exact fin2))
 ·
  rw [if_neg hc]
  (repeat first | simp (disch:=try exact dis1) only [evD,Nat.reduceBEq,Nat.reduceAdd,Nat.reduceLeDiff,fldP,dT,za,zh2] | with_reducible intro _ | ((with_reducible apply And.intro);omega))
  refine ⟨.tup [.agg [.int .u32 0,encL 2 Bl.cells []], .int .i64 0, .int .i64 (zdz ⟨ad,bl⟩)], .tup _ _ _ rfl (fun j a c h1 h2=>?_),rfl⟩
  match j with
  |
   0 =>
   cases h1;cases h2
   refine .agg _ _ _ rfl (fun j a c h1 h2=>?_)
   match j with
   | 0=>cases h1;cases h2;exact .int _ _ _
   | 1=>cases h1;cases h2;exact .nil0 _ _ _
   | j+2=>cases h1
  | 1=>cases h1;cases h2;exact .int _ _ _
  | 2=>cases h1;cases h2;exact .int _ _ _
  | j+3=>cases h1
theorem zpN:∀ (k:Nat) (e:Ex) (m n:Int),zaU e≤k → -1000≤m→m≤1000 → -1≤n→n≤30000→zz Tryz.prog zgX [.agg (encX e), .int .i64 m, .int .i64 n] (·=.int .i64 (zf3 e m n)):=by
 intro k
 induction k with
 | zero=>intro e m n h;obtain ⟨_,_,_,_,l⟩:=e;rw [zaU] at h;omega
 | succ k ih =>
 intro e m n hk h1 h2 h3 h4
 obtain ⟨op,nn,v,w,l⟩:=e
 refine fn_x zrb rfl ?_
 unfold zl0
 have hB:=hBig
 rw [zaU] at hk
 have hR:=zfK (.mk op nn v w l) m n h3
 rw [zf3] at hR ⊢
 generalize hE:encX (.mk op nn v w l)=E
 rw [zbu] at hE
 subst hE
 by_cases c1:m < 1
 ·
  rw [if_pos (.inl c1)]
  (repeat first | simp (disch:=try exact dis1) only [evD,Nat.reduceBEq,Nat.reduceAdd,Nat.reduceLeDiff,dT,zc5] | with_reducible intro _ | ((with_reducible apply And.intro);omega))
  exact ⟨_, .int _ _ _,rfl⟩
 by_cases c2:n < 1
 ·
  rw [if_pos (.inr (.inl c2))]
  (repeat first | simp (disch:=try exact dis1) only [evD,Nat.reduceBEq,Nat.reduceAdd,Nat.reduceLeDiff,dT,dF,zc5] | with_reducible intro _ | ((with_reducible apply And.intro);omega))
  exact ⟨_, .int _ _ _,rfl⟩
 by_cases c3:4 < l.length
 ·
  rw [if_pos (.inr (.inr c3))]
  (repeat first | simp (disch:=try exact dis1) only [evD,Nat.reduceBEq,Nat.reduceAdd,Nat.reduceLeDiff,dT,dF,zc5] | with_reducible intro _ | ((with_reducible apply And.intro);omega))
  exact ⟨_, .int _ _ _,rfl⟩
 rw [if_neg (by omega)] at hR ⊢
 (repeat first | simp (disch:=try exact dis1) only [evD,Nat.reduceBEq,Nat.reduceAdd,Nat.reduceLeDiff,dF] | with_reducible intro _ | ((with_reducible apply And.intro);omega))
 generalize hG:zbe l (m - 1) (n - 1)=R at hR ⊢
 refine zg (fun s:Nat × Int=>([(1, .int .i64 m),(3,encP 5 [.int .i64 op, .int .u32 nn, .int .i64 v, .int .i64 w,encL 5 encX l]),(7, .int .i64 s.2),(8, .int .i64 s.1)],[])) 0 (fun s=>s.1≤l.length ∧ -1≤s.2∧s.2≤n∧zbe (l.drop s.1) (m - 1) s.2=R) (fun s=>l.length - s.1) (0,n - 1) ⟨Nat.zero_le _,by simp only;omega,by simp only;omega,hG⟩ (Ent.keep rfl fin5) ?_
 rintro ⟨i,x⟩ ⟨hi,hx1,hx2,hgo⟩ wf
 simp only at hi hx1 hx2 hgo
 unfold ziD
 by_cases hl:i < l.length
 ·
  by_cases hx:0≤x
  ·
   rw [zlG hl hx] at hgo
   have hm:=zbB (List.getElem_mem hl)
   have hr:=zfK l[i] (m - 1) x hx1
   (repeat first | simp (disch:=try exact dis1) only [evD,Nat.reduceBEq,Nat.reduceAdd,Nat.reduceLeDiff,fldP,dT,dF,zp hl,zax,zZ] | with_reducible intro _ | ((with_reducible apply And.intro);omega))
   refine zi (zk (ih l[i] (m - 1) x (by omega) (by omega) (by omega) (by omega) (by omega)) (flX rfl)) ?_
   (repeat first | simp (disch:=try exact dis1) only [evD,Nat.reduceBEq,Nat.reduceAdd,Nat.reduceLeDiff] | with_reducible intro _ | ((with_reducible apply And.intro);omega))
   exact ⟨(i+1,zf3 l[i] (m - 1) x),⟨by simp only;omega,by simp only;omega,by simp only;omega,hgo⟩,by simp only;omega,Ent.keep rfl fin5⟩
  ·
   rw [zjR (by omega)] at hgo
   subst hgo
   (repeat first | simp (disch:=try exact dis1) only [evD,Nat.reduceBEq,Nat.reduceAdd,Nat.reduceLeDiff,fldP,dT,dF] | with_reducible intro _ | ((with_reducible apply And.intro);omega))
   unfold zfp
   (repeat first | simp (disch:=try exact dis1) only [evD,Nat.reduceBEq,Nat.reduceAdd,Nat.reduceLeDiff,zc5] | with_reducible intro _ | ((with_reducible apply And.intro);omega))
   exact ⟨_, .int _ _ _,rfl⟩
 ·
  rw [List.drop_of_length_le (by omega),zbe] at hgo
  subst hgo
  (repeat first | simp (disch:=try exact dis1) only [evD,Nat.reduceBEq,Nat.reduceAdd,Nat.reduceLeDiff,fldP,dT,dF] | with_reducible intro _ | ((with_reducible apply And.intro);omega))
  unfold zfp
  (repeat first | simp (disch:=try exact dis1) only [evD,Nat.reduceBEq,Nat.reduceAdd,Nat.reduceLeDiff,zc5] | with_reducible intro _ | ((with_reducible apply And.intro);omega))
  exact ⟨_, .int _ _ _,rfl⟩
def zs7 (s:St) (n:Int):Int:=if 4 < s.e.length∨100 < s.cases.length then -1 else zbe s.e 8 n
def zfa:List St→Int→Int
 | [],n=>n
 | s::l,n=>if n < 0 then n else zfa l (zs7 s n)
def zsp (b:Bl) (n:Int):Int:=if 1100 < b.stmts.length then -1 else zfa b.stmts n
def zfg:List Bl→Int→Int
 | [],n=>n
 | b::l,n=>if n < 0 then n else zfg l (zsp b n)
def zrk (g:G):Bool:=decide (g.blocks.length≤300)&&decide (0≤zfg g.blocks 20000)
def zqx (g:G) (exit:List Int):Bool:=decide (g.blocks.length≤12)&&(decide (exit.length≤20)&&(zrk g&&g.blocks.all fun b=>decide (b.stmts.length≤12)))
theorem ztb {l:List St} {i:Nat} {n:Int} (h:i < l.length) (hn:0≤n):zfa (l.drop i) n=zfa (l.drop (i+1)) (zs7 l[i] n):=by
 rw [List.drop_eq_getElem_cons h,zfa,if_neg (by omega)]
theorem zi4 {l:List St} {n:Int} (hn:n < 0):zfa l n=n:=by
 cases l with
 | nil=>rw [zfa]
 | cons a l=>rw [zfa,if_pos hn]
theorem zs3 {l:List Bl} {i:Nat} {n:Int} (h:i < l.length) (hn:0≤n):zfg (l.drop i) n=zfg (l.drop (i+1)) (zsp l[i] n):=by
 rw [List.drop_eq_getElem_cons h,zfg,if_neg (by omega)]
theorem zlo {l:List Bl} {n:Int} (hn:n < 0):zfg l n=n:=by
 cases l with
 | nil=>rw [zfg]
 | cons a l=>rw [zfg,if_pos hn]
theorem zk9 (g:G):zz Tryz.prog zer [.agg g.cells, .int .i64 8] (·=.bool (zrk g)):=by
 refine fn_x zlg rfl ?_
 unfold zgE zrk
 have hB:=hBig
 obtain ⟨ad,bl⟩:=g
 simp only [G.cells]
 by_cases h300:300 < bl.length
 ·
  rw [decide_eq_false (by omega),Bool.false_and]
  (repeat first | simp (disch:=try exact dis1) only [evD,Nat.reduceBEq,Nat.reduceAdd,Nat.reduceLeDiff,fldP,dT,zaH] | with_reducible intro _ | ((with_reducible apply And.intro);omega))
  exact ⟨_, .bool _ _,rfl⟩
 rw [decide_eq_true (by omega),Bool.true_and]
 generalize hR:zfg bl 20000=R
 have fin:R < 0→decide (0≤R)=false:=fun h=>decide_eq_false (by omega)
 (repeat first | simp (disch:=try exact dis1) only [evD,Nat.reduceBEq,Nat.reduceAdd,Nat.reduceLeDiff,fldP,dF] | with_reducible intro _ | ((with_reducible apply And.intro);omega))
 refine zg (fun a:Nat × Int=>([(1, .int .i64 8),(2,encP 2 [.int .u32 ad,encL 2 Bl.cells bl]),(5, .int .i64 a.2),(6, .int .i64 a.1)],[])) 0 (fun a=>a.1≤bl.length∧0≤a.2∧a.2≤20000∧zfg (bl.drop a.1) a.2=R) (fun a=>bl.length - a.1) (0,20000) ⟨Nat.zero_le _,by simp only;omega,by simp only;omega,hR⟩ (Ent.keep rfl fin5) ?_
 rintro ⟨i,n⟩ ⟨hi,hn1,hn2,hgo⟩ wf
 simp only at hi hn1 hn2 hgo
 unfold zey
 by_cases hil:i < bl.length
 case neg =>
  rw [List.drop_of_length_le (by omega),zfg] at hgo
  subst hgo
  rw [decide_eq_true hn1]
  (repeat first | simp (disch:=try exact dis1) only [evD,Nat.reduceBEq,Nat.reduceAdd,Nat.reduceLeDiff,fldP,dF] | with_reducible intro _ | ((with_reducible apply And.intro);omega))
  unfold zeO
  (repeat first | simp (disch:=try exact dis1) only [evD,Nat.reduceBEq,Nat.reduceAdd,Nat.reduceLeDiff,zaH] | with_reducible intro _ | ((with_reducible apply And.intro);omega))
  exact ⟨_, .bool _ _,rfl⟩
 have hg:(bl.map Bl.cells).getD i []=[.int .u32 bl[i].addr,encL 8 St.cells bl[i].stmts]:=zp hil
 rw [zs3 hil hn1] at hgo
 unfold zsp at hgo
 generalize bl[i].addr=ad2 at hg
 generalize bl[i].stmts=m at hg hgo
 by_cases h11:1100 < m.length
 ·
  rw [if_pos h11,zlo (by omega)] at hgo
  rw [fin (by omega)]
  (repeat first | simp (disch:=try exact dis1) only [evD,Nat.reduceBEq,Nat.reduceAdd,Nat.reduceLeDiff,fldP,dT,hg,zaH] | with_reducible intro _ | ((with_reducible apply And.intro);omega))
  exact ⟨_, .bool _ _,rfl⟩
 rw [if_neg h11] at hgo
 (repeat first | simp (disch:=try exact dis1) only [evD,Nat.reduceBEq,Nat.reduceAdd,Nat.reduceLeDiff,fldP,dT,dF,hg] | with_reducible intro _ | ((with_reducible apply And.intro);omega))
 generalize hM:zfa m n=M at hgo
 have hMR:M < 0→R < 0:=fun h=>by rw [zlo h] at hgo;omega
 refine zg (fun a:Nat × Int=>([(1, .int .i64 8),(2,encP 2 [.int .u32 ad,encL 2 Bl.cells bl]),(5, .int .i64 a.2),(6, .int .i64 i),(7, .int .i64 a.1)],[])) 0 (fun a=>a.1≤m.length∧0≤a.2∧a.2≤20000∧zfa (m.drop a.1) a.2=M) (fun a=>m.length - a.1) (0,n) ⟨Nat.zero_le _,hn1,hn2,hM⟩ (Ent.keep rfl fin5) ?_
 rintro ⟨k,n2⟩ ⟨hk,hk1,hk2,hgo2⟩ wf2
 simp only at hk hk1 hk2 hgo2
 unfold zeM
 by_cases hkl:k < m.length
 case neg =>
  rw [List.drop_of_length_le (by omega),zfa] at hgo2
  subst hgo2
  (repeat first | simp (disch:=try exact dis1) only [evD,Nat.reduceBEq,Nat.reduceAdd,Nat.reduceLeDiff,fldP,dF,hg] | with_reducible intro _ | ((with_reducible apply And.intro);omega))
  unfold zeH
  (repeat first | simp (disch:=try exact dis1) only [evD,Nat.reduceBEq,Nat.reduceAdd,Nat.reduceLeDiff] | with_reducible intro _ | ((with_reducible apply And.intro);omega))
  exact ⟨(i+1,n2),⟨by simp only;omega,hk1,hk2,hgo⟩,by simp only;omega,Ent.keep rfl fin5⟩
 have hgm:=zp (f:=St.cells) (d:=[]) hkl
 rw [ztb hkl hk1] at hgo2
 unfold zs7 at hgo2
 generalize m[k]=s at hgm hgo2
 obtain ⟨op,var,width,next,els,tgt,e,cs⟩:=s
 simp only at hgo2
 simp only [St.cells] at hgm
 by_cases h4:4 < e.length
 ·
  rw [if_pos (.inl h4),zi4 (by omega)] at hgo2
  have:=hMR (by omega)
  rw [fin this]
  (repeat first | simp (disch:=try exact dis1) only [evD,Nat.reduceBEq,Nat.reduceAdd,Nat.reduceLeDiff,fldP,dT,hg,hgm,zaH] | with_reducible intro _ | ((with_reducible apply And.intro);omega))
  exact ⟨_, .bool _ _,rfl⟩
 by_cases h100:100 < cs.length
 ·
  rw [if_pos (.inr h100),zi4 (by omega)] at hgo2
  have:=hMR (by omega)
  rw [fin this]
  (repeat first | simp (disch:=try exact dis1) only [evD,Nat.reduceBEq,Nat.reduceAdd,Nat.reduceLeDiff,fldP,dT,dF,hg,hgm,za,zaH] | with_reducible intro _ | ((with_reducible apply And.intro);omega))
  exact ⟨_, .bool _ _,rfl⟩
 rw [if_neg (by omega)] at hgo2
 generalize hE:zbe e 8 n2=E at hgo2
 have hEM:E < 0→M < 0:=fun h=>by rw [zi4 h] at hgo2;omega
 (repeat first | simp (disch:=try exact dis1) only [evD,Nat.reduceBEq,Nat.reduceAdd,Nat.reduceLeDiff,fldP,dT,dF,hg,hgm,za] | with_reducible intro _ | ((with_reducible apply And.intro);omega))
 refine zg (fun a:Nat × Int=>([(1, .int .i64 8),(2,encP 2 [.int .u32 ad,encL 2 Bl.cells bl]),(5, .int .i64 a.2),(6, .int .i64 i),(7, .int .i64 k),(8, .ptr 0 0 0 0 0),(9, .int .i64 a.1)],[(0, .row 8 [[.int .i64 op, .int .i64 var, .int .i64 width, .int .i64 next, .int .i64 els, .int .u32 tgt,encL 5 encX e,za cs]] 0)])) 1 (fun a=>a.1≤e.length∧0≤a.2∧a.2≤20000∧zbe (e.drop a.1) 8 a.2=E) (fun a=>e.length - a.1) (0,n2) ⟨Nat.zero_le _,hk1,hk2,hE⟩ (Ent.tab [(0,0,0)] [] rfl (by (try simp only [evWB,Nat.reduceBEq,Nat.reduceAdd,Nat.reduceSub,Nat.reduceLeDiff,Nat.reduceLT,implies_true,za])<;>exact fin2) (by (try simp only [evWB,Nat.reduceBEq,Nat.reduceAdd,Nat.reduceSub,Nat.reduceLeDiff,Nat.reduceLT,implies_true,za])<;>exact fin2)) ?_
 rintro ⟨j,n3⟩ ⟨hj,hj1,hj2,hgo3⟩ wf3
 simp only at hj hj1 hj2 hgo3
 unfold zeE
 by_cases hjl:j < e.length
 case neg =>
  rw [List.drop_of_length_le (by omega),zbe] at hgo3
  subst hgo3
  (repeat first | simp (disch:=try exact dis1) only [evD,Nat.reduceBEq,Nat.reduceAdd,Nat.reduceLeDiff,fldP,dF,hg] | with_reducible intro _ | ((with_reducible apply And.intro);omega))
  unfold zeJ
  (repeat first | simp (disch:=try exact dis1) only [evD,Nat.reduceBEq,Nat.reduceAdd,Nat.reduceLeDiff] | with_reducible intro _ | ((with_reducible apply And.intro);omega))
  exact ⟨(k+1,n3),⟨by simp only;omega,hj1,hj2,hgo2⟩,by simp only;omega,(Ent.tab [] [] rfl (by (try simp only [evWB,Nat.reduceBEq,Nat.reduceAdd,Nat.reduceSub,Nat.reduceLeDiff,Nat.reduceLT,implies_true,za])<;>exact fin2) (by (try simp only [evWB,Nat.reduceBEq,Nat.reduceAdd,Nat.reduceSub,Nat.reduceLeDiff,Nat.reduceLT,implies_true,za])<;>exact fin2))⟩
 rw [zlG hjl hj1] at hgo3
 have hr:=zfK e[j] 8 n3 (by omega)
 (repeat first | simp (disch:=try exact dis1) only [evD,Nat.reduceBEq,Nat.reduceAdd,Nat.reduceLeDiff,fldP,dT,dF,zp hjl,zax,zZ,za] | with_reducible intro _ | ((with_reducible apply And.intro);omega))
 refine zi (zk (zpN (zaU e[j]) e[j] 8 n3 (Nat.le_refl _) (by omega) (by omega) (by omega) (by omega)) (flX rfl)) ?_
 by_cases hx:zf3 e[j] 8 n3 < 0
 ·
  rw [zjR hx] at hgo3
  have:=hMR (hEM (by omega))
  rw [fin this]
  (repeat first | simp (disch:=try exact dis1) only [evD,Nat.reduceBEq,Nat.reduceAdd,Nat.reduceLeDiff,dT,zaH] | with_reducible intro _ | ((with_reducible apply And.intro);omega))
  exact ⟨_, .bool _ _,rfl⟩
 ·
  (repeat first | simp (disch:=try exact dis1) only [evD,Nat.reduceBEq,Nat.reduceAdd,Nat.reduceLeDiff,dF] | with_reducible intro _ | ((with_reducible apply And.intro);omega))
  exact ⟨(j+1,zf3 e[j] 8 n3),⟨by simp only;omega,by simp only;omega,by simp only;omega,hgo3⟩,by simp only;omega,(Ent.tab [(0,0,0)] [] rfl (by (try simp only [evWB,Nat.reduceBEq,Nat.reduceAdd,Nat.reduceSub,Nat.reduceLeDiff,Nat.reduceLT,implies_true,za])<;>exact fin2) (by (try simp only [evWB,Nat.reduceBEq,Nat.reduceAdd,Nat.reduceSub,Nat.reduceLeDiff,Nat.reduceLT,implies_true,za])<;>exact fin2))⟩
theorem zrK (g:G) (exit:List Int):zz Tryz.prog zjW [.agg g.cells,za exit] (·=.bool (zqx g exit)):=by
 refine fn_x zq4 rfl ?_
 unfold zlY zqx
 have hB:=hBig
 have hsg:=zk9 g
 generalize zrk g=sg at hsg
 obtain ⟨ad,bl⟩:=g
 simp only [G.cells] at hsg ⊢
 by_cases h12:12 < bl.length
 ·
  rw [decide_eq_false (by omega),Bool.false_and]
  (repeat first | simp (disch:=try exact dis1) only [evD,Nat.reduceBEq,Nat.reduceAdd,Nat.reduceLeDiff,fldP,dT,za,zc8] | with_reducible intro _ | ((with_reducible apply And.intro);omega))
  exact ⟨_, .bool _ _,rfl⟩
 rw [decide_eq_true (by omega),Bool.true_and]
 by_cases h20:20 < exit.length
 ·
  rw [decide_eq_false (by omega),Bool.false_and]
  (repeat first | simp (disch:=try exact dis1) only [evD,Nat.reduceBEq,Nat.reduceAdd,Nat.reduceLeDiff,fldP,dT,dF,za,zc8] | with_reducible intro _ | ((with_reducible apply And.intro);omega))
  exact ⟨_, .bool _ _,rfl⟩
 rw [decide_eq_true (by omega),Bool.true_and]
 (repeat first | simp (disch:=try exact dis1) only [evD,Nat.reduceBEq,Nat.reduceAdd,Nat.reduceLeDiff,fldP,dT,dF,za,zls,tab,List.getD_cons_zero,List.getD_cons_succ] | with_reducible intro _ | ((with_reducible apply And.intro);omega))
 refine zi (zk hsg rfl) ?_
 cases sg with
 |
  false =>
  rw [Bool.false_and]
  (repeat first | simp (disch:=try exact dis1) only [evD,Nat.reduceBEq,Nat.reduceAdd,Nat.reduceLeDiff,zc8] | with_reducible intro _ | ((with_reducible apply And.intro);omega))
  exact ⟨_, .bool _ _,rfl⟩
 | true =>
 rw [Bool.true_and]
 generalize hR:(bl.all fun b=>decide (b.stmts.length≤12))=R
 (repeat first | simp (disch:=try exact dis1) only [evD,Nat.reduceBEq,Nat.reduceAdd,Nat.reduceLeDiff,fldP] | with_reducible intro _ | ((with_reducible apply And.intro);omega))
 refine zg (fun i:Nat=>([(2,encP 2 [.int .u32 ad,encL 2 Bl.cells bl]),(5, .int .i64 i)],[])) 0 (fun i=>i≤bl.length∧((bl.drop i).all fun b=>decide (b.stmts.length≤12))=R) (fun i=>bl.length - i) 0 ⟨Nat.zero_le _,hR⟩ (Ent.keep rfl fin5) ?_
 rintro i ⟨hi,hgo⟩ wf
 unfold ziB
 by_cases hil:i < bl.length
 ·
  have hg:(bl.map Bl.cells).getD i []=[.int .u32 bl[i].addr,encL 8 St.cells bl[i].stmts]:=zp hil
  rw [List.drop_eq_getElem_cons hil,List.all_cons] at hgo
  by_cases h:12 < bl[i].stmts.length
  ·
   rw [decide_eq_false (by omega),Bool.false_and] at hgo
   rw [← hgo]
   (repeat first | simp (disch:=try exact dis1) only [evD,Nat.reduceBEq,Nat.reduceAdd,Nat.reduceLeDiff,fldP,dT,hg,zc8] | with_reducible intro _ | ((with_reducible apply And.intro);omega))
   exact ⟨_, .bool _ _,rfl⟩
  ·
   rw [decide_eq_true (by omega),Bool.true_and] at hgo
   (repeat first | simp (disch:=try exact dis1) only [evD,Nat.reduceBEq,Nat.reduceAdd,Nat.reduceLeDiff,fldP,dT,dF,hg] | with_reducible intro _ | ((with_reducible apply And.intro);omega))
   exact ⟨i+1,⟨by omega,hgo⟩,by omega,Ent.keep rfl fin5⟩
 ·
  rw [List.drop_of_length_le (by omega)] at hgo
  rw [← hgo]
  (repeat first | simp (disch:=try exact dis1) only [evD,Nat.reduceBEq,Nat.reduceAdd,Nat.reduceLeDiff,fldP,dF] | with_reducible intro _ | ((with_reducible apply And.intro);omega))
  unfold zir
  (repeat first | simp (disch:=try exact dis1) only [evD,Nat.reduceBEq,Nat.reduceAdd,Nat.reduceLeDiff,zc8] | with_reducible intro _ | ((with_reducible apply And.intro);omega))
  exact ⟨_, .bool _ _,rfl⟩
mutual
theorem zxV:∀ (e:Ex) (m n:Int),0≤zf3 e m n→(zaU e:Int)+zf3 e m n≤n
 |
  .mk _ _ _ _ l,m,n,h=>by
  rw [zf3] at h ⊢
  split
  ·
   rename_i hc
   rw [if_pos hc] at h
   omega
  ·
   rename_i hc
   rw [if_neg hc] at h
   have:=zkX l (m - 1) (n - 1) (by omega) h
   rw [zaU]
   omega
theorem zkX:∀ (l:List Ex) (m n:Int),0≤n→0≤zbe l m n→(zC l:Int)+zbe l m n≤n
 | [],m,n,_,h=>by rw [zbe] at h ⊢;rw [zC];omega
 |
  e::l,m,n,hn,h=>by
  rw [zbe,if_neg (by omega)] at h ⊢
  by_cases h0:zf3 e m n < 0
  ·
   rw [zjR h0] at h
   omega
  ·
   have h1:=zxV e m n (by omega)
   have h2:=zkX l m _ (by omega) h
   rw [zC]
   omega
end
theorem znT:∀ {l:List St} {n:Int},0≤n→0≤zfa l n→(za7 0 l:Int)+zfa l n≤n∧∀ s∈l,s.e.length≤4∧s.cases.length≤100
 |
  [],n,hn,h=>by
  rw [zfa] at h ⊢
  exact ⟨by show ((0:Nat):Int)+n≤n;omega,fun s hs=>by cases hs⟩
 |
  s::l,n,hn,h=>by
  rw [zfa,if_neg (by omega)] at h ⊢
  by_cases h0:zs7 s n < 0
  ·
   rw [zi4 h0] at h
   omega
  ·
   obtain ⟨h2,h3⟩:=znT (l:=l) (n:=zs7 s n) (by omega) h
   have e:(za7 0 (s::l):Int)=zC s.e+za7 0 l:=by
    show ((zC s.e+0+za7 0 l:Nat):Int)=_
    omega
   unfold zs7 at h0 h2
   split at h0
   · omega
   ·
    rename_i hc
    rw [if_neg hc] at h2
    have h4:=zkX s.e 8 n hn (by omega)
    refine ⟨?_,fun t ht=>?_⟩
    ·
     rw [e]
     unfold zs7
     rw [if_neg hc]
     omega
    ·
     rcases List.mem_cons.1 ht with rfl | ht
     · omega
     · exact h3 t ht
def zkm (bl:List Bl):Nat:=(bl.map fun b=>za7 0 b.stmts).sum
theorem zm0:∀ {l:List Bl} {n:Int},0≤n→0≤zfg l n→(zkm l:Int)+zfg l n≤n∧∀ b∈l,∀ s∈b.stmts,s.e.length≤4∧s.cases.length≤100
 |
  [],n,hn,h=>by
  rw [zfg] at h ⊢
  exact ⟨by show ((0:Nat):Int)+n≤n;omega,fun s hs=>by cases hs⟩
 |
  b::l,n,hn,h=>by
  rw [zfg,if_neg (by omega)] at h ⊢
  by_cases h0:zsp b n < 0
  ·
   rw [zlo h0] at h
   omega
  ·
   obtain ⟨h2,h3⟩:=zm0 (l:=l) (n:=zsp b n) (by omega) h
   have e:(zkm (b::l):Int)=za7 0 b.stmts+zkm l:=by
    unfold zkm
    rw [List.map_cons,List.sum_cons]
    omega
   unfold zsp at h0 h2
   split at h0
   · omega
   ·
    rename_i hc
    rw [if_neg hc] at h2
    obtain ⟨h4,h5⟩:=znT (l:=b.stmts) hn (by omega)
    refine ⟨?_,fun t ht=>?_⟩
    ·
     rw [e]
     unfold zsp
     rw [if_neg hc]
     omega
    ·
     rcases List.mem_cons.1 ht with rfl | ht
     · exact h5
     · exact h3 t ht
theorem zok:∀ {bl:List Bl} {b:Bl},b∈bl→za7 0 b.stmts≤zkm bl
 | [],b,h=>by cases h
 |
  x::l,b,h=>by
  have e:zkm (x::l)=za7 0 x.stmts+zkm l:=by unfold zkm;rw [List.map_cons,List.sum_cons]
  rcases List.mem_cons.1 h with rfl | h
  · omega
  · have:=zok h;omega
theorem zys {k:Nat}:∀ {l:List St},za7 k l=za7 0 l+k * l.length
 | []=>by simp [za7]
 |
  s::l=>by
  have e1:za7 k (s::l)=zC s.e+k+za7 k l:=rfl
  have e2:za7 0 (s::l)=zC s.e+0+za7 0 l:=rfl
  rw [e1,e2,zys (l:=l),List.length_cons,Nat.mul_succ]
  omega
theorem zrs:∀ {l:List St} {s:St},s∈l→zC s.e≤za7 0 l
 | [],s,h=>by cases h
 |
  x::l,s,h=>by
  have e:za7 0 (x::l)=zC x.e+0+za7 0 l:=rfl
  rcases List.mem_cons.1 h with rfl | h
  · omega
  · have:=zrs h;omega
theorem zqE:∀ {l:List St},(l.flatMap zcF).length≤za7 0 l
 | []=>by simp [za7]
 |
  s::l=>by
  have e:za7 0 (s::l)=zC s.e+0+za7 0 l:=rfl
  have:=zqE (l:=l)
  have:=zkg s
  rw [List.flatMap_cons,List.length_append]
  omega
theorem znB {exit:List Int}:∀ {bl:List Bl},(univ exit bl).length≤exit.length+zkm bl
 | []=>by simp [univ,zkm]
 |
  b::l=>by
  have h:=znB (exit:=exit) (bl:=l)
  have e:zkm (b::l)=za7 0 b.stmts+zkm l:=by unfold zkm;rw [List.map_cons,List.sum_cons]
  have:=zqE (l:=b.stmts)
  unfold univ at h ⊢
  rw [List.length_append] at h ⊢
  rw [List.flatMap_cons,List.length_append]
  omega
theorem zsd {m:Nat}:∀ {l:List Bl},(∀ b∈l,b.stmts.length≤m)→zo l≤l.length * m
 | [],_=>by simp [zo]
 |
  b::l,h=>by
  have h1:=zsd (l:=l) fun c hc=>h c (List.mem_cons_of_mem _ hc)
  have h2:=h b (by simp)
  simp only [zo,List.map_cons,List.sum_cons,List.length_cons] at h1 ⊢
  rw [Nat.succ_mul]
  omega
structure SmallP (g:G):Prop where
 blocks:g.blocks.length≤12
 stmts:∀ b∈g.blocks,b.stmts.length≤12
 parts:∀ b∈g.blocks,∀ s∈b.stmts,s.e.length≤4∧s.cases.length≤100
 size:zkm g.blocks≤20000
theorem znN {g:G} {exit:List Int} (h:zqx g exit=true):SmallP g∧exit.length≤20:=by
 unfold zqx zrk at h
 simp only [Bool.and_eq_true,decide_eq_true_eq,List.all_eq_true] at h
 obtain ⟨h1,h2,⟨_,h3⟩,h4⟩:=h
 obtain ⟨h5,h6⟩:=zm0 (n:=20000) (by omega) h3
 exact ⟨⟨h1,h4,h6,by omega⟩,h2⟩
theorem SmallP.few {g:G} (h:SmallP g):fewB g:=⟨by have:=h.blocks;omega,fun b hb=>by have:=h.stmts b hb;omega⟩
theorem SmallP.cnt {g:G} (h:SmallP g):zo g.blocks≤144:=by
 have h1:=zsd h.stmts
 have h2:=h.blocks
 have:g.blocks.length * 12≤12 * 12:=Nat.mul_le_mul_right 12 h2
 omega
theorem SmallP.good {g:G} {exit:List Int} (h:SmallP g) (he:exit.length≤40):GoodB (univ exit g.blocks) exit g.blocks:=by
 have hs:=h.size
 have hu:=znB (exit:=exit) (bl:=g.blocks)
 refine ⟨fun x hx=>List.mem_append_left _ hx,fun b hb s hs=>zne hb hs,fun b hb s hm=>?_,fun b hb=>?_,by have:=h.cnt;omega,by have:=h.blocks;omega⟩
 ·
  have h1:=zrs hm
  have h2:=zok hb
  have h3:=(h.parts b hb s hm).2
  exact ⟨by omega,by omega⟩
 ·
  have h1:=zys (k:=exit.length) (l:=b.stmts)
  have h2:=zok hb
  have h3:=h.stmts b hb
  have h4:exit.length * b.stmts.length≤40 * 12:=Nat.mul_le_mul he h3
  omega
theorem zxT {s:St} (h:s.check=0) (h1:s.op=1):s.e.length=1:=by
 unfold St.check zpe at h
 split at h
 · cases h
 ·
  rename_i hc
  rw [h1] at hc
  have:zU 1=1:=rfl
  omega
theorem SmallP.fewD {g:G} {exit:List Int} (h:SmallP g) (he:exit.length≤40) (hc:zdz g=0):FewD exit g.blocks:=by
 have hs:=h.size
 have hu:=znB (exit:=exit) (bl:=g.blocks)
 have hg:=h.good he
 refine ⟨fun b hb s hm=>⟨(hg.hsz b hb s hm).1,(hg.hsz b hb s hm).2,fun h1=>zxT ((zxk.1 hc).chk b hb s hm) h1⟩,hg.len,by have:=h.cnt;omega,by omega⟩
def exV (v:Int):Ex:=.mk 2 0 v 0 []
def exC (n:Int):Ex:=.mk 1 n 0 0 []
def zvI (v:Int) (e:Ex):St:=⟨1,v,0,0,0,0,[e],[]⟩
def exE1:G:=⟨0,[⟨0,[zvI 12 (exV 1),zvI 13 (exV 12),zvI 0 (exC 1),⟨9,0,0,0,0,0,[],[]⟩]⟩]⟩
def exE1d:G:=⟨0,[⟨0,[zvI 0 (exC 1),⟨9,0,0,0,0,0,[],[]⟩]⟩]⟩
def exE2:G:=⟨0,[⟨0,[zvI 12 (.mk 18 0 0 4 [exV 1]),⟨10,0,0,0,0,0,[],[]⟩]⟩]⟩
def exSt:St:=zvI 1 (.mk 3 0 0 0 [exV 1, .mk 18 0 0 4 [exV 2]])
theorem zlp:SmallP exE1:=(znN (exit:=[0,7]) (by decide)).1
theorem zo1:SmallP exE2:=(znN (exit:=[]) (by decide)).1
theorem zym:zv4 exE1 [0,7]=.tup [.agg (G.cells exE1d), .int .i64 2, .int .i64 0]:=by kernel_rfl
theorem zwK:zv4 exE2 []=.tup [.agg (G.cells exE2), .int .i64 0, .int .i64 0]:=by kernel_rfl
theorem zxF:AV.tup [zcZ (zaE [0,7] exE1.blocks),zcZ (zip [0,7] exE1.blocks)]=.tup [zcZ [[1,7]],zcZ [[]]]:=by kernel_rfl
theorem zwT:za (zcF exSt)=za [1,2]:=by kernel_rfl
def zA5:List Memo:=[⟨zce,[.agg exE1.cells,za [0,7]], .tup [.agg (G.cells exE1d), .int .i64 2, .int .i64 0]⟩,⟨zfs,[.agg exE1.cells,za [0,7]], .tup [zcZ [[1,7]],zcZ [[]]]⟩,
 ⟨zdo,[.agg exSt.cells],za [1,2]⟩,⟨zce,[.agg exE2.cells,za []], .tup [.agg (G.cells exE2), .int .i64 0, .int .i64 0]⟩]
theorem zxw:∀ e∈zA5,zz Tryz.prog e.f e.args (·=e.res):=by
 have h1:=zem exE1 [0,7] _ (zlp.good (by decide)) zlp.few
 have h2:=zl9 exE1 [0,7] _ (zlp.good (exit:=[0,7]) (by decide)).univ
 have h3:=zhQ exSt (by decide)
 have h4:=zem exE2 [] _ (zo1.good (by decide)) zo1.few
 rw [zym] at h1
 rw [zxF] at h2
 rw [zwT] at h3
 rw [zwK] at h4
 intro e he
 unfold zA5 at he
 simp only [List.mem_cons,List.not_mem_nil,or_false] at he
 rcases he with rfl | rfl | rfl | rfl
 · exact h1
 · exact h2
 · exact h3
 · exact h4
def q25:FuncId→Nat→List Nat:=qTabK [(zb2,([19,21,25,32,45,47,78,79,84,90,96,109,111,114],[3583],[])),
 (znw,([],[67126323],[])),
 (zd7,([],[33571891],[])),
 (zds,([],[1031],[])),
 (zxP,([7],[27],[])),
 (zx4,([],[5],[])),
 (ztg,([],[5],[])),
 (zyh,([10],[119],[])),
 (zwa,([7],[27],[])),
 (ztc,([],[33571891],[])),
 (zml,([],[17768111],[])),
 (zfc,([],[5],[])),
 (zed,([],[17596514574653],[])),
 (zec,([],[10384593871817177683247510831234831],[])),
 (zn3,([],[5],[])),
 (zcD,([],[1073746119],[])),
 (zk8,([],[16661],[]))]
theorem zjM:zz Tryz.prog zb2 [] (·=.bool true):=zvJ (qf:=q25) (znR zt2 zxw) 3000 (by kernel_rfl)
theorem flXX {r:List AV} (h:r.all AV.flat=true) {e e2:Ex}:(AV.agg (encX e)::AV.agg (encX e2)::r).all AV.flat=true:=by
 have h1:=flX (e:=e) h
 have h2:=flX (e:=e2) h
 simp only [List.all_cons,Bool.and_eq_true] at h1 h2 ⊢
 exact ⟨h1.1,h2⟩
mutual
def eqX:Ex→Ex→Bool
 | .mk a b c d l, .mk a2 b2 c2 d2 l2=>decide (a=a2)&&(decide (b=b2)&&(decide (c=c2)&&(decide (d=d2)&&eqXs l l2)))
def eqXs:List Ex→List Ex→Bool
 | [],[]=>true
 | x::l,y::m=>eqX x y&&eqXs l m
 | [],_::_=>false
 | _::_,[]=>false
end
mutual
theorem zzA:∀ e:Ex,eqX e e=true
 | .mk a b c d l=>by rw [eqX,zmI l];simp
theorem zmI:∀ l:List Ex,eqXs l l=true
 | []=>by rw [eqXs]
 | x::l=>by rw [eqXs,zzA x,zmI l];rfl
end
theorem zuB:∀ {l m:List Ex},l.length≠m.length→eqXs l m=false
 | [],[],h=>absurd rfl h
 | x::l,y::m,h=>by rw [eqXs,zuB (fun e=>h (by simp [e])),Bool.and_false]
 | [],_::_,_=>by rw [eqXs]
 | _::_,[],_=>by rw [eqXs]
theorem zrp {l m:List Ex} {i:Nat} (h1:i < l.length) (h2:i < m.length):eqXs (l.drop i) (m.drop i)=(eqX l[i] m[i]&&eqXs (l.drop (i+1)) (m.drop (i+1))):=by
 rw [List.drop_eq_getElem_cons h1,List.drop_eq_getElem_cons h2,eqXs]
theorem zqC:∀ (k:Nat) (e e2:Ex),zaU e≤k→zz Tryz.prog zi8 [.agg (encX e), .agg (encX e2)] (·=.bool (eqX e e2)):=by
 intro k
 induction k with
 | zero=>intro e e2 h;obtain ⟨_,_,_,_,l⟩:=e;rw [zaU] at h;omega
 | succ k ih =>
 intro e e2 hk
 obtain ⟨op,nn,v,w,l⟩:=e
 obtain ⟨op2,nn2,v2,w2,l2⟩:=e2
 refine fn_x ztn rfl ?_
 unfold zoh
 have hB:=hBig
 rw [zaU] at hk
 rw [zbu,zbu,eqX]
 by_cases h1:op=op2
 case neg =>
  rw [decide_eq_false h1,Bool.false_and]
  (repeat first | simp (disch:=try exact dis1) only [evD,Nat.reduceBEq,Nat.reduceAdd,Nat.reduceLeDiff,fldP,dT,zcc] | with_reducible intro _ | ((with_reducible apply And.intro);omega))
  exact ⟨_, .bool _ _,rfl⟩
 by_cases h2:nn=nn2
 case neg =>
  rw [decide_eq_true h1,decide_eq_false h2,Bool.true_and,Bool.false_and]
  (repeat first | simp (disch:=try exact dis1) only [evD,Nat.reduceBEq,Nat.reduceAdd,Nat.reduceLeDiff,fldP,dT,dF,zcc] | with_reducible intro _ | ((with_reducible apply And.intro);omega))
  exact ⟨_, .bool _ _,rfl⟩
 by_cases h3:v=v2
 case neg =>
  rw [decide_eq_true h1,decide_eq_true h2,decide_eq_false h3,Bool.true_and,Bool.true_and,Bool.false_and]
  (repeat first | simp (disch:=try exact dis1) only [evD,Nat.reduceBEq,Nat.reduceAdd,Nat.reduceLeDiff,fldP,dT,dF,zcc] | with_reducible intro _ | ((with_reducible apply And.intro);omega))
  exact ⟨_, .bool _ _,rfl⟩
 by_cases h4:w=w2
 case neg =>
  rw [decide_eq_true h1,decide_eq_true h2,decide_eq_true h3,decide_eq_false h4,Bool.true_and,Bool.true_and,Bool.true_and,Bool.false_and]
  (repeat first | simp (disch:=try exact dis1) only [evD,Nat.reduceBEq,Nat.reduceAdd,Nat.reduceLeDiff,fldP,dT,dF,zcc] | with_reducible intro _ | ((with_reducible apply And.intro);omega))
  exact ⟨_, .bool _ _,rfl⟩
 rw [decide_eq_true h1,decide_eq_true h2,decide_eq_true h3,decide_eq_true h4,Bool.true_and,Bool.true_and,Bool.true_and,Bool.true_and]
 by_cases h5:l.length=l2.length
 case neg =>
  rw [zuB h5]
  (repeat first | simp (disch:=try exact dis1) only [evD,Nat.reduceBEq,Nat.reduceAdd,Nat.reduceLeDiff,fldP,dT,dF,zcc] | with_reducible intro _ | ((with_reducible apply And.intro);omega))
  exact ⟨_, .bool _ _,rfl⟩
 generalize hR:eqXs l l2=R
 (repeat first | simp (disch:=try exact dis1) only [evD,Nat.reduceBEq,Nat.reduceAdd,Nat.reduceLeDiff,fldP,dF] | with_reducible intro _ | ((with_reducible apply And.intro);omega))
 refine zg (fun i:Nat=>([(2,encP 5 [.int .i64 op, .int .u32 nn, .int .i64 v, .int .i64 w,encL 5 encX l]),(3,encP 5 [.int .i64 op2, .int .u32 nn2, .int .i64 v2, .int .i64 w2,encL 5 encX l2]),(5, .int .i64 i)],[])) 0 (fun i=>i≤l.length∧eqXs (l.drop i) (l2.drop i)=R) (fun i=>l.length - i) 0 ⟨Nat.zero_le _,hR⟩ (Ent.keep rfl fin5) ?_
 rintro i ⟨hi,hgo⟩ wf
 unfold zjG
 by_cases hl:i < l.length
 ·
  have hl2:i < l2.length:=by omega
  have hm:=zbB (List.getElem_mem hl)
  rw [zrp hl hl2] at hgo
  (repeat first | simp (disch:=try exact dis1) only [evD,Nat.reduceBEq,Nat.reduceAdd,Nat.reduceLeDiff,fldP,dT,zp hl,zp hl2,zax,zZ] | with_reducible intro _ | ((with_reducible apply And.intro);omega))
  refine zbl (zk (ih l[i] l2[i] (by omega)) (flXX rfl)) ?_
  cases hx:eqX l[i] l2[i] with
  |
   true =>
   rw [hx,Bool.true_and] at hgo
   (repeat first | simp (disch:=try exact dis1) only [evD,Nat.reduceBEq,Nat.reduceAdd,Nat.reduceLeDiff] | with_reducible intro _ | ((with_reducible apply And.intro);omega))
   exact ⟨i+1,⟨by omega,hgo⟩,by omega,Ent.keep rfl fin5⟩
  |
   false =>
   rw [hx,Bool.false_and] at hgo
   rw [← hgo]
   (repeat first | simp (disch:=try exact dis1) only [evD,Nat.reduceBEq,Nat.reduceAdd,Nat.reduceLeDiff,zcc] | with_reducible intro _ | ((with_reducible apply And.intro);omega))
   exact ⟨_, .bool _ _,rfl⟩
 ·
  rw [List.drop_of_length_le (by omega),List.drop_of_length_le (by omega),eqXs] at hgo
  rw [← hgo]
  (repeat first | simp (disch:=try exact dis1) only [evD,Nat.reduceBEq,Nat.reduceAdd,Nat.reduceLeDiff,fldP,dF] | with_reducible intro _ | ((with_reducible apply And.intro);omega))
  unfold zjB
  (repeat first | simp (disch:=try exact dis1) only [evD,Nat.reduceBEq,Nat.reduceAdd,Nat.reduceLeDiff,zcc] | with_reducible intro _ | ((with_reducible apply And.intro);omega))
  exact ⟨_, .bool _ _,rfl⟩
def eqS (a b:St):Bool:=decide (a.op=b.op)&&(decide (a.var=b.var)&&(decide (a.width=b.width)&&(decide (a.next=b.next)&&(decide (a.els=b.els)&&(decide (a.tgt=b.tgt)&&(decide (a.e.length=b.e.length)&&(decide (a.cases=b.cases)&&eqXs a.e b.e)))))))
theorem zAE (a:St):eqS a a=true:=by unfold eqS;rw [zmI];simp
set_option maxHeartbeats 1000000 in
theorem znz (a b:St):zz Tryz.prog zgj [.agg a.cells, .agg b.cells] (·=.bool (eqS a b)):=by
 refine fn_x zmK rfl ?_
 unfold zh6 eqS
 have hB:=hBig
 obtain ⟨op,var,width,next,els,tgt,l,cs⟩:=a
 obtain ⟨op2,var2,width2,next2,els2,tgt2,l2,cs2⟩:=b
 simp only [St.cells]
 have hsi:=znr cs cs2
 by_cases h1:op=op2
 case neg =>
  rw [decide_eq_false h1,Bool.false_and]
  (repeat first | simp (disch:=try exact dis1) only [evD,Nat.reduceBEq,Nat.reduceAdd,Nat.reduceLeDiff,fldP,dT,za,zac] | with_reducible intro _ | ((with_reducible apply And.intro);omega))
  exact ⟨_, .bool _ _,rfl⟩
 rw [decide_eq_true h1,Bool.true_and]
 by_cases h2:var=var2
 case neg =>
  rw [decide_eq_false h2,Bool.false_and]
  (repeat first | simp (disch:=try exact dis1) only [evD,Nat.reduceBEq,Nat.reduceAdd,Nat.reduceLeDiff,fldP,dT,dF,za,zac] | with_reducible intro _ | ((with_reducible apply And.intro);omega))
  exact ⟨_, .bool _ _,rfl⟩
 rw [decide_eq_true h2,Bool.true_and]
 by_cases h3:width=width2
 case neg =>
  rw [decide_eq_false h3,Bool.false_and]
  (repeat first | simp (disch:=try exact dis1) only [evD,Nat.reduceBEq,Nat.reduceAdd,Nat.reduceLeDiff,fldP,dT,dF,za,zac] | with_reducible intro _ | ((with_reducible apply And.intro);omega))
  exact ⟨_, .bool _ _,rfl⟩
 rw [decide_eq_true h3,Bool.true_and]
 by_cases h4:next=next2
 case neg =>
  rw [decide_eq_false h4,Bool.false_and]
  (repeat first | simp (disch:=try exact dis1) only [evD,Nat.reduceBEq,Nat.reduceAdd,Nat.reduceLeDiff,fldP,dT,dF,za,zac] | with_reducible intro _ | ((with_reducible apply And.intro);omega))
  exact ⟨_, .bool _ _,rfl⟩
 rw [decide_eq_true h4,Bool.true_and]
 by_cases h5:els=els2
 case neg =>
  rw [decide_eq_false h5,Bool.false_and]
  (repeat first | simp (disch:=try exact dis1) only [evD,Nat.reduceBEq,Nat.reduceAdd,Nat.reduceLeDiff,fldP,dT,dF,za,zac] | with_reducible intro _ | ((with_reducible apply And.intro);omega))
  exact ⟨_, .bool _ _,rfl⟩
 rw [decide_eq_true h5,Bool.true_and]
 by_cases h6:tgt=tgt2
 case neg =>
  rw [decide_eq_false h6,Bool.false_and]
  (repeat first | simp (disch:=try exact dis1) only [evD,Nat.reduceBEq,Nat.reduceAdd,Nat.reduceLeDiff,fldP,dT,dF,za,zac] | with_reducible intro _ | ((with_reducible apply And.intro);omega))
  exact ⟨_, .bool _ _,rfl⟩
 rw [decide_eq_true h6,Bool.true_and]
 by_cases h7:l.length=l2.length
 case neg =>
  rw [decide_eq_false h7,Bool.false_and]
  (repeat first | simp (disch:=try exact dis1) only [evD,Nat.reduceBEq,Nat.reduceAdd,Nat.reduceLeDiff,fldP,dT,dF,za,zac] | with_reducible intro _ | ((with_reducible apply And.intro);omega))
  exact ⟨_, .bool _ _,rfl⟩
 rw [decide_eq_true h7,Bool.true_and]
 generalize decide (cs=cs2)=q at hsi
 (repeat first | simp (disch:=try exact dis1) only [evD,Nat.reduceBEq,Nat.reduceAdd,Nat.reduceLeDiff,fldP,dF,za] | with_reducible intro _ | ((with_reducible apply And.intro);omega))
 refine zi (zk hsi rfl) ?_
 cases q with
 |
  false =>
  rw [Bool.false_and]
  (repeat first | simp (disch:=try exact dis1) only [evD,Nat.reduceBEq,Nat.reduceAdd,Nat.reduceLeDiff,zac] | with_reducible intro _ | ((with_reducible apply And.intro);omega))
  exact ⟨_, .bool _ _,rfl⟩
 | true =>
 rw [Bool.true_and]
 generalize hR:eqXs l l2=R
 (repeat first | simp (disch:=try exact dis1) only [evD,Nat.reduceBEq,Nat.reduceAdd,Nat.reduceLeDiff,fldP,dF,za] | with_reducible intro _ | ((with_reducible apply And.intro);omega))
 refine zg (fun i:Nat=>([(2,encP 8 (St.cells ⟨op,var,width,next,els,tgt,l,cs⟩)),(3,encP 8 (St.cells ⟨op2,var2,width2,next2,els2,tgt2,l2,cs2⟩)),(5, .int .i64 i)],[])) 0 (fun i=>i≤l.length∧eqXs (l.drop i) (l2.drop i)=R) (fun i=>l.length - i) 0 ⟨Nat.zero_le _,hR⟩ (Ent.tab [] [] rfl (by (try simp only [evWB,Nat.reduceBEq,Nat.reduceAdd,Nat.reduceSub,Nat.reduceLeDiff,Nat.reduceLT,implies_true,St.cells,za])<;>exact fin2) (by (try simp only [evWB,Nat.reduceBEq,Nat.reduceAdd,Nat.reduceSub,Nat.reduceLeDiff,Nat.reduceLT,implies_true,St.cells,za])<;>exact fin2)) ?_
 rintro i ⟨hi,hgo⟩ wf
 unfold zf0
 by_cases hl:i < l.length
 ·
  have hl2:i < l2.length:=by omega
  rw [zrp hl hl2] at hgo
  (repeat first | simp (disch:=try exact dis1) only [evD,Nat.reduceBEq,Nat.reduceAdd,Nat.reduceLeDiff,fldP,dT,St.cells,zp hl,zp hl2,zax,zZ] | with_reducible intro _ | ((with_reducible apply And.intro);omega))
  refine zbl (zk (zqC _ l[i] l2[i] (Nat.le_refl _)) (flXX rfl)) ?_
  cases hx:eqX l[i] l2[i] with
  |
   true =>
   rw [hx,Bool.true_and] at hgo
   (repeat first | simp (disch:=try exact dis1) only [evD,Nat.reduceBEq,Nat.reduceAdd,Nat.reduceLeDiff] | with_reducible intro _ | ((with_reducible apply And.intro);omega))
   exact ⟨i+1,⟨by omega,hgo⟩,by omega,(Ent.tab [] [] rfl (by (try simp only [evWB,Nat.reduceBEq,Nat.reduceAdd,Nat.reduceSub,Nat.reduceLeDiff,Nat.reduceLT,implies_true,St.cells,za])<;>exact fin2) (by (try simp only [evWB,Nat.reduceBEq,Nat.reduceAdd,Nat.reduceSub,Nat.reduceLeDiff,Nat.reduceLT,implies_true,St.cells,za])<;>exact fin2))⟩
  |
   false =>
   rw [hx,Bool.false_and] at hgo
   rw [← hgo]
   (repeat first | simp (disch:=try exact dis1) only [evD,Nat.reduceBEq,Nat.reduceAdd,Nat.reduceLeDiff,zac] | with_reducible intro _ | ((with_reducible apply And.intro);omega))
   exact ⟨_, .bool _ _,rfl⟩
 ·
  rw [List.drop_of_length_le (by omega),List.drop_of_length_le (by omega),eqXs] at hgo
  rw [← hgo]
  (repeat first | simp (disch:=try exact dis1) only [evD,Nat.reduceBEq,Nat.reduceAdd,Nat.reduceLeDiff,fldP,dF,St.cells] | with_reducible intro _ | ((with_reducible apply And.intro);omega))
  unfold zgc
  (repeat first | simp (disch:=try exact dis1) only [evD,Nat.reduceBEq,Nat.reduceAdd,Nat.reduceLeDiff,zac] | with_reducible intro _ | ((with_reducible apply And.intro);omega))
  exact ⟨_, .bool _ _,rfl⟩
inductive PartR:List St→List St→Prop
 | nil:PartR [] []
 | keep {s:St} {a b:List St}:PartR a b→PartR (s::a) (s::b)
 | drop {s:St} {a b:List St}:PartR a b→s.op=1→PartR a (s::b)
def sgA_A:List (List Nat):=[[],[0],[],[0,1,2],[0,1,2,3],[],[5],[],[5,6,7],[5,6,7,8],[],[10],[0,1,2,3,4,10,11],[0,1,2,3,4,5,6,7,8,9,10,11,12]]
def sgA_St:List (List Nat):=[[],[10],[10,11],[10,11,12],[10,11,12,13]]
def zt9:Plan:=[(0,[],[]),(1,[],[]),(1,[10],[10]),(1,[10,11],[10,11]),(2,[],[]),(3,[],[]),(3,[10],[10]),(3,[10,11],[10,11]),(4,[],[]),(4,[10],[10]),(4,[10,11],[10,11]),(5,[],[]),(6,[],[]),(6,[10],[10]),(6,[10,11],[10,11]),(6,[10,11,12],[10,11,12]),(7,[],[]),(8,[],[]),(8,[10],[10]),(8,[10,11],[10,11]),(8,[10,11,12],[10,11,12]),(9,[],[]),(9,[10],[10]),(9,[10,11],[10,11]),(9,[10,11,12],[10,11,12]),(10,[],[10]),(11,[10],[10,11]),(12,[10,11],[10,11,12]),(13,[10,11,12],[10,11,12,13])]
def sgB_A:List (List Nat):=[[],[0],[],[0,1,2],[0,1,2,3],[],[5],[],[5,6,7],[5,6,7,8],[11],[],[0,1,2,3,4,10,11],[0,1,2,3,4,5,6,7,8,9,10,11,12]]
def sgB_St:List (List Nat):=[[],[11],[10,11],[10,11,12],[10,11,12,13]]
def zui:Plan:=[(0,[],[]),(1,[],[]),(1,[11],[11]),(1,[10,11],[10,11]),(2,[],[]),(3,[],[]),(3,[11],[11]),(3,[10,11],[10,11]),(4,[],[]),(4,[11],[11]),(4,[10,11],[10,11]),(5,[],[]),(6,[],[]),(6,[11],[11]),(6,[10,11],[10,11]),(6,[10,11,12],[10,11,12]),(7,[],[]),(8,[],[]),(8,[11],[11]),(8,[10,11],[10,11]),(8,[10,11,12],[10,11,12]),(9,[],[]),(9,[11],[11]),(9,[10,11],[10,11]),(9,[10,11,12],[10,11,12]),(10,[11],[10,11]),(11,[],[11]),(12,[10,11],[10,11,12]),(13,[10,11,12],[10,11,12,13])]
set_option maxHeartbeats 1000000 in
theorem zBa {Q:QT} (hq:QExt Q) (ad:Int) (bl:List Bl) (i:Nat) (hi:i < bl.length)
  (h1:Q .normal (zP (Kn.drop [(2,encP 2 [.int .u32 ad,encL 2 Bl.cells bl]),(3,encP 2 [.int .u32 ad,encL 2 Bl.cells bl]),(5, .int .i64 i),(27, .bool true)] [27,30,31,32,33,34,35,36,37,38,39]) [(6, .ptr 0 0 0 0 0),(7, .ptr 1 0 0 0 0)]) [(0, .row 2 [[.int .u32 bl[i].addr,encL 8 St.cells bl[i].stmts]] 0),(1, .row 2 [[.int .u32 bl[i].addr,encL 8 St.cells bl[i].stmts]] 0)] 2)
  (h2:Q .normal (zP (Kn.drop [(2,encP 2 [.int .u32 ad,encL 2 Bl.cells bl]),(3,encP 2 [.int .u32 ad,encL 2 Bl.cells bl]),(5, .int .i64 i),(27, .bool true)] [27,30,31,32,33,34,35,36,37,38,39]) [(6, .ptr 1 0 0 0 0),(7, .ptr 0 0 0 0 0)]) [(0, .row 2 [[.int .u32 bl[i].addr,encL 8 St.cells bl[i].stmts]] 0),(1, .row 2 [[.int .u32 bl[i].addr,encL 8 St.cells bl[i].stmts]] 0)] 2) :
  zat Tryz.prog (.tree (ze9 zbh zdu 14 (List.replicate 14 false))) [27,30,31,32,33,34,35,36,37,38,39] Q [(2,encP 2 [.int .u32 ad,encL 2 Bl.cells bl]),(3,encP 2 [.int .u32 ad,encL 2 Bl.cells bl]),(5, .int .i64 i),(27, .bool true)] [] 0:=by
 have hB:=hBig
 have hg:(bl.map Bl.cells).getD i []=[.int .u32 bl[i].addr,encL 8 St.cells bl[i].stmts]:=zp hi
 refine zy7 10 11 6 7 zis sgA_A sgB_A sgA_St sgB_St zt9 zui [(30, .iptr 1 fun j=>[AV.int .u32 ad,encL 2 Bl.cells bl].getD (1+j) .undef),(31,encL 2 Bl.cells bl),(32, .int .i64 i),(33, .iptr 2 fun j=>[AV.int .u32 bl[i].addr,encL 8 St.cells bl[i].stmts].getD j .undef),(34, .agg [.int .u32 bl[i].addr,encL 8 St.cells bl[i].stmts]),(35, .iptr 1 fun j=>[AV.int .u32 ad,encL 2 Bl.cells bl].getD (1+j) .undef),(36,encL 2 Bl.cells bl),(37, .int .i64 i),(38, .iptr 2 fun j=>[AV.int .u32 bl[i].addr,encL 8 St.cells bl[i].stmts].getD j .undef),(39, .agg [.int .u32 bl[i].addr,encL 8 St.cells bl[i].stmts])] (.ptr 0 0 0 0 0) (.ptr 1 0 0 0 0) (.ptr 1 0 0 0 0) (.ptr 0 0 0 0 0) (hsOf [([],0),([(0, .row 2 [[.int .u32 0, .nilsl]] 0)],1),([(0, .row 2 [[.int .u32 0, .nilsl]] 0),(1, .row 2 [[.int .u32 0, .nilsl]] 0)],2),([(0, .row 2 [[.int .u32 bl[i].addr,encL 8 St.cells bl[i].stmts]] 0),(1, .row 2 [[.int .u32 0, .nilsl]] 0)],2),([(0, .row 2 [[.int .u32 bl[i].addr,encL 8 St.cells bl[i].stmts]] 0),(1, .row 2 [[.int .u32 bl[i].addr,encL 8 St.cells bl[i].stmts]] 0)],2)]) (hsOf [([],0),([(0, .row 2 [[.int .u32 0, .nilsl]] 0)],1),([(0, .row 2 [[.int .u32 0, .nilsl]] 0),(1, .row 2 [[.int .u32 0, .nilsl]] 0)],2),([(0, .row 2 [[.int .u32 0, .nilsl]] 0),(1, .row 2 [[.int .u32 bl[i].addr,encL 8 St.cells bl[i].stmts]] 0)],2),([(0, .row 2 [[.int .u32 bl[i].addr,encL 8 St.cells bl[i].stmts]] 0),(1, .row 2 [[.int .u32 bl[i].addr,encL 8 St.cells bl[i].stmts]] 0)],2)]) (by kernel_rfl) (by kernel_rfl) rfl (by kernel_rfl) rfl rfl rfl hq ?_ ?_ [(6, .ptr 0 0 0 0 0),(7, .ptr 1 0 0 0 0)] [(6, .ptr 1 0 0 0 0),(7, .ptr 0 0 0 0 0)] rfl rfl ?_ ?_
 ·
  intro Kf hs hK hH
  have kf6:Kf.get 6=.ptr 0 0 0 0 0:=by rw [hK,zD];rfl
  have kf7:Kf.get 7=.ptr 1 0 0 0 0:=by rw [hK,zD];rfl
  have kf30:Kf.get 30=.iptr 1 fun j=>[AV.int .u32 ad,encL 2 Bl.cells bl].getD (1+j) .undef:=by rw [hK,zD];rfl
  have kf31:Kf.get 31=encL 2 Bl.cells bl:=by rw [hK,zD];rfl
  have kf32:Kf.get 32=.int .i64 i:=by rw [hK,zD];rfl
  have kf33:Kf.get 33=.iptr 2 fun j=>[AV.int .u32 bl[i].addr,encL 8 St.cells bl[i].stmts].getD j .undef:=by rw [hK,zD];rfl
  have kf34:Kf.get 34=.agg [.int .u32 bl[i].addr,encL 8 St.cells bl[i].stmts]:=by rw [hK,zD];rfl
  have kf35:Kf.get 35=.iptr 1 fun j=>[AV.int .u32 ad,encL 2 Bl.cells bl].getD (1+j) .undef:=by rw [hK,zD];rfl
  have kf36:Kf.get 36=encL 2 Bl.cells bl:=by rw [hK,zD];rfl
  have kf37:Kf.get 37=.int .i64 i:=by rw [hK,zD];rfl
  have kf38:Kf.get 38=.iptr 2 fun j=>[AV.int .u32 bl[i].addr,encL 8 St.cells bl[i].stmts].getD j .undef:=by rw [hK,zD];rfl
  have kf39:Kf.get 39=.agg [.int .u32 bl[i].addr,encL 8 St.cells bl[i].stmts]:=by rw [hK,zD];rfl
  have kf2:Kf.get 2=encP 2 [.int .u32 ad,encL 2 Bl.cells bl]:=by rw [hK,zD];rfl
  have kf3:Kf.get 3=encP 2 [.int .u32 ad,encL 2 Bl.cells bl]:=by rw [hK,zD];rfl
  have kf5:Kf.get 5=.int .i64 i:=by rw [hK,zD];rfl
  simp only [zt9,zo2,zqR,and_true]
  (repeat' with_reducible apply And.intro)
  all_goals (rw [hH];simp only [zma,zbh,List.getD_cons_succ,List.getD_cons_zero,hsOf,hsAt,beqL,ziq,Nat.reduceBEq,Bool.and_true,Bool.true_and,Bool.and_false,Bool.false_and,cond_true,cond_false,List.length_cons,List.length_nil,Nat.reduceAdd])
  all_goals (simp (disch:=try exact dis1) only [evD,Nat.reduceBEq,Nat.reduceAdd,Nat.reduceLeDiff,zrj,zpd,fldP,hg,kf6,kf7,kf30,kf31,kf32,kf33,kf34,kf35,kf36,kf37,kf38,kf39,kf2,kf3,kf5])
  all_goals (first | done | omega | trace_state)
 ·
  intro Kf hs hK hH
  have kf6:Kf.get 6=.ptr 1 0 0 0 0:=by rw [hK,zD];rfl
  have kf7:Kf.get 7=.ptr 0 0 0 0 0:=by rw [hK,zD];rfl
  have kf30:Kf.get 30=.iptr 1 fun j=>[AV.int .u32 ad,encL 2 Bl.cells bl].getD (1+j) .undef:=by rw [hK,zD];rfl
  have kf31:Kf.get 31=encL 2 Bl.cells bl:=by rw [hK,zD];rfl
  have kf32:Kf.get 32=.int .i64 i:=by rw [hK,zD];rfl
  have kf33:Kf.get 33=.iptr 2 fun j=>[AV.int .u32 bl[i].addr,encL 8 St.cells bl[i].stmts].getD j .undef:=by rw [hK,zD];rfl
  have kf34:Kf.get 34=.agg [.int .u32 bl[i].addr,encL 8 St.cells bl[i].stmts]:=by rw [hK,zD];rfl
  have kf35:Kf.get 35=.iptr 1 fun j=>[AV.int .u32 ad,encL 2 Bl.cells bl].getD (1+j) .undef:=by rw [hK,zD];rfl
  have kf36:Kf.get 36=encL 2 Bl.cells bl:=by rw [hK,zD];rfl
  have kf37:Kf.get 37=.int .i64 i:=by rw [hK,zD];rfl
  have kf38:Kf.get 38=.iptr 2 fun j=>[AV.int .u32 bl[i].addr,encL 8 St.cells bl[i].stmts].getD j .undef:=by rw [hK,zD];rfl
  have kf39:Kf.get 39=.agg [.int .u32 bl[i].addr,encL 8 St.cells bl[i].stmts]:=by rw [hK,zD];rfl
  have kf2:Kf.get 2=encP 2 [.int .u32 ad,encL 2 Bl.cells bl]:=by rw [hK,zD];rfl
  have kf3:Kf.get 3=encP 2 [.int .u32 ad,encL 2 Bl.cells bl]:=by rw [hK,zD];rfl
  have kf5:Kf.get 5=.int .i64 i:=by rw [hK,zD];rfl
  simp only [zui,zo2,zqR,and_true]
  (repeat' with_reducible apply And.intro)
  all_goals (rw [hH];simp only [zma,zbh,List.getD_cons_succ,List.getD_cons_zero,hsOf,hsAt,beqL,ziq,Nat.reduceBEq,Bool.and_true,Bool.true_and,Bool.and_false,Bool.false_and,cond_true,cond_false,List.length_cons,List.length_nil,Nat.reduceAdd])
  all_goals (simp (disch:=try exact dis1) only [evD,Nat.reduceBEq,Nat.reduceAdd,Nat.reduceLeDiff,zrj,zpd,fldP,hg,kf6,kf7,kf30,kf31,kf32,kf33,kf34,kf35,kf36,kf37,kf38,kf39,kf2,kf3,kf5])
  all_goals (first | done | omega | trace_state)
 · exact h1
 · exact h2
theorem sg_l1 {Q:QT} (ad:Int) (bl:List Bl) (i:Nat) (hi:i < bl.length) (hi2:i≤1000000)
  (hfin:∀ K H nx,Ent 0 K H nx [(2,encP 2 [.int .u32 ad,encL 2 Bl.cells bl]),(3,encP 2 [.int .u32 ad,encL 2 Bl.cells bl]),(5, .int .i64 ((i+1:Nat):Int))] [] 0→Q .normal K H nx)
  {K:Kn} {H:AH} {nx:Nat} (hent:Ent 0 K H nx [(2,encP 2 [.int .u32 ad,encL 2 Bl.cells bl]),(3,encP 2 [.int .u32 ad,encL 2 Bl.cells bl]),(5, .int .i64 i),(6, .ptr 0 0 0 0 0),(7, .ptr 1 0 0 0 0),(8, .int .i64 0)] [(0, .row 2 [[.int .u32 bl[i].addr,encL 8 St.cells bl[i].stmts]] 0),(1, .row 2 [[.int .u32 bl[i].addr,encL 8 St.cells bl[i].stmts]] 0)] 2) :
  zhW Tryz.prog 0 zc2 (zaZ 2 (zaZ 1 (seqQ Tryz.prog 0 zcV Q))) K H nx:=by
 have hB:=hBig
 generalize bl[i].addr=ad2 at *
 generalize bl[i].stmts=l at *
 refine zg (fun k:Nat=>([(2,encP 2 [.int .u32 ad,encL 2 Bl.cells bl]),(3,encP 2 [.int .u32 ad,encL 2 Bl.cells bl]),(5, .int .i64 i),(6, .ptr 0 0 0 0 0),(7, .ptr 1 0 0 0 0),(8, .int .i64 k)],[(0, .row 2 [[.int .u32 ad2,encL 8 St.cells l]] 0),(1, .row 2 [[.int .u32 ad2,encL 8 St.cells l]] 0)])) 2
  (fun k=>k≤l.length) (fun k=>l.length - k) 0 (Nat.zero_le _) hent ?_
 rintro k hk wf
 unfold zc2
 by_cases hkl:k < l.length
 ·
  have hgm:=zp (f:=St.cells) (d:=[]) hkl
  have hss:=znz l[k] l[k]
  rw [zAE] at hss
  (repeat first | simp (disch:=try exact dis1) only [evD,Nat.reduceBEq,Nat.reduceAdd,Nat.reduceLeDiff,fldP,dT,hgm,St.len,St.eight] | with_reducible intro _ | ((with_reducible apply And.intro);omega))
  refine zbl (zk hss rfl) ?_
  (repeat first | simp (disch:=try exact dis1) only [evD,Nat.reduceBEq,Nat.reduceAdd,Nat.reduceLeDiff] | with_reducible intro _ | ((with_reducible apply And.intro);omega))
  exact ⟨k+1,by omega,by omega,(Ent.tab [(0,0,0),(1,1,0)] [] rfl (by (try simp only [evWB,Nat.reduceBEq,Nat.reduceAdd,Nat.reduceSub,Nat.reduceLeDiff,Nat.reduceLT,implies_true])<;>exact fin2) (by (try simp only [evWB,Nat.reduceBEq,Nat.reduceAdd,Nat.reduceSub,Nat.reduceLeDiff,Nat.reduceLT,implies_true])<;>exact fin2))⟩
 ·
  (repeat first | simp (disch:=try exact dis1) only [evD,Nat.reduceBEq,Nat.reduceAdd,Nat.reduceLeDiff,fldP,dF] | with_reducible intro _ | ((with_reducible apply And.intro);omega))
  unfold zcV
  (repeat first | simp (disch:=try exact dis1) only [evD,Nat.reduceBEq,Nat.reduceAdd,Nat.reduceLeDiff] | with_reducible intro _ | ((with_reducible apply And.intro);omega))
  refine hfin _ _ _ ?_
  exact (Ent.tab [] [] rfl (by (try simp only [evWB,Nat.reduceBEq,Nat.reduceAdd,Nat.reduceSub,Nat.reduceLeDiff,Nat.reduceLT,implies_true])<;>exact fin2) (by (try simp only [evWB,Nat.reduceBEq,Nat.reduceAdd,Nat.reduceSub,Nat.reduceLeDiff,Nat.reduceLT,implies_true])<;>exact fin2))
theorem zmv (g:G) (hl:g.blocks.length≤1000000):zz Tryz.prog zfC [.agg g.cells, .agg g.cells] (·=.bool true):=by
 refine fn_x zmd rfl ?_
 unfold zhJ
 have hB:=hBig
 obtain ⟨ad,bl⟩:=g
 simp only [G.cells] at hl ⊢
 (repeat first | simp (disch:=try exact dis1) only [evD,Nat.reduceBEq,Nat.reduceAdd,Nat.reduceLeDiff,fldP,dF] | with_reducible intro _ | ((with_reducible apply And.intro);omega))
 refine zg (fun i:Nat=>([(2,encP 2 [.int .u32 ad,encL 2 Bl.cells bl]),(3,encP 2 [.int .u32 ad,encL 2 Bl.cells bl]),(5, .int .i64 i)],[])) 0 (fun i=>i≤bl.length) (fun i=>bl.length - i) 0 (Nat.zero_le _) (Ent.keep rfl fin5) ?_
 rintro i hi wf
 unfold ze4
 by_cases hil:i < bl.length
 ·
  (repeat first | simp (disch:=try exact dis1) only [evD,Nat.reduceBEq,Nat.reduceAdd,Nat.reduceLeDiff,fldP,dT] | with_reducible intro _ | ((with_reducible apply And.intro);omega))
  refine zBa (by repeat' first | exact QExt.retK | apply QExt.seq | apply QExt.block | apply QExt.loop | apply QExt.join | assumption) ad bl i hil ?_ ?_
  ·
   (repeat first | simp (disch:=try exact dis1) only [evD,Nat.reduceBEq,Nat.reduceAdd,Nat.reduceLeDiff,zP,dF,fldP] | with_reducible intro _ | ((with_reducible apply And.intro);omega))
   refine sg_l1 ad bl i hil (by omega) ?_ ?_
   ·
    intro K2 H2 nx2 he
    exact ⟨i+1,by omega,by show bl.length - (i+1) < bl.length - i;omega,he⟩
   · exact (Ent.tab [(0,0,0),(1,1,0)] [] rfl (by (try simp only [evWB,Nat.reduceBEq,Nat.reduceAdd,Nat.reduceSub,Nat.reduceLeDiff,Nat.reduceLT,implies_true])<;>exact fin2) (by (try simp only [evWB,Nat.reduceBEq,Nat.reduceAdd,Nat.reduceSub,Nat.reduceLeDiff,Nat.reduceLT,implies_true])<;>exact fin2))
  ·
   (repeat first | simp (disch:=try exact dis1) only [evD,Nat.reduceBEq,Nat.reduceAdd,Nat.reduceLeDiff,zP,dF,fldP] | with_reducible intro _ | ((with_reducible apply And.intro);omega))
   refine sg_l1 ad bl i hil (by omega) ?_ ?_
   ·
    intro K2 H2 nx2 he
    exact ⟨i+1,by omega,by show bl.length - (i+1) < bl.length - i;omega,he⟩
   · exact (Ent.tab [(0,1,0),(1,0,0)] [] rfl (by (try simp only [evWB,Nat.reduceBEq,Nat.reduceAdd,Nat.reduceSub,Nat.reduceLeDiff,Nat.reduceLT,implies_true])<;>exact fin2) (by (try simp only [evWB,Nat.reduceBEq,Nat.reduceAdd,Nat.reduceSub,Nat.reduceLeDiff,Nat.reduceLT,implies_true])<;>exact fin2))
 ·
  (repeat first | simp (disch:=try exact dis1) only [evD,Nat.reduceBEq,Nat.reduceAdd,Nat.reduceLeDiff,fldP,dF] | with_reducible intro _ | ((with_reducible apply And.intro);omega))
  unfold zfj
  (repeat first | simp (disch:=try exact dis1) only [evD,Nat.reduceBEq,Nat.reduceAdd,Nat.reduceLeDiff,zhy] | with_reducible intro _ | ((with_reducible apply And.intro);omega))
  exact ⟨_, .bool _ _,rfl⟩
theorem zvD {g:G} (h:OkG g) (exit:List Int):zqi exit g.blocks=zmr exit g.blocks:=(zyp h.ends (Nat.lt_succ_self _) (Nat.lt_succ_self _)).symm
theorem L25_LivenessDeadExact_ok (g:G) (exit:List Int):zz Tryz.prog zdj [.agg g.cells,za exit] (·=.bool true):=by
 refine fn_x zgF rfl ?_
 unfold zdb
 have hB:=hBig
 have hsm:=zrK g exit
 have hex:=zjM
 cases hs:zqx g exit with
 |
  false =>
  rw [hs] at hsm
  obtain ⟨ad,bl⟩:=g
  simp only [G.cells] at hsm ⊢
  (repeat first | simp (disch:=try exact dis1) only [evD,Nat.reduceBEq,Nat.reduceAdd,Nat.reduceLeDiff,fldP,zls,tab,List.getD_cons_zero,List.getD_cons_succ] | with_reducible intro _ | ((with_reducible apply And.intro);omega))
  refine zi (zk hsm rfl) ?_
  (repeat first | simp (disch:=try exact dis1) only [evD,Nat.reduceBEq,Nat.reduceAdd,Nat.reduceLeDiff] | with_reducible intro _ | ((with_reducible apply And.intro);omega))
  refine zi (zk hex rfl) ?_
  (repeat first | simp (disch:=try exact dis1) only [evD,Nat.reduceBEq,Nat.reduceAdd,Nat.reduceLeDiff,zbA] | with_reducible intro _ | ((with_reducible apply And.intro);omega))
  exact ⟨_, .bool _ _,rfl⟩
 |
  true =>
  rw [hs] at hsm
  obtain ⟨hp,hel⟩:=znN hs
  have hd:=zem g exit _ (hp.good (by omega)) hp.few
  have hr:=ztX g exit (fun hc=>hp.fewD (by omega) hc) hp.few
  have hsame:∃ (x:G) (n:Nat) (e:Int),x.blocks.length≤1000000∧zv4 g exit=.tup [.agg x.cells, .int .i64 n, .int .i64 e]∧zuW g exit=.tup [.agg x.cells, .int .i64 n, .int .i64 e]:=by
   unfold zv4 zuW
   by_cases hc:zdz g=0
   ·
    rw [if_pos hc,if_pos hc,zvD (zxk.1 hc)]
    refine ⟨⟨g.addr,zmr exit g.blocks⟩,_,0,?_,rfl,rfl⟩
    have:=zrW (exit:=exit) (bl:=g.blocks)
    have:=hp.blocks
    simp only
    omega
   ·
    rw [if_neg hc,if_neg hc]
    exact ⟨⟨0,[]⟩,0,zdz g,by simp,rfl,rfl⟩
  obtain ⟨x,n,e,hx,e1,e2⟩:=hsame
  rw [e1] at hd
  rw [e2] at hr
  have hsg:=zmv x hx
  obtain ⟨ad,bl⟩:=g
  obtain ⟨ad2,bl2⟩:=x
  simp only [G.cells] at hsm hd hr hsg ⊢
  (repeat first | simp (disch:=try exact dis1) only [evD,Nat.reduceBEq,Nat.reduceAdd,Nat.reduceLeDiff,fldP,zls,tab,List.getD_cons_zero,List.getD_cons_succ] | with_reducible intro _ | ((with_reducible apply And.intro);omega))
  refine zi (zk hsm rfl) ?_
  (repeat first | simp (disch:=try exact dis1) only [evD,Nat.reduceBEq,Nat.reduceAdd,Nat.reduceLeDiff,fldP,zls,tab,List.getD_cons_zero,List.getD_cons_succ] | with_reducible intro _ | ((with_reducible apply And.intro);omega))
  refine zi (zk hd rfl) ?_
  (repeat first | simp (disch:=try exact dis1) only [evD,Nat.reduceBEq,Nat.reduceAdd,Nat.reduceLeDiff,fldP,zls,tab,List.getD_cons_zero,List.getD_cons_succ] | with_reducible intro _ | ((with_reducible apply And.intro);omega))
  refine zi (zk hr rfl) ?_
  (repeat first | simp (disch:=try exact dis1) only [evD,Nat.reduceBEq,Nat.reduceAdd,Nat.reduceLeDiff,fldP,zls,tab,List.getD_cons_zero,List.getD_cons_succ] | with_reducible intro _ | ((with_reducible apply And.intro);omega))
  refine zi (zk hsg rfl) ?_
  (repeat first | simp (disch:=try exact dis1) only [evD,Nat.reduceBEq,Nat.reduceAdd,Nat.reduceLeDiff,dT] | with_reducible intro _ | ((with_reducible apply And.intro);omega))
  refine zi (zk hex rfl) ?_
  (repeat first | simp (disch:=try exact dis1) only [evD,Nat.reduceBEq,Nat.reduceAdd,Nat.reduceLeDiff,zbA] | with_reducible intro _ | ((with_reducible apply And.intro);omega))
  exact ⟨_, .bool _ _,rfl⟩
end Go.Ab
