/-
  Part 13 of the proof: how the calls of this program run, over values instead of memory, and what each function computes.
-/
import Derived.KernelRfl
import Derived.Test.YtjcbhpmmngfmeaaGreatKl
set_option maxRecDepth 100000
set_option linter.unusedVariables false
set_option linter.unusedSimpArgs false
set_option linter.unnecessarySimpa false
set_option linter.unusedSectionVars false
open Nat renaming le_refl→Wa,le_trans→Wn,zero_le→Wv,zero_add→WR,lt_of_lt_of_le→WX
open List renaming mem_singleton→Wc,length_append→Wf,length_singleton→Wg,mem_map→Wh,getElem?_modify→Wi,getElem?_eq_getElem→Wj,getElem_mem→Wm,take_succ_cons→Wo,getD→Wp,ext_getElem?→Wq,getElem?_mapIdx→Wr,getElem?_eq_some_iff→Ws,mem_mapIdx→Wt,mem_append→Wu,take_length→Wx,getElem_append_left→Wy,getElem_cons_zero→Wz,all_cons→WA,all_nil→WB,mem_cons→WC,map_append→WD,getLast?_eq_getElem?→WF,getElem?_append→WG,take_of_length_le→WH,take_zero→WI,getElem_cons_succ→WJ,map_cons→WL,map_nil→WM,length_pos_iff→WO,getD_cons_zero→WP,getD_cons_succ→WQ,getElem?_set→WS,map_singleton→WU,length_map→WV,mapIdx_append→WY,getElem_append_right→WZ,getElem?_append_left→W0,mem_of_getLast?→W3,mapIdx_cons→W5,findIdx?_eq_some_iff_getElem→W6,length_mapIdx→W7,length_dropLast→W8,getElem?_eq_none→W9,getElem_modify→Waa,length_cons→Wab,length_take→Wac,findIdx?_eq_none_iff→Wae
open Int renaming toNat_natCast→Wd,toNat_zero→WW,toNat_of_nonneg→Wad
open Option renaming map_some→We,map_eq_map→Ww,bind_some→WK
open Bool renaming or_false→Wk,and_self→WN
open And renaming intro→Wl
open Option.some renaming injEq→WE
namespace Go.Ab
open Go.RowKit Go.Proofs
def zg0:ACode:=.seq (.region [ (oK 2 0)] [2]) (.seq (.region [ (oM 3 0),(oX 4 3),(oF 5 0 1 4),(oL 6 5),(oE 7 6),(oM 2 7)] [0,3,4,5,6,7]) (.ret))
def zhb:List ARet:=[.tmp 2]
theorem zlz:zT Tryz.prog zac (qRo [])=some (zg0.strip,zhb,8):=by kernel_rfl
def zhF:ACode:=.seq (.region [ (oN 3 (.box (.t 1))),(oK 4 0)] [1,4]) (.seq (.draw ( .step (oM 5 0) ( .step (oM 6 0) ( .step (oX 7 6) ( .step (oF 8 0 1 7) ( .alt (oL 9 8) ( .alt (oA 10 3 3) ( .alt (oN 11 (.buildSl 3 1 [.int .i64 0,.int .i64 0,.nilsl] [(0,(.t 10))])) ( .alt (oN 12 (.append 3 40 (.t 9) (.t 11))) ( .step (oX 13 5) ( .step (oF 14 0 1 13) ( .alt (oS 1 14 12) ( .done) ( .stop)))) ( .stop)) ( .stop)) ( .stop)) ( .alt (oA 10 3 3) ( .alt (oL 9 8) ( .alt (oN 11 (.buildSl 3 1 [.int .i64 0,.int .i64 0,.nilsl] [(0,(.t 10))])) ( .alt (oN 12 (.append 3 40 (.t 9) (.t 11))) ( .step (oX 13 5) ( .step (oF 14 0 1 13) ( .alt (oS 1 14 12) ( .done) ( .stop)))) ( .stop)) ( .stop)) ( .alt (oN 11 (.buildSl 3 1 [.int .i64 0,.int .i64 0,.nilsl] [(0,(.t 10))])) ( .step (oL 9 8) ( .alt (oN 12 (.append 3 40 (.t 9) (.t 11))) ( .step (oX 13 5) ( .step (oF 14 0 1 13) ( .alt (oS 1 14 12) ( .done) ( .stop)))) ( .stop))) ( .stop))) ( .stop))))))) [3,5,6,7,8,9,10,11,12,13,14]) (.seq (.region [ (oM 15 0),(oX 16 15),(oF 17 0 1 16),(oL 18 17),(oE 19 18),(oC 20 .sub 19 1),(oM 4 20)] [0,15,16,17,18,19,20]) (.ret)))
def zhB:List ARet:=[.tmp 4]
theorem zlY:zT Tryz.prog zah (qRo [])=some (zhF.strip,zhB,21):=by kernel_rfl
def zhi:ACode:=.seq (.region [ (oK 4 0)] [4]) (.seq (.region [ (oM 5 0),(oM 6 1),(oN 7 (.buildSl 1 1 [.int .i64 0] [(0,(.t 6))])),(oN 8 (.build [.int .i64 0,.int .i64 0,.nilsl] [(0,1,(.c (.int .i64 1))),(2,1,(.t 7))])),(oN 9 (.call zah [(.t 5),(.t 8)])),(oM 4 9)] [0,1,5,6,7,8,9]) (.ret))
def zhc:List ARet:=[.tmp 4]
theorem zln:zT Tryz.prog zq (qRo [])=some (zhi.strip,zhc,10):=by kernel_rfl
def zI:ACode:=.seq (.region [ (oN 2 (.box (.t 0))),(oN 3 (.rbox (.t 1)))] [0,1]) (.seq (.region [ (oF 5 0 1 3),(oL 6 5)] [5]) (.block 0 (.seq (.region [ (oC 8 .eql 6 1),(oM 7 8)] [8]) (.cond (.t 7) (.region [ (oL 9 2),(oF 10 4 1 3),(oL 11 10),(oN 12 (.call zdo [(.t 9),(.t 11)]))] [2,3,6,7,9,10,11,12]) (.seq (.region [ (oC 14 .eql 6 2),(oM 13 14)] [7,14]) (.cond (.t 13) (.region [ (oL 15 2),(oF 16 1 1 3),(oL 17 16),(oN 18 (.build [.int .i64 0,.int .i64 0,.nilsl] [(0,1,(.c (.int .i64 0))),(1,1,(.t 17))])),(oN 19 (.call zah [(.t 15),(.t 18)]))] [2,3,6,13,15,16,17,18,19]) (.seq (.seq (.region [ (oC 21 .eql 6 3),(oM 20 21)] [13,21]) (.cond (.t 20) (.skip) (.region [ (oC 22 .eql 6 6),(oM 20 22)] [22]))) (.cond (.t 20) (.region [ (oL 23 2),(oF 24 4 1 3),(oL 25 24),(oN 26 (.call zcB [(.t 23),(.t 25)]))] [2,3,6,20,23,24,25,26]) (.seq (.region [ (oC 28 .eql 6 4),(oM 27 28)] [20,28]) (.cond (.t 27) (.region [ (oL 29 2),(oF 30 4 1 3),(oL 31 30),(oN 32 (.call zcT [(.t 29),(.t 31),(.c (.fn (.func zbw) []))]))] [2,3,6,27,29,30,31,32]) (.seq (.region [ (oC 34 .eql 6 5),(oM 33 34)] [27,34]) (.cond (.t 33) (.region [ (oL 35 2),(oF 36 4 1 3),(oL 37 36),(oN 38 (.mkfn (.func zbv) [(.t 2),(.t 3)])),(oN 39 (.call zcT [(.t 35),(.t 37),(.t 38)]))] [2,3,6,33,35,36,37,38,39]) (.seq (.region [ (oC 41 .eql 6 7),(oM 40 41)] [33,41]) (.cond (.t 40) (.seq (.draw ( .step (oL 42 2) ( .step (oX 43 42) ( .step (oF 44 1 1 43) ( .step (oL 45 44) ( .step (oL 46 2) ( .step (oX 47 46) ( .step (oF 48 1 1 47) ( .step (oL 49 48) ( .step (oE 50 49) ( .step (oC 51 .sub 50 1) ( .step (oI 52 1 45 51) ( .step (oL 53 52) ( .step (oM 4 53) ( .done)))))))))))))) [3,6,40,42,43,44,45,46,47,48,49,50,51,52,53]) (.draw ( .step (oM 54 4) ( .step (oM 55 4) ( .step (oX 56 55) ( .step (oF 57 1 1 56) ( .alt (oL 58 57) ( .alt (oL 59 2) ( .alt (oN 60 (.call zq [(.t 59),(.c (.int .i64 0))])) ( .alt Yaq ( .alt (oN 62 (.append 1 8 (.t 58) (.t 61))) ( .step (oX 63 54) ( .step (oF 64 1 1 63) ( .alt (oS 1 64 62) ( .done) ( .stop)))) ( .stop)) ( .stop)) ( .stop)) ( .stop)) ( .alt (oL 59 2) ( .alt (oL 58 57) ( .alt (oN 60 (.call zq [(.t 59),(.c (.int .i64 0))])) ( .alt Yaq ( .alt (oN 62 (.append 1 8 (.t 58) (.t 61))) ( .step (oX 63 54) ( .step (oF 64 1 1 63) ( .alt (oS 1 64 62) ( .done) ( .stop)))) ( .stop)) ( .stop)) ( .stop)) ( .alt (oN 60 (.call zq [(.t 59),(.c (.int .i64 0))])) ( .alt (oL 58 57) ( .alt Yaq ( .alt (oN 62 (.append 1 8 (.t 58) (.t 61))) ( .step (oX 63 54) ( .step (oF 64 1 1 63) ( .alt (oS 1 64 62) ( .done) ( .stop)))) ( .stop)) ( .stop)) ( .alt Yaq ( .step (oL 58 57) ( .alt (oN 62 (.append 1 8 (.t 58) (.t 61))) ( .step (oX 63 54) ( .step (oF 64 1 1 63) ( .alt (oS 1 64 62) ( .done) ( .stop)))) ( .stop))) ( .stop))) ( .stop))) ( .stop))))))) [2,4,54,55,56,57,58,59,60,61,62,63,64])) (.seq (.region [ (oC 66 .eql 6 8),(oM 65 66)] [40,66]) (.cond (.t 65) (.draw ( .step (oL 67 2) ( .alt (oL 68 2) ( .step (oX 69 68) ( .step (oF 70 1 1 69) ( .alt (oL 71 70) ( .alt (oL 72 2) ( .step (oX 73 72) ( .step (oF 74 1 1 73) ( .alt (oL 75 74) ( .step (oE 76 75) ( .step (oC 77 .sub 76 1) ( .alt (oI 78 1 71 77) ( .alt (oL 79 78) ( .step (oX 80 79) ( .step (oF 81 0 1 80) ( .step (oL 82 81) ( .alt (oN 83 (.call zq [(.t 67),(.t 82)])) ( .done) ( .stop))))) ( .stop)) ( .stop)))) ( .stop)))) ( .stop)) ( .alt (oL 72 2) ( .step (oX 73 72) ( .step (oF 74 1 1 73) ( .alt (oL 71 70) ( .alt (oL 75 74) ( .step (oE 76 75) ( .step (oC 77 .sub 76 1) ( .alt (oI 78 1 71 77) ( .alt (oL 79 78) ( .step (oX 80 79) ( .step (oF 81 0 1 80) ( .step (oL 82 81) ( .alt (oN 83 (.call zq [(.t 67),(.t 82)])) ( .done) ( .stop))))) ( .stop)) ( .stop)))) ( .stop)) ( .alt (oL 75 74) ( .step (oE 76 75) ( .step (oC 77 .sub 76 1) ( .alt (oL 71 70) ( .alt (oI 78 1 71 77) ( .alt (oL 79 78) ( .step (oX 80 79) ( .step (oF 81 0 1 80) ( .step (oL 82 81) ( .alt (oN 83 (.call zq [(.t 67),(.t 82)])) ( .done) ( .stop))))) ( .stop)) ( .stop)) ( .stop)))) ( .stop))))) ( .stop))))) ( .alt (oL 72 2) ( .step (oX 73 72) ( .step (oF 74 1 1 73) ( .alt (oL 68 2) ( .step (oX 69 68) ( .step (oF 70 1 1 69) ( .alt (oL 71 70) ( .alt (oL 75 74) ( .step (oE 76 75) ( .step (oC 77 .sub 76 1) ( .alt (oI 78 1 71 77) ( .alt (oL 79 78) ( .step (oX 80 79) ( .step (oF 81 0 1 80) ( .step (oL 82 81) ( .alt (oN 83 (.call zq [(.t 67),(.t 82)])) ( .done) ( .stop))))) ( .stop)) ( .stop)))) ( .stop)) ( .alt (oL 75 74) ( .step (oE 76 75) ( .step (oC 77 .sub 76 1) ( .alt (oL 71 70) ( .alt (oI 78 1 71 77) ( .alt (oL 79 78) ( .step (oX 80 79) ( .step (oF 81 0 1 80) ( .step (oL 82 81) ( .alt (oN 83 (.call zq [(.t 67),(.t 82)])) ( .done) ( .stop))))) ( .stop)) ( .stop)) ( .stop)))) ( .stop))))) ( .alt (oL 75 74) ( .step (oE 76 75) ( .step (oC 77 .sub 76 1) ( .alt (oL 68 2) ( .step (oX 69 68) ( .step (oF 70 1 1 69) ( .alt (oL 71 70) ( .alt (oI 78 1 71 77) ( .alt (oL 79 78) ( .step (oX 80 79) ( .step (oF 81 0 1 80) ( .step (oL 82 81) ( .alt (oN 83 (.call zq [(.t 67),(.t 82)])) ( .done) ( .stop))))) ( .stop)) ( .stop)) ( .stop)))) ( .stop)))) ( .stop))))) ( .stop)))) [2,3,6,65,67,68,69,70,71,72,73,74,75,76,77,78,79,80,81,82,83]) (.seq (.region [ (oC 85 .eql 6 9),(oM 84 85)] [65,85]) (.cond (.t 84) (.draw ( .step (oL 90 2) ( .step (oF 92 2 1 3) ( .alt (oL 86 2) ( .step (oX 87 86) ( .step (oF 88 3 1 87) ( .alt (oL 89 88) ( .alt (oN 91 (.call zq [(.t 90),(.c (.int .i64 0))])) ( .step (oL 93 92) ( .alt ⟨none,.xop (.mset (some .i64)) [(.t 89),(.t 91),(.t 93)],none⟩ ( .done) ( .stop))) ( .alt (oL 93 92) ( .alt (oN 91 (.call zq [(.t 90),(.c (.int .i64 0))])) ( .alt ⟨none,.xop (.mset (some .i64)) [(.t 89),(.t 91),(.t 93)],none⟩ ( .done) ( .stop)) ( .stop)) ( .stop))) ( .alt (oN 91 (.call zq [(.t 90),(.c (.int .i64 0))])) ( .step (oL 89 88) ( .step (oL 93 92) ( .alt ⟨none,.xop (.mset (some .i64)) [(.t 89),(.t 91),(.t 93)],none⟩ ( .done) ( .stop)))) ( .alt (oL 93 92) ( .alt (oL 89 88) ( .alt (oN 91 (.call zq [(.t 90),(.c (.int .i64 0))])) ( .alt ⟨none,.xop (.mset (some .i64)) [(.t 89),(.t 91),(.t 93)],none⟩ ( .done) ( .stop)) ( .stop)) ( .alt (oN 91 (.call zq [(.t 90),(.c (.int .i64 0))])) ( .step (oL 89 88) ( .alt ⟨none,.xop (.mset (some .i64)) [(.t 89),(.t 91),(.t 93)],none⟩ ( .done) ( .stop))) ( .stop))) ( .stop)))))) ( .alt (oN 91 (.call zq [(.t 90),(.c (.int .i64 0))])) ( .step (oL 86 2) ( .step (oX 87 86) ( .step (oF 88 3 1 87) ( .step (oL 89 88) ( .step (oL 93 92) ( .alt ⟨none,.xop (.mset (some .i64)) [(.t 89),(.t 91),(.t 93)],none⟩ ( .done) ( .stop))))))) ( .alt (oL 93 92) ( .alt (oL 86 2) ( .step (oX 87 86) ( .step (oF 88 3 1 87) ( .alt (oL 89 88) ( .alt (oN 91 (.call zq [(.t 90),(.c (.int .i64 0))])) ( .alt ⟨none,.xop (.mset (some .i64)) [(.t 89),(.t 91),(.t 93)],none⟩ ( .done) ( .stop)) ( .stop)) ( .alt (oN 91 (.call zq [(.t 90),(.c (.int .i64 0))])) ( .step (oL 89 88) ( .alt ⟨none,.xop (.mset (some .i64)) [(.t 89),(.t 91),(.t 93)],none⟩ ( .done) ( .stop))) ( .stop))))) ( .alt (oN 91 (.call zq [(.t 90),(.c (.int .i64 0))])) ( .step (oL 86 2) ( .step (oX 87 86) ( .step (oF 88 3 1 87) ( .step (oL 89 88) ( .alt ⟨none,.xop (.mset (some .i64)) [(.t 89),(.t 91),(.t 93)],none⟩ ( .done) ( .stop)))))) ( .stop))) ( .stop)))))) [2,3,6,84,86,87,88,89,90,91,92,93]) (.seq (.region [ (oC 95 .eql 6 10),(oM 94 95)] [84,95]) (.cond (.t 94) (.draw ( .step (oL 96 2) ( .step (oX 97 96) ( .step (oF 98 2 1 97) ( .step (oL 99 98) ( .step (oF 100 2 1 3) ( .step (oL 101 100) ( .step (oL 102 2) ( .step (oN 103 (.callq zac [(.t 102)])) ( .alt ⟨none,.xop (.mset (some .i64)) [(.t 99),(.t 101),(.t 103)],none⟩ ( .done) ( .stop)))))))))) [2,3,6,94,96,97,98,99,100,101,102,103]) (.seq (.seq (.region [ (oC 105 .eql 6 11),(oM 104 105)] [3,94,105]) (.cond (.t 104) (.skip) (.region [ (oC 106 .eql 6 12),(oM 104 106)] [6,106]))) (.cond (.t 104) (.region [ (oL 107 2),(oN 108 (.build [.int .i64 0,.int .i64 0,.nilsl] [(0,1,(.c (.int .i64 2)))])),(oN 109 (.call zah [(.t 107),(.t 108)]))] [2,6,104,107,108,109]) (.skip)))))))))))))))))))))))
def zD:List ARet:=[]
theorem zN:zT Tryz.prog zbY (qRoL [3] [(15,[0,1,2,3,4,5,7,8,9,10,11,12,13,14,15,16,17,18,19,20,21,22,23,24,25,26,27,28,29,30,31,32,33,34,35,36,37,38,39,40,41,42,43,44,45,46,47,48,49,50,51,52,53,54,55,56,57,58,59,60,61,62,63,64,65,66,67,68,69,70,71,72,73,74,75,76,77,78,79,80,81,82,83,84,85,86,87,88,89,90,91,92,93,94,95,96,97,98,99,100,101,102,103,104,105,106,107,108,109,110,111,112,113,114,115,116,117,118,119,120,121,122,123,124,125,126,127,128,129,130,131,132,133,134,135,136,137,138,139,140,141,142,143,144,145,146,147,148,149]),(17,[0,1,2,3,4,5,6,7,8,9,10,11,12,13,14,15,17,18,19,20,21,22,23,24,25,26,27,28,29,30,31,32,33,34,35,36,37,38,39,40,41,42,43,44,45,46,47,48,49,50,51,52,53,54,55,56,57,58,59,60,61,62,63,64,65,66,67,68,69,70,71,72,73,74,75,76,77,78,79,80,81,82,83,84,85,86,87,88,89,90,91,92,93,94,95,96,97,98,99,100,101,102,103,104,105,106,107,108,109,110,111,112,113,114,115,116,117,118,119,120,121,122,123,124,125,126,127,128,129,130,131,132,133,134,135,136,137,138,139,140,141,142,143,144,145,146,147,148,149]),(19,[0,1,2,3,4,6,7,8,9,10,11,12,13,14,15,16,17,18,19,20,21,22,23,24,25,26,27,28,29,30,31,32,33,34,35,36,37,38,39,40,41,42,43,44,45,46,47,48,49,50,51,52,53,54,55,56,57,58,59,60,61,62,63,64,65,66,67,68,69,70,71,72,73,74,75,76,77,78,79,80,81,82,83,84,85,86,87,88,89,90,91,92,93,94,95,96,97,98,99,100,101,102,103,104,105,106,107,108,109,110,111,112,113,114,115,116,117,118,119,120,121,122,123,124,125,126,127,128,129,130,131,132,133,134,135,136,137,138,139,140,141,142,143,144,145,146,147,148,149])])=some (zI.strip,zD,110):=by kernel_rfl
def zfB:ACode:=.seq (.region [ (oB 9 .lss 8 7)] []) (.seq (.cond (.t 9) (.skip) (.exit 0)) (.seq (.block 1 (.seq (.region [ (oI 10 5 6 8),(oA 11 5 10),(oN 5 (.alloc [.int .i64 0,.int .i64 0,.int .i64 0,.nilsl,.nilsl])),(oS 5 5 11)] [9,10,11]) (.region [ (oM 12 0),(oA 13 5 5),(oN 14 (.call zbY [(.t 12),(.t 13)]))] [5,12,13,14]))) (.region [ (oC 15 .add 8 1),(oM 8 15)] [15])))
def zhK:ACode:=.seq (.region [ (oM 6 1),(oE 7 6),(oK 8 0)] [1]) (.block 0 (.loop zfB))
def zhO:List ARet:=[]
theorem zlU:zT Tryz.prog zdo (qRo [])=some (zhK.strip,zhO,16):=by kernel_rfl
def zdc:ACode:=.seq (.region [ (oM 38 0),(oA 39 5 7),(oN 40 (.call zbY [(.t 38),(.t 39)]))] [7,38,39,40]) (.region [ (oM 41 5),(oM 42 0),(oN 43 (.call zq [(.t 42),(.c (.int .i64 0))])),(oN 44 (.buildSl 1 1 [.int .i64 0] [(0,(.t 43))])),(oN 45 (.append 1 8 (.t 41) (.t 44))),(oM 5 45)] [41,42,43,44,45])
def zda:ACode:=.seq (.region [ (oB 16 .lss 15 14)] []) (.seq (.cond (.t 16) (.skip) (.exit 0)) (.seq (.block 1 (.seq (.region [ (oI 17 5 13 15),(oA 18 5 17),(oN 7 (.alloc [.int .i64 0,.int .i64 0,.int .i64 0,.nilsl,.nilsl])),(oS 5 7 18)] [16,17,18]) (.join (.draw ( .step (oM 19 0) ( .step (oX 20 19) ( .step (oF 21 0 1 20) ( .step (oM 23 4) ( .step (oM 24 0) ( .step (oX 25 24) ( .step (oF 26 0 1 25) ( .step (oM 28 4) ( .step (oM 32 0) ( .step (oN 33 (.callq zac [(.t 32)])) ( .alt (oL 22 21) ( .alt (oL 27 26) ( .alt Yak ( .step Yal ( .alt (oL 31 30) ( .alt Yah ( .alt Yad ( .alt Yae ( .step Yaf ( .alt Yag ( .done) ( .stop))) ( .stop)) ( .stop)) ( .stop)) ( .alt Yah ( .step (oL 31 30) ( .alt Yad ( .alt Yae ( .step Yaf ( .alt Yag ( .done) ( .stop))) ( .stop)) ( .stop))) ( .stop)))) ( .alt Yah ( .alt Yak ( .step Yal ( .step (oL 31 30) ( .alt Yad ( .alt Yae ( .step Yaf ( .alt Yag ( .done) ( .stop))) ( .stop)) ( .stop)))) ( .stop)) ( .stop))) ( .alt Yah ( .alt (oL 27 26) ( .alt Yak ( .step Yal ( .step (oL 31 30) ( .alt Yad ( .alt Yae ( .step Yaf ( .alt Yag ( .done) ( .stop))) ( .stop)) ( .stop)))) ( .stop)) ( .stop)) ( .stop))) ( .alt (oL 27 26) ( .alt (oL 22 21) ( .alt Yak ( .step Yal ( .alt (oL 31 30) ( .alt Yah ( .alt Yad ( .alt Yae ( .step Yaf ( .alt Yag ( .done) ( .stop))) ( .stop)) ( .stop)) ( .stop)) ( .alt Yah ( .step (oL 31 30) ( .alt Yad ( .alt Yae ( .step Yaf ( .alt Yag ( .done) ( .stop))) ( .stop)) ( .stop))) ( .stop)))) ( .alt Yah ( .alt Yak ( .step Yal ( .step (oL 31 30) ( .alt Yad ( .alt Yae ( .step Yaf ( .alt Yag ( .done) ( .stop))) ( .stop)) ( .stop)))) ( .stop)) ( .stop))) ( .alt Yak ( .step Yal ( .alt (oL 22 21) ( .alt (oL 31 30) ( .alt Yah ( .alt Yad ( .alt Yae ( .step Yaf ( .alt Yag ( .done) ( .stop))) ( .stop)) ( .stop)) ( .stop)) ( .alt Yah ( .step (oL 31 30) ( .alt Yad ( .alt Yae ( .step Yaf ( .alt Yag ( .done) ( .stop))) ( .stop)) ( .stop))) ( .stop))) ( .alt (oL 31 30) ( .alt (oL 22 21) ( .alt Yah ( .alt Yad ( .alt Yae ( .step Yaf ( .alt Yag ( .done) ( .stop))) ( .stop)) ( .stop)) ( .stop)) ( .alt Yah ( .alt (oL 22 21) ( .alt Yad ( .alt Yae ( .step Yaf ( .alt Yag ( .done) ( .stop))) ( .stop)) ( .stop)) ( .alt Yad ( .step (oL 22 21) ( .alt Yae ( .step Yaf ( .alt Yag ( .done) ( .stop))) ( .stop))) ( .stop))) ( .stop))) ( .alt Yah ( .step (oL 31 30) ( .alt (oL 22 21) ( .alt Yad ( .alt Yae ( .step Yaf ( .alt Yag ( .done) ( .stop))) ( .stop)) ( .stop)) ( .alt Yad ( .step (oL 22 21) ( .alt Yae ( .step Yaf ( .alt Yag ( .done) ( .stop))) ( .stop))) ( .stop)))) ( .stop))))) ( .alt Yah ( .alt (oL 22 21) ( .alt Yak ( .step Yal ( .step (oL 31 30) ( .alt Yad ( .alt Yae ( .step Yaf ( .alt Yag ( .done) ( .stop))) ( .stop)) ( .stop)))) ( .stop)) ( .alt Yak ( .step Yal ( .step (oL 31 30) ( .alt (oL 22 21) ( .alt Yad ( .alt Yae ( .step Yaf ( .alt Yag ( .done) ( .stop))) ( .stop)) ( .stop)) ( .alt Yad ( .step (oL 22 21) ( .alt Yae ( .step Yaf ( .alt Yag ( .done) ( .stop))) ( .stop))) ( .stop))))) ( .stop))) ( .stop)))) ( .alt Yah ( .alt (oL 22 21) ( .alt (oL 27 26) ( .alt Yak ( .step Yal ( .step (oL 31 30) ( .alt Yad ( .alt Yae ( .step Yaf ( .alt Yag ( .done) ( .stop))) ( .stop)) ( .stop)))) ( .stop)) ( .stop)) ( .alt (oL 27 26) ( .alt (oL 22 21) ( .alt Yak ( .step Yal ( .step (oL 31 30) ( .alt Yad ( .alt Yae ( .step Yaf ( .alt Yag ( .done) ( .stop))) ( .stop)) ( .stop)))) ( .stop)) ( .alt Yak ( .step Yal ( .step (oL 31 30) ( .alt (oL 22 21) ( .alt Yad ( .alt Yae ( .step Yaf ( .alt Yag ( .done) ( .stop))) ( .stop)) ( .stop)) ( .alt Yad ( .step (oL 22 21) ( .alt Yae ( .step Yaf ( .alt Yag ( .done) ( .stop))) ( .stop))) ( .stop))))) ( .stop))) ( .stop))) ( .stop)))))))))))))) [19,20,21,22,23,24,25,26,27,28,29,30,31,32,33,34,35,36,37]) (zdc)))) (.region [ (oC 46 .add 15 1),(oM 15 46)] [46])))
def zde:ACode:=.seq (.region [ (oB 50 .lss 49 48)] []) (.seq (.cond (.t 50) (.skip) (.exit 2)) (.seq (.block 3 (.seq (.region [ (oI 51 1 47 49),(oL 52 51),(oM 9 52)] [50,51,52]) (.draw ( .step (oM 53 0) ( .step (oX 54 53) ( .step (oF 55 0 1 54) ( .step (oL 56 55) ( .step (oM 57 9) ( .step (oI 58 3 56 57) ( .step (oF 59 2 1 58) ( .step (oL 60 59) ( .step (oM 61 0) ( .step (oN 62 (.callq zac [(.t 61)])) ( .step (oN 63 (.idx 1 (.t 60) (.c (.int .i64 0)))) ( .alt (oS 1 63 62) ( .done) ( .stop))))))))))))) [9,53,54,55,56,57,58,59,60,61,62,63]))) (.region [ (oC 64 .add 49 1),(oM 49 64)] [64])))
def zdl:ACode:=.seq (.region [ (oM 47 5),(oE 48 47),(oK 49 0)] [4,5,13,14,15]) (.block 2 (.loop zde))
def zep:ACode:=.seq (.region [ (oM 10 0),(oN 11 (.build [.int .i64 0,.int .i64 0,.nilsl] [(0,1,(.c (.int .i64 1))),(1,1,(.c (.int .i64 (-1))))])),(oN 12 (.call zah [(.t 10),(.t 11)])),(oM 4 12)] [10,11,12]) (.seq (.region [ (oN 5 (.mknil 1))] []) (.seq (.seq (.region [ (oM 13 1),(oE 14 13),(oK 15 0)] [1]) (.block 0 (.loop zda))) (zdl)))
def zek:List ARet:=[]
theorem ziR:zT Tryz.prog zcB (qRo [])=some (zep.strip,zek,65):=by kernel_rfl
def zfc:ACode:=.seq (.region [ (oB 55 .lss 54 53)] []) (.seq (.cond (.t 55) (.skip) (.exit 0)) (.seq (.block 1 (.seq (.region [ (oI 56 1 52 54),(oL 57 56),(oM 9 57)] [55,56,57]) (.draw ( .step (oM 58 0) ( .step (oX 59 58) ( .step (oF 60 0 1 59) ( .step (oL 61 60) ( .step (oM 62 9) ( .step (oI 63 3 61 62) ( .step (oF 64 2 1 63) ( .step (oL 65 64) ( .step (oM 66 0) ( .step (oN 67 (.callq zac [(.t 66)])) ( .step (oN 68 (.idx 1 (.t 65) (.c (.int .i64 0)))) ( .alt (oS 1 68 67) ( .done) ( .stop))))))))))))) [9,58,59,60,61,62,63,64,65,66,67,68]))) (.region [ (oC 69 .add 54 1),(oM 54 69)] [69])))
def ze9:ACode:=.seq (.region [ (oM 70 7),(oC 71 .geq 70 0)] [52,53,54,70]) (.cond (.t 71) (.draw ( .step (oM 72 0) ( .step (oX 73 72) ( .step (oF 74 0 1 73) ( .step (oL 75 74) ( .step (oM 76 7) ( .step (oI 77 3 75 76) ( .step (oF 78 2 1 77) ( .step (oL 79 78) ( .step (oM 80 0) ( .step (oN 81 (.callq zac [(.t 80)])) ( .step (oN 82 (.idx 1 (.t 79) (.c (.int .i64 1)))) ( .alt (oS 1 82 81) ( .done) ( .stop))))))))))))) [0,7,71,72,73,74,75,76,77,78,79,80,81,82]) (.skip))
def zeY:ACode:=.seq (.region [ (oM 26 0),(oM 27 1),(oN 28 (.call zdo [(.t 26),(.t 27)]))] [1,26,27,28]) (.seq (.draw ( .step (oM 29 0) ( .step (oM 30 0) ( .step (oX 31 30) ( .step (oF 32 1 1 31) ( .step (oL 33 32) ( .step (oM 34 0) ( .step (oX 35 34) ( .step (oF 36 1 1 35) ( .step (oL 37 36) ( .step (oE 38 37) ( .step (oC 39 .sub 38 1) ( .step (oN 40 (.slice 1 (.t 33) none (some (.t 39)))) ( .step (oX 41 29) ( .step (oF 42 1 1 41) ( .alt (oS 1 42 40) ( .done) ( .stop)))))))))))))))) [29,30,31,32,33,34,35,36,37,38,39,40,41,42]) (.seq (.region [ (oM 43 0),(oM 44 6),(oX 45 44),(oF 46 0 1 45),(oL 47 46),(oN 48 (.call zq [(.t 43),(.t 47)]))] [43,44,45,46,47,48]) (.seq (.seq (.region [ (oM 49 6),(oX 50 49),(oF 51 1 1 50),(oL 52 51),(oE 53 52),(oK 54 0)] [6,49,50,51]) (.block 0 (.loop zfc))) (ze9))))
def zhd:ACode:=.seq (.region [ (oM 10 0),(oN 11 (.call zac [(.t 10)])),(oN 12 (.build [.int .i64 0,.nilsl] [(0,1,(.t 11))])),(oN 13 (.box (.t 12))),(oM 6 13)] [10,11,12,13]) (.seq (.region [ (oM 14 2),(oN 15 (.callv (.t 14) [])),(oM 7 15)] [2,14,15]) (.seq (.region [ (oM 16 0),(oM 17 0),(oX 18 17),(oF 19 1 1 18),(oL 20 19),(oM 21 6),(oN 22 (.buildSl 1 1 [.nilp] [(0,(.t 21))])),(oN 23 (.append 1 8 (.t 20) (.t 22))),(oX 24 16),(oF 25 1 1 24),(oS 1 25 23)] [16,17,18,19,20,21,22,23,24,25]) (.mark 2 (zeY))))
def zd5:List ARet:=[]
theorem zle:zT Tryz.prog zcT (qRo [])=some (zhd.strip,zd5,83):=by kernel_rfl
def zfN:ACode:=.seq (.region [ (oK 0 0)] [0]) (.seq (.region [ (oK 0 (-1))] []) (.ret))
def zfQ:List ARet:=[.tmp 0]
theorem zjX:zT Tryz.prog zbw (qRo [])=some (zfN.strip,zfQ,1):=by kernel_rfl
def zfz:ACode:=.seq (.region [ (oK 2 0)] [2]) (.seq (.region [ (oL 4 0),(oF 5 1 1 1),(oL 6 5),(oN 7 (.build [.int .i64 0,.int .i64 0,.nilsl] [(0,1,(.c (.int .i64 0))),(1,1,(.t 6))])),(oN 8 (.call zah [(.t 4),(.t 7)]))] [1,4,5,6,7,8]) (.seq (.region [ (oL 9 0),(oN 10 (.buildSl 1 2 [.int .i64 0] [(0,(.c (.int .i64 0))),(1,(.c (.int .i64 0)))])),(oN 11 (.build [.int .i64 0,.int .i64 0,.nilsl] [(0,1,(.c (.int .i64 1))),(2,1,(.t 10))])),(oN 12 (.call zah [(.t 9),(.t 11)])),(oM 3 12)] [9,10,11,12]) (.seq (.draw ( .step (oL 13 0) ( .step (oX 14 13) ( .step (oF 15 0 1 14) ( .step (oL 16 15) ( .step (oM 17 3) ( .step (oI 18 3 16 17) ( .step (oF 19 2 1 18) ( .step (oL 20 19) ( .step (oL 21 0) ( .step (oN 22 (.callq zac [(.t 21)])) ( .step (oN 23 (.idx 1 (.t 20) (.c (.int .i64 0)))) ( .alt (oS 1 23 22) ( .done) ( .stop))))))))))))) [0,13,14,15,16,17,18,19,20,21,22,23]) (.seq (.region [ (oM 24 3),(oM 2 24)] [3,24]) (.ret)))))
def zfy:List ARet:=[.tmp 2]
theorem zjP:zT Tryz.prog zbv (qRo [])=some (zfz.strip,zfy,25):=by kernel_rfl
def zec:ACode:=.seq (.region [ (oN 21 (.mnext (.t 20))),(oT 22 0 21)] [21]) (.seq (.cond (.t 22) (.skip) (.exit 0)) (.block 1 (.seq (.region [ (oN 23 (.xop .ment [(.t 20)])),(oT 24 0 23),(oT 25 1 23),(oM 4 24),(oM 5 25)] [22,23,24,25]) (.draw ( .step (oM 26 3) ( .step (oX 27 26) ( .step (oF 28 0 1 27) ( .step (oL 29 28) ( .step (oM 30 4) ( .step (oI 31 3 29 30) ( .step (oF 32 2 1 31) ( .step (oL 33 32) ( .step (oM 34 3) ( .step (oX 35 34) ( .step (oF 36 2 1 35) ( .step (oL 37 36) ( .step (oM 38 5) ( .step (oN 39 (.xop (.mlook (some .i64) false (.int .i64 0)) [(.t 37),(.t 38)])) ( .step (oN 40 (.idx 1 (.t 33) (.c (.int .i64 0)))) ( .alt (oS 1 40 39) ( .done) ( .stop))))))))))))))))) [4,5,26,27,28,29,30,31,32,33,34,35,36,37,38,39,40]))))
def zem:ACode:=.seq (.region [ (oM 41 3),(oM 2 41)] [3,20,41]) (.ret)
def zeq:ACode:=.seq (.region [ (oM 10 3),(oA 11 5 1),(oN 12 (.call zbY [(.t 10),(.t 11)]))] [1,10,11,12]) (.seq (.region [ (oM 13 3),(oN 14 (.build [.int .i64 0,.int .i64 0,.nilsl] [(0,1,(.c (.int .i64 2)))])),(oN 15 (.call zah [(.t 13),(.t 14)]))] [13,14,15]) (.seq (.seq (.region [ (oM 16 3),(oX 17 16),(oF 18 3 1 17),(oL 19 18),(oN 20 (.xop .mrange [(.t 19)]))] [16,17,18,19]) (.block 0 (.loop zec))) (zem)))
def zf9:ACode:=.seq (.region [ Yab,(oN 2 (.mov (.c (.nilp))))] [0,2]) (.seq (.region [ (oN 6 (.xop .mkmap [])),(oN 7 (.xop .mkmap [])),(oN 8 (.build [.nilsl,.nilsl,.nilmp,.nilmp] [(2,1,(.t 6)),(3,1,(.t 7))])),(oN 9 (.box (.t 8))),(oM 3 9)] [6,7,8,9]) (.mark 1 (zeq)))
def zgg:List ARet:=[.tmp 2]
theorem zkN:zT Tryz.prog zdR (qRo [1])=some (zf9.strip,zgg,42):=by kernel_rfl
def zhE:ACode:=.seq (.region [ (oN 3 (.rbox (.t 0))),(oN 4 (.rbox (.t 1))),(oN 5 (.box (.t 2))),(oN 6 (.mov (.c (.nilfn))))] [0,1,2,6]) (.seq (.region [ (oN 7 (.mkfn (.func zbI) [(.t 4),(.t 3),(.t 5)])),(oM 6 7)] [3,4,5,7]) (.ret))
def zhP:List ARet:=[.tmp 6]
theorem zmj:zT Tryz.prog zfk (qRo [3,4])=some (zhE.strip,zhP,8):=by kernel_rfl
def zee:ACode:=.block 1 (.seq (.seq (.region [ (oM 14 6),(oL 15 2),(oX 16 15),(oF 17 0 1 16),(oL 18 17),(oE 19 18),(oB 20 .gtr 14 19)] [14,15,16,17,18,19]) (.cond (.t 20) (.seq (.region [ (oL 21 3),(oN 22 (.callv (.t 21) []))] [0,2,3,5,6,7,20,21,22]) (.ret)) (.skip))) (.seq (.region [ (oM 23 6),(oC 24 .add 23 1),(oM 6 24)] [20,23,24]) (.seq (.region [ (oL 25 2),(oX 26 25),(oF 27 0 1 26),(oL 28 27),(oM 29 7),(oI 30 3 28 29),(oA 31 3 30),(oN 8 (.alloc [.int .i64 0,.int .i64 0,.nilsl])),(oS 3 8 31)] [25,26,27,28,29,30,31]) (.seq (.region [ (oF 32 0 1 8),(oL 33 32)] [32]) (.block 2 (.seq (.region [ (oC 35 .eql 33 2),(oM 34 35)] [35]) (.cond (.t 34) (.ret) (.seq (.region [ (oC 37 .eql 33 0),(oM 36 37)] [34,37]) (.cond (.t 36) (.seq (.seq (.region [ (oM 38 0),(oF 39 1 1 8),(oL 40 39),(oN 41 (.callv (.t 38) [(.t 40)])),(oN 42 (.un .not (.t 41)))] [6,8,33,36,38,39,40,41]) (.cond (.t 42) (.ret) (.skip))) (.seq (.region [ (oK 6 0)] [42]) (.region [ (oM 43 7),(oC 44 .add 43 1),(oM 7 44)] [43,44]))) (.seq (.region [ (oC 46 .eql 33 1),(oM 45 46)] [33,36,46]) (.cond (.t 45) (.seq (.seq (.region [ (oF 47 2 1 8),(oL 48 47),(oE 49 48),(oC 50 .eql 49 1),(oM 51 50),(oG 52 51 true (.fldaddr 1 1 (.t 8))),(oG 53 51 true (.load false 1 (.t 52))),(oG 54 51 true (.bin .neq (.t 53) (.c (.int .i64 (-1))))),(oN 55 (.pick (.t 51) (.t 54) (.c (.bool false))))] [7,45,47,48,49,50,51,52,53,54]) (.cond (.t 55) (.seq (.region [ (oF 56 2 1 8),(oL 57 56),(oN 58 (.idx 1 (.t 57) (.c (.int .i64 0)))),(oL 59 58),(oM 7 59)] [8,55,56,57,58,59]) (.exit 1)) (.skip))) (.seq (.region [ (oM 61 5),(oF 62 2 1 8),(oL 63 62),(oE 64 63),(oN 65 (.call zbN [(.t 61),(.t 64)])),(oM 60 65),(oT 66 0 60),(oT 67 1 60),(oM 9 66),(oM 10 67)] [7,55,60,61,62,63,64,65,66,67]) (.seq (.seq (.region [ (oM 68 10)] [10]) (.cond (.t 68) (.region [ (oK 6 0)] [68]) (.skip))) (.region [ (oF 69 2 1 8),(oL 70 69),(oM 71 9),(oI 72 1 70 71),(oL 73 72),(oM 7 73)] [8,9,68,69,70,71,72,73])))) (.skip))))))))))))
def zgl:ACode:=.seq (.region [ (oL 11 1),(oN 12 (.build [.nilsl,.int .i64 0] [(0,1,(.t 11))])),(oN 13 (.box (.t 12))),(oM 5 13)] [1,11,12,13]) (.seq (.region [ (oK 6 0)] []) (.seq (.region [ (oK 7 0)] []) (.block 0 (.loop zee))))
def zkG:List ARet:=[]
theorem zkH:zT Tryz.prog zbI (qRo [])=some (zgl.strip,zkG,74):=by kernel_rfl
def zlE:ACode:=.seq (.region [ (oN 4 (.rbox (.t 0))),(oN 5 (.rbox (.t 1))),(oN 8 (.mknil 1)),(oK 9 0)] [0,1,8,9]) (.seq (.seq (.region [ (oA 13 5 4),(oA 14 2 5),(oN 15 (.call zeI [(.t 13),(.t 14)])),(oM 10 15)] [5,13,14,15]) (.seq (.region [ (oM 16 10),(oC 17 .neq 16 0)] [16]) (.cond (.t 17) (.seq (.region [ (oM 18 10),(oN 8 (.mknil 1)),(oM 9 18)] [2,3,4,10,17,18]) (.ret)) (.skip)))) (.seq (.seq (.region [ (oM 19 3),(oC 20 .gtr 19 65536)] [8,9,10,17,19]) (.cond (.t 20) (.seq (.region [ (oN 8 (.mknil 1)),(oK 9 6)] [2,3,4,20]) (.ret)) (.skip))) (.seq (.region [ (oN 11 (.alloc [.int .i64 0])),⟨none,.store 1 (.t 11) (.c (.int .i64 0)),none⟩] [8,9,20]) (.seq (.region [ (oA 21 5 4),(oN 22 (.call zdR [(.t 21)])),(oM 23 2),(oN 24 (.mkfn (.func zcf) [(.t 11)])),(oN 25 (.call zfk [(.t 22),(.t 23),(.t 24)])),(oM 26 3),(oN 27 (.call zcQ [(.t 25),(.t 26)])),(oM 12 27)] [2,3,4,21,22,23,24,25,26,27]) (.seq (.seq (.region [ (oL 28 11),(oC 29 .neq 28 0)] [28]) (.cond (.t 29) (.seq (.draw ( .alt (oL 30 11) ( .alt (oN 8 (.mknil 1)) ( .step (oM 9 30) ( .done)) ( .stop)) ( .alt (oN 8 (.mknil 1)) ( .step (oL 30 11) ( .step (oM 9 30) ( .done))) ( .stop))) [11,12,29,30]) (.ret)) (.skip))) (.seq (.region [ (oM 31 12),(oM 8 31),(oK 9 0)] [11,12,29,31]) (.ret)))))))
def zdZ:List ARet:=[.tmp 8,.tmp 9]
theorem zqy:zT Tryz.prog ze5 (qRo [4,5])=some (zlE.strip,zdZ,32):=by kernel_rfl
def zi2:ACode:=.region [ ⟨none,.store 1 (.t 0) (.c (.int .i64 15)),none⟩] [0]
def zi0:List ARet:=[]
theorem znE:zT Tryz.prog zcf (qRo [])=some (zi2.strip,zi0,1):=by kernel_rfl
def hd2 (gs n:Nat) (a1 a2 a3:AV) (stc:List (List AV)) (R:AH):AH:=(0,.row 4 [[.own 1 0 gs 0 n,a1,a2,a3]] 0)::(1,.row 3 stc gs)::R
structure RestOk (N:Nat) (R:AH):Prop where
 two:2≤N
 num:∀r o,R.look r=some o→2≤r∧r < N
theorem RestOk.none {N:Nat} {R:AH} (h:RestOk N R) {x:Nat} (hx:N≤x):R.look x=none:=by
 cases hl:R.look x with
 | none=>rfl
 | some o=>have:=(h.num _ _ hl).2;omega
theorem zK {T:AH} {N:Nat} {x:AObj}:(T.put N x).look N=some x:=by rw[AH.look_put,if_pos rfl]
theorem zj {a:Nat × AObj} {A B:AH} (h:∀r o,A.look r=some o→B.look r=some o):∀r o,AH.look (a::A) r=some o→AH.look (a::B) r=some o:=by
 intro r o;obtain⟨j,x⟩:=a;simp only[AH.look];cases Nat.beq j r
 · exact h r o
 · exact id
theorem zgp {H:AH} {nx gs n:Nat} {a1 a2 a3:AV} {stc:List (List AV)} (h0:H.get 0 0=some (.row 4 [[.own 1 0 gs 0 n,a1,a2,a3]] 0)) (h1:H.get 1 0=some (.row 3 stc gs)) (hn:n≤stc.length) (hb:n≤1000000):zc7 Tryz.prog zac [.ptr 0 0 0 0 0] H nx (.int .i64 n):=by
 have hB:=hBig
 have hp:zk Tryz.prog zac [.iptr 4 fun j=>[AV.sl 3 n fun _ _=>.undef,.undef,.undef,.undef].getD j .undef] (·=.int .i64 n):=by
  refine fn_x zlz rfl ?_;unfold zg0
  (repeat first|simp(disch:=try exact dis1) only[evD,Nat.reduceBEq,Nat.reduceAdd,Nat.reduceLeDiff,lenR,zhb]|with_reducible first|intro _|refine aJ ?_)
  exact⟨_,.int _ _ _,rfl⟩
 refine zM (D:=allR) hp (.cons (.frzp _ 0 0 0 0 0 4 4 _ _ trivial h0 (by simp) (by simp) fun j hj=>?_) .nil) (.inl rfl)
 match j with
 | 0=>exact .frz _ 1 0 gs 0 n 3 stc _ trivial h1 (by omega) (by omega) (fun i j _ _=>.undef _ _)
 | 1=>exact .undef _ _
 | 2=>exact .undef _ _
 | 3=>exact .undef _ _
 | j+4=>omega
theorem zjk (gs n:Nat) (a1 a2 a3:AV) (stc:List (List AV)) (R:AH) (N:Nat) (k b:Int) (v:AV) (hn:n=stc.length) (hR:RestOk N R) (hl:n≤1000000) (hv:v.solid=true) :
  z7 Tryz.prog zah [.ptr 0 0 0 0 0,.agg [.int .i64 k,.int .i64 b,v]] (hd2 gs n a1 a2 a3 stc R) N
  (fun x H nx=>N≤nx∧x=.int .i64 n∧H=hd2 (gs+1) (n+1) a1 a2 a3 (stc++[[.int .i64 k,.int .i64 b,v]]) R):=by
 subst hn;refine z8 (fn_x zlY rfl ?_);unfold zhF hd2;have hB:=hBig;have h2:=hR.two;have n0:(0 == N)=false:=beq_false_of_ne (by omega);have n1:(1 == N)=false:=beq_false_of_ne (by omega);have m0:(0 == N+1)=false:=beq_false_of_ne (by omega);have m1:(1 == N+1)=false:=beq_false_of_ne (by omega);have tN:R.look N=none:=hR.none (Wa _)
 have tN1:∀o,(R.put N o).look (N+1)=none:=fun o=>by rw[AH.look_put,if_neg (by omega)];exact hR.none (by omega)
 have tN2:∀o o',((R.put N o).put (N+1) o').look N=some o:=fun o o'=>by rw[AH.look_put,if_neg (by omega),zK]
 have e1:(stc++[[AV.int .i64 k,.int .i64 b,v]]).length=stc.length+1:=by simp
 have ktr:stc.take stc.length=stc:=Wx
 (repeat first|simp(disch:=try exact dis1) only[evD,Nat.reduceBEq,Nat.reduceAdd,Nat.reduceLeDiff,hv,n0,n1,m0,m1,tN,tN1,tN2,zB,zK,ktr,zhB]|with_reducible first|intro _|refine aJ ?_)
 have fin:zsG N (fun x H nx=>N≤nx∧x=.int .i64 stc.length∧H=(0,.row 4 [[.own 1 0 (gs+1) 0 (stc.length+1),a1,a2,a3]] 0)::(1,.row 3 (stc++[[.int .i64 k,.int .i64 b,v]]) (gs+1))::R)
   (.int .i64 (((stc.length+1:Nat):Int) - 1)) ((0,.row 4 [[.own 1 0 (gs+1) 0 (stc.length+1),a1,a2,a3]] 0)::(1,.row 3 (stc++[[.int .i64 k,.int .i64 b,v]]) (gs+1))::(R.put N (.row 3 [[.int .i64 k,.int .i64 b,v]] 0)).put (N+1) (.row 3 [[.int .i64 k,.int .i64 b,v]] 0)) (N+1+1):=by
  refine⟨.int .i64 stc.length,_,N+1+1,Ent.forget (by omega) (Wa _) ?_ (fun i=>.inr ?_),by omega,rfl,rfl⟩
  · exact zj (zj (fun x o h=>by
    have:=hR.num x o h;rw[AH.look_put,if_neg (by omega),AH.look_put,if_neg (by omega)]
    exact h))
  ·
   have:(((stc.length+1:Nat):Int) - 1)=(stc.length:Int):=by omega
   rw[this]
 refine⟨⟨by omega,fun _=>fin⟩,⟨by omega,fun _=>fin⟩,by omega,fun _=>fin⟩
structure PSt where
 kind:Int
 block:Int
 to:Option (List Int)
structure PC where
 st:List PSt
 lp:List (Int × List Int)
 lab:List (Int × Int)
 got:List (Int × Int)
structure Gn where
 gs:Nat
 gl:Nat
 s2:List (List AV)
 gt:Nat→Nat
 tl:Nat→List Int
 gx:Nat→Nat
 xl:Nat→List (Int × AV)
 gb:Nat→Nat
 bl:Nat→List Int
def toV (gt:Nat→Nat) (k:Nat):Option (List Int)→AV
 | none=>.nilsl
 | some l=>.own 5 (k+1) (gt k) 0 l.length
def cS (gt:Nat→Nat) (k:Nat) (s:PSt):List AV:=[.int .i64 s.kind,.int .i64 s.block,toV gt k s.to]
def stC (gt:Nat→Nat) (l:List PSt):List (List AV):=l.mapIdx (cS gt)
def cX (p:Int × AV):List AV:=[.int .i64 p.1,p.2]
def lpC (gx:Nat→Nat) (n:Nat):List (List AV):=(List.range n).map fun d=>[.ptr 6 (d+1) (gx d) 0 0]
def cMp (i:Nat) (e:Int × Int):List AV:=[.int .i64 e.1,.int .i64 e.2,.int .i64 i]
def mpC (l:List (Int × Int)):List (List AV):=[.int .i64 l.length,.undef,.undef]::l.mapIdx cMp
def cH (M:Nat) (p:PC) (γ:Gn) (T:AH):AH :=
 (0,.row 4 [[.own 1 0 γ.gs 0 p.st.length,.own 2 0 γ.gl 0 p.lp.length,.mp 3 0,.mp 4 0]] 0)::(1,.row 3 (stC γ.gt p.st) γ.gs)::(2,.row 1 (lpC γ.gx p.lp.length++γ.s2) γ.gl)::(3,.row 3 (mpC p.lab) 0)::(4,.row 3 (mpC p.got) 0) ::
  (5,.fam 1 (fi cI M γ.tl γ.gt))::(6,.fam 2 (fi cX M γ.xl γ.gx))::(7,.fam 1 (fi cI M γ.bl γ.gb))::T
structure OkC (p:PC) (γ:Gn):Prop where
 to:∀k (h:k < p.st.length) l,p.st[k].to=some l→γ.tl k=l
 lp:∀d (h:d < p.lp.length),γ.xl d=[(p.lp[d].1,if p.lp[d].2=[] then .nilsl else .own 7 (d+1) (γ.gb d) 0 p.lp[d].2.length)]∧(p.lp[d].2≠[]→γ.bl d=p.lp[d].2)
 s2:zlZ 8 γ.s2
 xl:∀d,∀x∈γ.xl d,x.2.lt0 8=true
structure TailOk (N:Nat) (T:AH):Prop where
 eight:8≤N
 num:∀r o,T.look r=some o→8≤r∧r < N
 low:zji N T
theorem zlV {n r sz g:Nat} {els:List (List AV)} (hr:r < n) (he:zlZ n els):∀ {T:AH},zji n T→zji n (T.put r (.row sz els g))
 | [],_=>⟨⟨hr,he⟩,trivial⟩
 |
  (j,.row s e g0)::t,h=>by
  simp only[AH.put];cases Nat.beq j r
  · exact⟨h.1,zlV hr he h.2⟩
  · exact⟨⟨hr,he⟩,h.2⟩
 |
  (j,.fam s ins)::t,h=>by
  simp only[AH.put];cases Nat.beq j r
  · exact⟨h.1,zlV hr he h.2⟩
  · exact⟨⟨hr,he⟩,h.2⟩
theorem zjz {n m:Nat} (h:n≤m) {els:List (List AV)} (he:zlZ n els):zlZ m els:=fun c hc=>by
 have:=he c hc;rw[List.all_eq_true] at this ⊢;intro a ha;have h1:=this a ha
 cases a<;>simp only[AV.lt0,Nat.blt_eq] at h1 ⊢<;>first|rfl|omega|cases h1
theorem zh8 {n m:Nat} (h:n≤m):∀ {T:AH},zji n T→zji m T
 | [],_=>trivial
 | (_,.row ..)::_,ht=>⟨⟨WX ht.1.1 h,zjz h ht.1.2⟩,zh8 h ht.2⟩
 | (_,.fam ..)::_,ht=>⟨⟨WX ht.1.1 h,fun p hp=>zjz h (ht.1.2 p hp)⟩,zh8 h ht.2⟩
theorem TailOk.none {N:Nat} {R:AH} (h:TailOk N R) {x:Nat} (hx:N≤x):R.look x=none:=by
 cases hl:R.look x with
 | none=>rfl
 | some o=>have:=(h.num _ _ hl).2;omega
theorem TailOk.put {N:Nat} {R:AH} (h:TailOk N R) (sz:Nat) (els:List (List AV)) (he:zlZ (N+1) els) (g:Nat:=0):TailOk (N+1) (R.put N (.row sz els g)):=by
 refine⟨by have:=h.eight;omega,fun r o' hr=>?_,zlV (by omega) he (zh8 (by omega) h.low)⟩;rw[AH.look_put] at hr;split at hr
 · rename_i e;subst e;exact⟨h.eight,by omega⟩
 · have:=h.num _ _ hr;omega
theorem TailOk.up {N N':Nat} {R:AH} (h:TailOk N R) (hN:N≤N'):TailOk N' R:=⟨Wn h.eight hN,fun r o hr=>by have:=h.num r o hr;omega,zh8 hN h.low⟩
theorem zcj {gt:Nat→Nat} {l:List PSt}:(stC gt l).length=l.length:=by simp[stC]
theorem zq4 {gt:Nat→Nat} {l:List PSt} {s:PSt}:stC gt (l++[s])=stC gt l++[cS gt l.length s]:=by simp[stC,WY]
theorem zq0 {gt:Nat→Nat} {l:List PSt} {k:Nat} (h:k < l.length):(stC gt l).getD k []=cS gt k l[k]:=by simp[stC,Wp,h]
theorem stC_gt {gt gt':Nat→Nat} {l:List PSt} (h:∀k,k < l.length→gt' k=gt k):stC gt' l=stC gt l:=by
 apply Wq;intro i;simp only[stC,Wr]
 cases hi:l[i]? with
 | none=>rfl
 |
  some s =>
  have:=(Ws.1 hi).1;simp only[We,cS,toV]
  cases s.to with
  | none=>rfl
  | some l=>simp only[h i this]
theorem zuj {gt:Nat→Nat} {l:List PSt} {v:Nat}:stC (updF gt l.length v) l=stC gt l:=stC_gt fun k hk=>zdu (by omega)
def addP (p:PC) (s:PSt):PC:={ p with st:=p.st++[s] }
def zaB (p:PC) (v:Int):PC:=addP p ⟨1,0,some [v]⟩
theorem zjj {M:Nat} {p:PC} {γ:Gn} {T:AH} {x:Nat} (hx:8≤x):(cH M p γ T).look x=T.look x:=by unfold cH;simp only[AH.look,zH (show 0≠x by omega),zH (show 1≠x by omega),zH (show 2≠x by omega),zH (show 3≠x by omega),zH (show 4≠x by omega),zH (show 5≠x by omega),zH (show 6≠x by omega),zH (show 7≠x by omega),cond_false]
def zmU (M:Nat) (p:PC) (γ:Gn) (T:AH):AH:=(2,.row 1 (lpC γ.gx p.lp.length++γ.s2) γ.gl)::(3,.row 3 (mpC p.lab) 0)::(4,.row 3 (mpC p.got) 0) ::
  (5,.fam 1 (fi cI M γ.tl γ.gt))::(6,.fam 2 (fi cX M γ.xl γ.gx))::(7,.fam 1 (fi cI M γ.bl γ.gb))::T
theorem zxZ {M:Nat} {p:PC} {γ:Gn} {T:AH} {N:Nat} (hT:TailOk N T):RestOk N (zmU M p γ T):=by
 have h8:=hT.eight;refine⟨by omega,fun r o h=>?_⟩
 match r with
 | 0=>unfold zmU at h;simp only[AH.look,zH (show 2≠0 by omega),zH (show 3≠0 by omega),zH (show 4≠0 by omega),zH (show 5≠0 by omega),zH (show 6≠0 by omega),zH (show 7≠0 by omega),cond_false] at h;have:=hT.num _ _ h;omega
 | 1=>unfold zmU at h;simp only[AH.look,zH (show 2≠1 by omega),zH (show 3≠1 by omega),zH (show 4≠1 by omega),zH (show 5≠1 by omega),zH (show 6≠1 by omega),zH (show 7≠1 by omega),cond_false] at h;have:=hT.num _ _ h;omega
 | 2=>omega
 | 3=>omega
 | 4=>omega
 | 5=>omega
 | 6=>omega
 | 7=>omega
 |
  r+8 =>
  unfold zmU at h;simp only[AH.look,zH (show 2≠r+8 by omega),zH (show 3≠r+8 by omega),zH (show 4≠r+8 by omega),zH (show 5≠r+8 by omega),zH (show 6≠r+8 by omega),zH (show 7≠r+8 by omega),cond_false] at h;have:=hT.num _ _ h;omega
def addG (γ:Gn):Gn:={ γ with gs:=γ.gs+1 }
theorem zcP (M:Nat) (p:PC) (γ:Gn) (T:AH) (N:Nat) (k b:Int) (hok:OkC p γ) (hT:TailOk N T) (hl:p.st.length≤1000000) :
  z7 Tryz.prog zah [.ptr 0 0 0 0 0,.agg [.int .i64 k,.int .i64 b,.nilsl]] (cH M p γ T) N
  (fun x H nx=>N≤nx∧x=.int .i64 p.st.length∧OkC (addP p ⟨k,b,none⟩) (addG γ)∧H=cH M (addP p ⟨k,b,none⟩) (addG γ) T):=by
 refine(zjk γ.gs p.st.length (.own 2 0 γ.gl 0 p.lp.length) (.mp 3 0) (.mp 4 0) (stC γ.gt p.st) (zmU M p γ T) N k b .nilsl zcj.symm (zxZ hT) hl rfl).mono fun x H nx h=>⟨h.1,h.2.1,⟨fun k' h' l e=>?_,hok.lp,hok.s2,hok.xl⟩,?_⟩
 ·
  simp only[addP] at h' e ⊢
  by_cases hk:k' < p.st.length
  · rw[Wy hk] at e;exact hok.to k' hk l e
  · rw[WZ (by omega)] at e;simp at e
 · rw[h.2.2];unfold hd2 cH zmU addP addG;simp only[zq4,Wf,Wg,cS,toV]
def zhA (γ:Gn) (k:Nat) (l:List Int):Gn:={ γ with gs:=γ.gs+1,gt:=updF γ.gt k (γ.gt k+1),tl:=updF γ.tl k l }
theorem OkC.step {p:PC} {γ:Gn} (hok:OkC p γ) (k b:Int) (l:List Int):OkC (addP p ⟨k,b,some l⟩) (zhA γ p.st.length l):=by
 refine⟨fun k' h' l' e=>?_,hok.lp,hok.s2,hok.xl⟩;simp only[addP,zhA] at h' e ⊢
 by_cases hk:k' < p.st.length
 · rw[Wy hk] at e;rw[zdu (by omega)];exact hok.to k' hk l' e
 ·
  have hk':k'=p.st.length:=by simp at h';omega
  subst hk';rw[WZ (by omega)] at e;simp only[Nat.sub_self,Wz,WE] at e;rw[zbh,e]
theorem zuK {B nx M:Nat} {K K2:Kn} {p:PC} {γ:Gn} {T:AH} {N:Nat} {k b:Int} {l:List Int} (hB:B≤nx) (hT:TailOk N T) (hl:p.st.length < M) (hK:zp3 (some N) 5 (p.st.length+1) (γ.gt p.st.length+1) K2 K) :
  Ent B K (hd2 (γ.gs+1) (p.st.length+1) (.own 2 0 γ.gl 0 p.lp.length) (.mp 3 0) (.mp 4 0) (stC γ.gt p.st++[[.int .i64 k,.int .i64 b,.own N 0 0 0 l.length]]) (zmU M p γ (T.put N (.row 1 (l.map cI) 0)))) nx K2 (cH M (addP p ⟨k,b,some l⟩) (zhA γ p.st.length l) T) nx:=by
 have h8:=hT.eight;refine Ent.adoptF (c:=cI) (F:=5) (k:=p.st.length) (m:=M) (sz:=1) (ll:=γ.tl) (gs:=γ.gt) (l:=l) (some N) hB hl rfl ?_ (by simp) ?_ hK
 · rintro x ⟨rfl⟩;refine⟨by omega,?_⟩;unfold hd2 zmU;simp only[AH.look,zH (show 0≠N by omega),zH (show 1≠N by omega),zH (show 2≠N by omega),zH (show 3≠N by omega),zH (show 4≠N by omega),zH (show 5≠N by omega),zH (show 6≠N by omega),zH (show 7≠N by omega),cond_false];exact zK
 ·
  intro x o2 h
  match x with
  | 0=>cases h;exact⟨fun m e=>by cases e;omega,.inr ⟨by omega,_,rfl,by simp only[addP,zhA,Wf,Wg];exact .same _⟩⟩
  |
   1 =>
   cases h;refine⟨fun m e=>by cases e;omega,.inr ⟨by omega,_,rfl,?_⟩⟩;simp only[addP,zhA,zq4,zuj];refine .row _ _ _ _ (RowA.app (RowA.cons ?_ (RowA.refl _)) _);simp only[cS,toV,zbh];exact⟨.same _,.same _,.own _ _ _ rfl,trivial⟩
  | 2=>cases h;exact⟨fun m e=>by cases e;omega,.inr ⟨by omega,_,rfl,.same _⟩⟩
  | 3=>cases h;exact⟨fun m e=>by cases e;omega,.inr ⟨by omega,_,rfl,.same _⟩⟩
  | 4=>cases h;exact⟨fun m e=>by cases e;omega,.inr ⟨by omega,_,rfl,.same _⟩⟩
  | 5=>cases h;exact⟨fun m e=>by cases e;omega,.inl ⟨rfl,rfl⟩⟩
  | 6=>cases h;exact⟨fun m e=>by cases e;omega,.inr ⟨by omega,_,rfl,.same _⟩⟩
  | 7=>cases h;exact⟨fun m e=>by cases e;omega,.inr ⟨by omega,_,rfl,.same _⟩⟩
  |
   x+8 =>
   rw[zjj (by omega)] at h;have hx:=hT.num _ _ h;refine⟨fun m e=>by cases e;omega,.inr ⟨by omega,o2,?_,.same _⟩⟩;unfold hd2 zmU;simp only[AH.look,zH (show 0≠x+8 by omega),zH (show 1≠x+8 by omega),zH (show 2≠x+8 by omega),zH (show 3≠x+8 by omega),zH (show 4≠x+8 by omega),zH (show 5≠x+8 by omega),zH (show 6≠x+8 by omega),zH (show 7≠x+8 by omega),cond_false];rw[AH.look_put,if_neg (by omega)];exact h
theorem znq {T:AH} {r:Nat} {a b:AObj}:(T.put r a).put r b=T.put r b:=by
 induction T with
 | nil=>simp[AH.put]
 |
  cons p t ih =>
  obtain⟨j,u⟩:=p;simp only[AH.put]
  cases hb:Nat.beq j r with
  | true=>simp[AH.put]
  | false=>simp only[cond_false,AH.put,hb,ih]
theorem ne8 {x:Nat} (h:8≤x):(0 == x)=false∧(1 == x)=false∧(2 == x)=false∧(3 == x)=false∧(4 == x)=false∧(5 == x)=false∧(6 == x)=false∧(7 == x)=false :=
 ⟨beq_false_of_ne (by omega),beq_false_of_ne (by omega),beq_false_of_ne (by omega),beq_false_of_ne (by omega),beq_false_of_ne (by omega),beq_false_of_ne (by omega),beq_false_of_ne (by omega),beq_false_of_ne (by omega)⟩
theorem zcO (M:Nat) (p:PC) (γ:Gn) (T:AH) (N:Nat) (v:Int) (hok:OkC p γ) (hT:TailOk N T) (hl:p.st.length < M) (hM:M≤1000000) :
  z7 Tryz.prog zq [.ptr 0 0 0 0 0,.int .i64 v] (cH M p γ T) N
  (fun x H nx=>N≤nx∧x=.int .i64 p.st.length∧OkC (zaB p v) (zhA γ p.st.length [v])∧H=cH M (zaB p v) (zhA γ p.st.length [v]) T):=by
 refine z8 (fn_x zln rfl ?_);unfold zhi;simp only[cH];have hB:=hBig;have h8:=hT.eight;obtain⟨n0,n1,n2,n3,n4,n5,n6,n7⟩:=ne8 hT.eight;have tN:T.look N=none:=hT.none (Wa _)
 (repeat first|simp(disch:=try exact dis1) only[evD,Nat.reduceBEq,Nat.reduceAdd,Nat.reduceLeDiff,n0,n1,n2,n3,n4,n5,n6,n7,tN,zB,zK]|with_reducible first|intro _|refine aJ ?_)
 refine(zjk γ.gs p.st.length (.own 2 0 γ.gl 0 p.lp.length) (.mp 3 0) (.mp 4 0) (stC γ.gt p.st) (zmU M p γ (T.put N (.row 1 [[.int .i64 v]] 0))) (N+1) 1 0 (.own N 0 0 0 1) zcj.symm (zxZ (hT.put 1 [[.int .i64 v]] (zhH (by simp[zt,AV.flat0])))) (by omega) rfl).mono ?_;rintro x H nx ⟨h1,rfl,rfl⟩
 (repeat first|simp(disch:=try exact dis1) only[evD,Nat.reduceBEq,Nat.reduceAdd,Nat.reduceLeDiff,zhc]|with_reducible first|intro _|refine aJ ?_)
 exact⟨.int .i64 p.st.length,_,nx,zuK (l:=[v]) (by omega) hT hl ⟨.same _,trivial⟩,by omega,rfl,hok.step 1 0 [v],rfl⟩
def zeB (p:PC) (b:Int):PC:=addP (addP p ⟨0,b,none⟩) ⟨1,0,some [((p.st.length+2:Nat):Int),0]⟩
theorem znR (H:AH) (nx:Nat):z7 Tryz.prog zbw [] H nx (fun v H' nx'=>v=.int .i64 (-1)∧H'=H∧nx'=nx):=by
 refine fn_x zjX rfl ?_;unfold zfN;have hB:=hBig
 (repeat first|simp(disch:=try exact dis1) only[evD,Nat.reduceBEq,Nat.reduceAdd,Nat.reduceLeDiff,zfQ]|with_reducible first|intro _|refine aJ ?_)
theorem zoS (M:Nat) (p:PC) (γ:Gn) (T:AH) (N rc:Nat) (b:Int) (c:Nat→AV) (hok:OkC p γ) (hT:TailOk N T) (hl:p.st.length+2≤M) (hM:M≤1000000) (hrc:T.look rc=some (.row 1 [[.ptr 0 0 0 0 0]] 0)) (hc:c 1=.int .i64 b) :
  z7 Tryz.prog zbv [.ptr rc 0 0 0 0,.iptr 5 c] (cH M p γ T) N
  (fun x H nx=>N≤nx∧x=.int .i64 ((p.st.length+1:Nat):Int)∧∃γ',OkC (zeB p b) γ'∧γ'.gx=γ.gx∧H=cH M (zeB p b) γ' T):=by
 refine z8 (fn_x zjP rfl ?_);unfold zfz;simp only[cH];have hB:=hBig;have h8:=hT.eight;obtain⟨r0,r1,r2,r3,r4,r5,r6,r7⟩:=ne8 (hT.num _ _ hrc).1;have tN:T.look N=none:=hT.none (Wa _)
 (repeat first|simp(disch:=try exact dis1) only[evD,Nat.reduceBEq,Nat.reduceAdd,Nat.reduceLeDiff,r0,r1,r2,r3,r4,r5,r6,r7,hrc,hc]|with_reducible first|intro _|refine aJ ?_)
 refine(zcP M p γ T N 0 b hok hT (by omega)).mono ?_;rintro x H N1 ⟨hN1,rfl,hok1,rfl⟩;have hgx:(addG γ).gx=γ.gx:=rfl;generalize addG γ=γ1 at *;have hT1:=hT.up hN1;obtain⟨n0,n1,n2,n3,n4,n5,n6,n7⟩:=ne8 hT1.eight;have tN1:T.look N1=none:=hT1.none (Wa _);have hrl:=(hT.num _ _ hrc).2
 have hrc1:∀o,(T.put N1 o).look rc=some (.row 1 [[.ptr 0 0 0 0 0]] 0):=fun o=>by rw[AH.look_put,if_neg (by omega)];exact hrc
 unfold zeB
 have hlen:(addP p ⟨0,b,none⟩).st.length=p.st.length+1:=by simp[addP]
 generalize addP p ⟨0,b,none⟩=p1 at *
 have hl1:p1.st.length+1≤M:=by omega
 rw[show ((p.st.length+1:Nat):Int)=(p1.st.length:Int) by omega,show ((p.st.length+2:Nat):Int)=((p1.st.length+1:Nat):Int) by omega];clear hlen;simp only[cH]
 (repeat first|simp(disch:=try exact dis1) only[evD,Nat.reduceBEq,Nat.reduceAdd,Nat.reduceLeDiff,r0,r1,r2,r3,r4,r5,r6,r7,hrc,n0,n1,n2,n3,n4,n5,n6,n7,tN1,zB,zK]|with_reducible first|intro _|refine aJ ?_)
 refine(zjk γ1.gs p1.st.length (.own 2 0 γ1.gl 0 p1.lp.length) (.mp 3 0) (.mp 4 0) (stC γ1.gt p1.st) (zmU M p1 γ1 (T.put N1 (.row 1 [[.int .i64 0],[.int .i64 0]] 0))) (N1+1) 1 0 (.own N1 0 0 0 2) zcj.symm (zxZ (hT1.put 1 [[.int .i64 0],[.int .i64 0]] (zhH (by simp[zt,AV.flat0])))) (by omega) rfl).mono ?_;rintro x H N2 ⟨hN2,rfl,rfl⟩;simp only[hd2,zmU]
 have hgk:(stC γ1.gt p1.st++[[AV.int .i64 1,.int .i64 0,.own N1 0 0 0 2]]).getD p1.st.length []=[.int .i64 1,.int .i64 0,.own N1 0 0 0 2]:=by simp[Wp,zcj]
 have e1:(stC γ1.gt p1.st++[[AV.int .i64 1,.int .i64 0,.own N1 0 0 0 2]]).length=p1.st.length+1:=by simp[zcj]
 (repeat first|simp(disch:=try exact dis1) only[evD,Nat.reduceBEq,Nat.reduceAdd,Nat.reduceLeDiff,r0,r1,r2,r3,r4,r5,r6,r7,hrc1,Wd,hgk,e1,n0,n1,n2,n3,n4,n5,n6,n7,zB,zK]|with_reducible first|intro _|refine aJ ?_)
 refine zbS (zgp (by rfl) (by rfl) (by simp[zcj]) (by omega)) ?_
 (repeat first|simp(disch:=try exact dis1) only[evD,Nat.reduceBEq,Nat.reduceAdd,Nat.reduceLeDiff,Wd,hgk,n0,n1,n2,n3,n4,n5,n6,n7,zB,zK,znq,zfy]|with_reducible first|intro _|refine aJ ?_)
 exact⟨_,_,N2,zuK (l:=[((p1.st.length+1:Nat):Int),0]) (by omega) hT1 (by omega) ⟨.same _,trivial⟩,by omega,rfl,_,hok1.step 1 0 _,hgx,rfl⟩
theorem zkV {M:Nat} {p:PC} {γ:Gn} {T:AH} {N:Nat} (hok:OkC p γ) (hT:TailOk N T):zji N (cH M p γ T):=by
 have h8:=hT.eight
 have b:∀ {k:Nat},k < 8→Nat.blt k N=true:=fun hk=>by rw[Nat.blt_eq];omega
 refine⟨⟨by omega,?_⟩,⟨by omega,?_⟩,⟨by omega,?_⟩,⟨by omega,?_⟩,⟨by omega,?_⟩,⟨by omega,?_⟩,⟨by omega,?_⟩,⟨by omega,?_⟩,hT.low⟩
 · intro c hc;rw[Wc.1 hc];simp only[WA,WB,AV.lt0,b (show 1 < 8 by omega),b (show 2 < 8 by omega),b (show 3 < 8 by omega),b (show 4 < 8 by omega),WN]
 ·
  intro c hc;unfold stC at hc;obtain⟨i,hi,rfl⟩:=Wt.1 hc;simp only[cS,toV]
  split<;>simp only[WA,WB,AV.lt0,b (show 5 < 8 by omega),WN]
 ·
  intro c hc
  rcases Wu.1 hc with hc|hc
  · obtain⟨d,_,rfl⟩:=Wh.1 hc;simp only[WA,WB,AV.lt0,b (show 6 < 8 by omega),WN]
  · exact zjz h8 hok.s2 c hc
 ·
  intro c hc
  rcases WC.1 hc with rfl|hc
  · rfl
  · obtain⟨i,hi,rfl⟩:=Wt.1 hc;rfl
 ·
  intro c hc
  rcases WC.1 hc with rfl|hc
  · rfl
  · obtain⟨i,hi,rfl⟩:=Wt.1 hc;rfl
 ·
  intro p hp;obtain⟨i,_,rfl⟩:=Wh.1 hp
  exact zn3 fun _=>rfl
 · intro p hp;obtain⟨i,_,rfl⟩:=Wh.1 hp;intro c hc;obtain⟨x,hx,rfl⟩:=Wh.1 hc;have h1:zlZ N [[x.2]]:=zjz h8 (fun c hc=>by rw[Wc.1 hc,WA,WB,hok.xl i x hx];rfl);have h2:=h1 [x.2] (by simp);simp only[cX,WA,WB,Bool.and_true] at h2 ⊢;rw[h2];rfl
 ·
  intro p hp;obtain⟨i,_,rfl⟩:=Wh.1 hp
  exact zn3 fun _=>rfl
def setL (l:List (Int × Int)) (k v:Int):List (Int × Int):=match l.findIdx? (fun e=>decide (e.1=k)) with
 | some i=>l.set i (k,v)
 | none=>l++[(k,v)]
def setTo (p:PC) (k i:Nat) (v:Int):PC:={ p with st:=p.st.modify k fun s=>{ s with to:=s.to.map fun l=>l.set i v } }
def appTo (p:PC) (k:Nat) (v:Int):PC:={ p with st:=p.st.modify k fun s=>{ s with to:=s.to.map fun l=>l++[v] } }
def putAll (p:PC) (ks:List Int) (v:Int):PC:=ks.foldl (fun p k=>setTo p k.toNat 0 v) p
def topL (l:List (Int × List Int)):Int:=match l.getLast? with
 | some x=>x.1
 | none=>0
def brkL (l:List (Int × List Int)):List Int:=match l.getLast? with
 | some x=>x.2
 | none=>[]
def zky (l:List (Int × List Int)) (k:Int):List (Int × List Int):=match l.getLast? with
 | some x=>l.dropLast++[(x.1,x.2++[k])]
 | none=>l
def zbl (p:PC) (top:Int):PC:={ p with lp:=p.lp++[(top,[])] }
def zaP (p:PC):PC:=addP p ⟨1,-1,some []⟩
def zd0 (q:PC) (top:Int):PC:=let q1:=zaB { q with lp:=q.lp.dropLast } top;putAll q1 (brkL q.lp) (q1.st.length:Int)
mutual
def zaF:Nd→PC→PC
 |
  .mk f _ l,p =>
  if f.kind=1 then zaC l p
  else if f.kind=2 then addP p ⟨0,f.block,none⟩
  else if f.kind=3∨f.kind=6 then
   let r:=brP p.st.length l (zaP p) []
   putAll r.1 r.2 (r.1.st.length:Int)
  else if f.kind=4 then zd0 (zaC l (zbl p p.st.length)) p.st.length
  else if f.kind=5 then
   let q:=zd0 (zaC l (zbl (zeB p f.block) p.st.length)) p.st.length
   setTo q (p.st.length+1) 1 (q.st.length:Int)
  else if f.kind=7 then { zaB p 0 with lp:=zky p.lp p.st.length }
  else if f.kind=8 then zaB p (topL p.lp)
  else if f.kind=9 then { zaB p 0 with got:=setL p.got p.st.length f.label }
  else if f.kind=10 then { p with lab:=setL p.lab f.label p.st.length }
  else if f.kind=11∨f.kind=12 then addP p ⟨2,0,none⟩
  else p
def zaC:List Nd→PC→PC
 | [],p=>p
 | n::l,p=>zaC l (zaF n p)
def brP (at':Nat):List Nd→PC→List Int→PC × List Int
 | [],p,ends=>(p,ends)
 | n::l,p,ends=>let q:=zaF n (appTo p at' p.st.length);brP at' l (zaB q 0) (ends++[(q.st.length:Int)])
end
def zqH (l:List Nd) (p:PC):PC:=let r:=brP p.st.length l (zaP p) [];putAll r.1 r.2 (r.1.st.length:Int)
def zsp (b:Option Int) (l:List Nd) (p:PC):PC:=match b with
 | none=>zd0 (zaC l (zbl p p.st.length)) p.st.length
 | some b=>let q:=zd0 (zaC l (zbl (zeB p b) p.st.length)) p.st.length;setTo q (p.st.length+1) 1 (q.st.length:Int)
theorem zcK (f:NdF) (c:List Ex) (l:List Nd) (p:PC):zaF (.mk f c l) p =
  if f.kind=1 then zaC l p else if f.kind=2 then addP p ⟨0,f.block,none⟩ else if f.kind=3∨f.kind=6 then zqH l p else if f.kind=4 then zsp none l p else if f.kind=5 then zsp (some f.block) l p
  else if f.kind=7 then { zaB p 0 with lp:=zky p.lp p.st.length } else if f.kind=8 then zaB p (topL p.lp) else if f.kind=9 then { zaB p 0 with got:=setL p.got p.st.length f.label }
  else if f.kind=10 then { p with lab:=setL p.lab f.label p.st.length } else if f.kind=11∨f.kind=12 then addP p ⟨2,0,none⟩ else p:=by
 rw[zaF];rfl
mutual
def zdF:Nd→Bool→Bool
 | .mk f _ l,b=>if (f.kind=7∨f.kind=8)∧b=false then true else zaN l (b||decide (f.kind=4)||decide (f.kind=5))
def zaN:List Nd→Bool→Bool
 | [],_=>false
 | e::l,b=>zdF e b||zaN l b
end
def zj4 (p:PC) (k n:Nat):Prop:=∃s l,p.st[k]? = some s∧s.to=some l∧n≤l.length
structure Keep (p q:PC):Prop where
 len:p.st.length≤q.st.length
 to:∀k n,zj4 p k n→zj4 q k n
theorem Keep.refl (p:PC):Keep p p:=⟨Wa _,fun _ _ h=>h⟩
theorem Keep.trans {p q r:PC} (h:Keep p q) (k:Keep q r):Keep p r:=⟨Wn h.len k.len,fun i n x=>k.to i n (h.to i n x)⟩
theorem Keep.of_st {p q:PC} (h:q.st=p.st):Keep p q:=⟨by rw[h];exact Wa _,fun k n x=>by unfold zj4 at x ⊢;rw[h];exact x⟩
theorem zbP (p:PC) (s:PSt):Keep p (addP p s):=by refine⟨by simp[addP],fun k n ⟨s',l,h1,h2,h3⟩=>⟨s',l,?_,h2,h3⟩⟩;simp only[addP];rw[W0 (Ws.1 h1).1];exact h1
theorem zjD (p:PC) (k i:Nat) (v:Int):Keep p (setTo p k i v):=by
 refine⟨by simp[setTo],fun k' n ⟨s',l,h1,h2,h3⟩=>?_⟩;simp only[setTo,zj4,Wi]
 by_cases hk:k=k'
 · subst hk;refine⟨{ s' with to:=s'.to.map fun l=>l.set i v },l.set i v,?_,by simp[h2],by simpa using h3⟩;simp[h1]
 · exact⟨s',l,by simp[hk,h1],h2,h3⟩
theorem zjG (p:PC) (k:Nat) (v:Int):Keep p (appTo p k v):=by
 refine⟨by simp[appTo],fun k' n ⟨s',l,h1,h2,h3⟩=>?_⟩;simp only[appTo,zj4,Wi]
 by_cases hk:k=k'
 · subst hk;refine⟨{ s' with to:=s'.to.map fun l=>l++[v] },l++[v],?_,by simp[h2],by simp;omega⟩;simp[h1]
 · exact⟨s',l,by simp[hk,h1],h2,h3⟩
theorem zeM:∀(ks:List Int) (p:PC) (v:Int),(putAll p ks v).st.length=p.st.length
 | [],p,v=>rfl
 |
  k::ks,p,v=>by
  unfold putAll;rw[List.foldl_cons];have:=zeM ks (setTo p k.toNat 0 v) v;unfold putAll at this;rw[this];simp[setTo]
theorem zjc:∀(ks:List Int) (p:PC) (v:Int),(putAll p ks v).lp=p.lp
 | [],p,v=>rfl
 |
  k::ks,p,v=>by
  unfold putAll;rw[List.foldl_cons];have:=zjc ks (setTo p k.toNat 0 v) v;unfold putAll at this;rw[this];rfl
theorem zca:∀(ks:List Int) (p:PC) (v:Int),Keep p (putAll p ks v)
 | [],p,v=>Keep.refl p
 |
  k::ks,p,v=>by
  have:=zca ks (setTo p k.toNat 0 v) v;unfold putAll at this ⊢;rw[List.foldl_cons];exact(zjD p k.toNat 0 v).trans this
def LpOk (p:PC):Prop:=∀x∈p.lp,x.2.length≤p.st.length∧∀k∈x.2,0≤k∧zj4 p k.toNat 1
theorem LpOk.keep {p q:PC} (h:LpOk p) (hk:Keep p q) (hl:q.lp=p.lp):LpOk q:=fun x hx=>by rw[hl] at hx;exact⟨Wn (h x hx).1 hk.len,fun k hk'=>⟨((h x hx).2 k hk').1,hk.to _ _ ((h x hx).2 k hk').2⟩⟩
theorem zl7 (p:PC) (v:Int):zj4 (zaB p v) p.st.length 1:=⟨⟨1,0,some [v]⟩,[v],by simp[zaB,addP],rfl,by simp⟩
theorem zzg {l:List (Int × List Int)} (h:l≠[]):(topL l,brkL l)∈l:=by
 unfold topL brkL
 cases hl:l.getLast? with
 | none=>simp at hl;exact absurd hl h
 | some x=>exact W3 hl
def zfx (a b:List (Int × List Int)):Prop:=b.length=a.length∧b.dropLast=a.dropLast∧topL b=topL a
theorem zfx.refl (a:List (Int × List Int)):zfx a a:=⟨rfl,rfl,rfl⟩
theorem zfx.trans {a b c:List (Int × List Int)} (h:zfx a b) (k:zfx b c):zfx a c:=⟨k.1.trans h.1,k.2.1.trans h.2.1,k.2.2.trans h.2.2⟩
theorem zih (l:List (Int × List Int)) (k:Int):zfx l (zky l k):=by
 unfold zky
 cases hl:l.getLast? with
 | none=>exact zfx.refl _
 |
  some x =>
  have hne:l≠[]:=by rintro rfl;simp at hl
  refine⟨?_,by simp,?_⟩
  · have:=WO.2 hne;simp;omega
  · unfold topL;simp[hl]
theorem zeK:∀(ks:List Int) (p:PC) (v:Int),(putAll p ks v).lab=p.lab∧(putAll p ks v).got=p.got
 | [],p,v=>⟨rfl,rfl⟩
 |
  k::ks,p,v=>by
  unfold putAll;rw[List.foldl_cons];have:=zeK ks (setTo p k.toNat 0 v) v;unfold putAll at this;exact this
theorem zuO (l:List (Int × Int)) (k v:Int):(setL l k v).length≤l.length+1:=by
 unfold setL
 split<;>simp
structure PostP (n:Nat) (p q:PC):Prop where
 keep:Keep p q
 len:q.st.length+q.lab.length≤p.st.length+p.lab.length+n
 got:q.got.length+p.st.length≤p.got.length+q.st.length
 lp:zfx p.lp q.lp
 ok:LpOk p→LpOk q
theorem PostP.add (p:PC) (s:PSt):PostP 1 p (addP p s):=⟨zbP p s,by simp only[addP,Wf,Wg];omega,by simp only[addP,Wf,Wg];omega,zfx.refl _,fun h=>h.keep (zbP p s) rfl⟩
theorem PostP.refl (p:PC):PostP 0 p p:=⟨Keep.refl p,by omega,by omega,zfx.refl _,fun h=>h⟩
theorem PostP.trans {n m:Nat} {p q r:PC} (h:PostP n p q) (k:PostP m q r):PostP (n+m) p r:=⟨h.keep.trans k.keep,by have:=h.len;have:=k.len;omega,by have:=h.got;have:=k.got;omega,h.lp.trans k.lp,fun x=>k.ok (h.ok x)⟩
theorem PostP.mono {n m:Nat} {p q:PC} (h:PostP n p q) (hm:n≤m):PostP m p q:=⟨h.keep,by have:=h.len;omega,h.got,h.lp,h.ok⟩
theorem PostP.putAll (p:PC) (ks:List Int) (v:Int):PostP 0 p (putAll p ks v):=⟨zca ks p v,by rw[zeM,(zeK ks p v).1];omega,by rw[zeM,(zeK ks p v).2];omega,by rw[zjc];exact zfx.refl _,fun h=>h.keep (zca ks p v) (zjc ks p v)⟩
theorem PostP.setTo (p:PC) (k i:Nat) (v:Int):PostP 0 p (setTo p k i v):=⟨zjD p k i v,by simp[Go.Ab.setTo],by simp[Go.Ab.setTo],zfx.refl _,fun h=>h.keep (zjD p k i v) rfl⟩
theorem PostP.appTo (p:PC) (k:Nat) (v:Int):PostP 0 p (appTo p k v):=⟨zjG p k v,by simp[Go.Ab.appTo],by simp[Go.Ab.appTo],zfx.refl _,fun h=>h.keep (zjG p k v) rfl⟩
theorem PostP.loop {n:Nat} {p q:PC} {top:Int} (h:PostP n (zbl p top) q):PostP (n+1) p (zd0 q top)∧{ q with lp:=q.lp.dropLast }.lp=p.lp∧q.lp≠[]:=by
 have hlp:q.lp.dropLast=p.lp:=by rw[h.lp.2.1];simp[zbl]
 have hne:q.lp≠[]:=by have:=h.lp.1;simp only[zbl,Wf,Wg] at this;intro e;rw[e] at this;simp at this
 have hk0:Keep p q:=⟨h.keep.len,fun k n x=>h.keep.to k n x⟩;refine⟨?_,hlp,hne⟩;unfold zd0;simp only;rw[hlp];have hk1:Keep q { q with lp:=p.lp }:=Keep.of_st rfl;have h1:Keep p (zaB { q with lp:=p.lp } top):=(hk0.trans hk1).trans (zbP _ _);refine⟨h1.trans (zca _ _ _),?_,?_,?_,fun ho=>?_⟩
 · rw[zeM,(zeK _ _ _).1];have:=h.len;simp only[zbl] at this;simp[zaB,addP];omega
 · rw[zeM,(zeK _ _ _).2];have:=h.got;simp only[zbl] at this;simp[zaB,addP];omega
 · rw[zjc];exact zfx.refl _
 · exact ho.keep (h1.trans (zca _ _ _)) (zjc _ _ _)
theorem zsB {p:PC} (h:LpOk p) (t:Int):LpOk (zbl p t):=by
 intro x hx
 rcases Wu.1 hx with hx|hx
 · exact h x hx
 · rw[Wc.1 hx];exact⟨Wv _,fun k hk=>by cases hk⟩
mutual
theorem zbT:∀(n:Nd) (p:PC),PostP (4 * zax n - 1) p (zaF n p)
 |
  .mk f c l,p=>by
  have hs:zax (.mk f c l)=1+zZ l:=by rw[zax]
  rw[zaF,hs];split
  · exact(zbL l p).mono (by omega)
  split
  · exact(PostP.add p _).mono (by omega)
  split
  · simp only;have h1:PostP 1 p (zaP p):=PostP.add p _;have h2:=zqx p.st.length l (zaP p) [];exact((h1.trans h2).trans (PostP.putAll _ _ _)).mono (by omega)
  split
  · exact(PostP.loop (zbL l (zbl p p.st.length))).1.mono (by omega)
  split
  · simp only;have h1:PostP 1 p (addP p ⟨0,f.block,none⟩):=PostP.add p _;have h2:PostP 2 p (zeB p f.block):=h1.trans (PostP.add _ _);have h3:=(PostP.loop (zbL l (zbl (zeB p f.block) p.st.length))).1;exact((h2.trans h3).trans (PostP.setTo _ _ _ _)).mono (by omega)
  split
  ·
   have h1:PostP 1 p (zaB p 0):=PostP.add p _;refine⟨⟨h1.keep.len,h1.keep.to⟩,by have:=h1.len;simp only at this ⊢;omega,h1.got,zih _ _,fun h x hx=>?_⟩;have hl:LpOk (zaB p 0):=h1.ok h;simp only at hx ⊢;unfold zky at hx
   cases hg:p.lp.getLast? with
   | none=>rw[hg] at hx;exact hl x hx
   |
    some y =>
    rw[hg] at hx
    rcases Wu.1 hx with hx|hx
    · exact hl x (List.dropLast_subset _ hx)
    ·
     rw[Wc.1 hx];have hy:=h y (W3 hg)
     have e:(zaB p 0).st.length=p.st.length+1:=by simp[zaB,addP]
     refine⟨by simp only[Wf,Wg,e];have:=hy.1;omega,fun k hk=>?_⟩
     rcases Wu.1 hk with hk|hk
     · exact⟨(hy.2 k hk).1,h1.keep.to _ _ (hy.2 k hk).2⟩
     · rw[Wc.1 hk];exact⟨by omega,by rw[Wd];exact zl7 p 0⟩
  split
  · exact(PostP.add p _).mono (by omega)
  split
  · have h1:PostP 1 p (zaB p 0):=PostP.add p _;exact⟨⟨h1.keep.len,h1.keep.to⟩,by have:=h1.len;simp only at this ⊢;omega,by have:=zuO p.got p.st.length f.label;simp only[zaB,addP,Wf,Wg] at this ⊢;omega,h1.lp,h1.ok⟩
  split
  · exact⟨Keep.of_st rfl,by have:=zuO p.lab f.label p.st.length;simp only;omega,by simp,zfx.refl _,fun h=>h.keep (Keep.of_st rfl) rfl⟩
  split
  · exact(PostP.add p _).mono (by omega)
  · exact(PostP.refl p).mono (by omega)
theorem zbL:∀(l:List Nd) (p:PC),PostP (4 * zZ l) p (zaC l p)
 | [],p=>by rw[zaC];exact PostP.refl p
 |
  n::l,p=>by
  rw[zaC,zZ];exact((zbT n p).trans (zbL l (zaF n p))).mono (by omega)
theorem zqx (at':Nat):∀(l:List Nd) (p:PC) (ends:List Int),PostP (4 * zZ l) p (brP at' l p ends).1
 | [],p,ends=>by rw[brP];exact PostP.refl p
 |
  n::l,p,ends=>by
  rw[brP,zZ];have h1:=(PostP.appTo p at' p.st.length).trans (zbT n (appTo p at' p.st.length));have h2:=h1.trans (PostP.add (zaF n (appTo p at' p.st.length)) ⟨1,0,some [0]⟩)
  have hs:1≤zax n:=by obtain⟨f,c,m⟩:=n;rw[zax];omega
  exact(h2.trans (zqx at' l (zaB (zaF n (appTo p at' p.st.length)) 0) _)).mono (by omega)
end
theorem zuN {k:Int}:∀(l:List (Int × Int)) (o i:Nat),zf3 (.int .i64 k) (l.mapIdx fun j e=>cMp (j+o) e) i=some ((l.findIdx? fun e=>decide (e.1=k)).map fun j=>(i+j,.int .i64 (l.getD j (0,0)).2))
 | [],o,i=>rfl
 |
  e::l,o,i=>by
  rw[W5,List.findIdx?_cons]
  by_cases h:e.1=k
  · subst h;simp only[cMp,zf3,zts,if_true,decide_true,We,Nat.add_zero,WP]
  ·
   have ih:=zuN (k:=k) l (o+1) (i+1)
   have e1:zf3 (.int .i64 k) (cMp (0+o) e::l.mapIdx fun j e=>cMp (j+1+o) e) i=zf3 (.int .i64 k) (l.mapIdx fun j e=>cMp (j+1+o) e) (i+1):=by simp only[cMp,zf3,zts,if_true,decide_eq_false (fun x=>h (Eq.symm x))]
   rw[e1]
   have e2:(l.mapIdx fun j e=>cMp (j+1+o) e)=l.mapIdx fun j e=>cMp (j+(o+1)) e:=by
    congr 1
    funext j e
    rw[show j+1+o=j+(o+1) by omega]
   rw[e2,ih,if_neg (by simpa using h)]
   cases l.findIdx? fun e=>decide (e.1=k) with
   | none=>rfl
   |
    some j =>
    simp only[We,WQ];rw[show i+1+j=i+(j+1) by omega]
theorem zsQ {k:Int} (l:List (Int × Int)):zf3 (.int .i64 k) (l.mapIdx cMp) 0=some ((l.findIdx? fun e=>decide (e.1=k)).map fun j=>(j,.int .i64 (l.getD j (0,0)).2)):=by have h:=zuN (k:=k) l 0 0;simp only[WR,Nat.add_zero] at h;exact h
theorem zrE {l:List (Int × Int)} {k v:Int} {r:Nat} {H:AH} {nx:Nat} (hl:l.length≤1000000):zwp (some .i64) r 0 (.int .i64 k) (.int .i64 v) (some (.row 3 (mpC l) 0)) H nx=⟨True,True,.undef,H.set r 0 (.row 3 (mpC (setL l k v)) 0),nx⟩:=by
 unfold mpC zwp;simp only;rw[zsQ];unfold setL
 cases hf:l.findIdx? fun e=>decide (e.1=k) with
 |
  none =>
  simp only[Option.map_none,msTo,zff,true_and,ORes.mk.injEq];refine⟨by simp;omega,?_,trivial⟩
  congr 1
  simp[WY,cMp]
 |
  some j =>
  simp only[We,msTo,zff,true_and,ORes.mk.injEq];have hj:j < l.length:=(W6.1 hf).1;refine⟨?_,trivial⟩
  congr 1
  simp only[List.length_set,AObj.row.injEq,List.cons.injEq,true_and,and_true];apply Wq;intro i;simp only[WS,Wr,W7]
  by_cases hi:j=i
  · subst hi;simp[hj,cMp,Wp]
  · simp[hi]
theorem zlB {T:AH} {N:Nat} {x:AObj} (h:T.look N=none):∀r o,T.look r=some o→(T.put N x).look r=some o:=by
 intro r o hr;rw[AH.look_put];split
 · rename_i e;rw[e,h] at hr;cases hr
 · exact hr
theorem zxU {M:Nat} {p:PC} {γ:Gn} {T T':AH} (h:∀r o,T.look r=some o→T'.look r=some o):∀r o,(cH M p γ T).look r=some o→(cH M p γ T').look r=some o :=
 zj (zj (zj (zj (zj (zj (zj (zj h)))))))
theorem zcL {B nx M:Nat} {p:PC} {γ:Gn} {T:AH} {N:Nat} {o:AObj} {K:Kn} {v:AV} (hB:B≤nx) (hT:TailOk N T) (hv:K.get 0=v):Ent B K (cH M p γ (T.put N o)) nx [(0,v)] (cH M p γ T) nx :=
 Ent.forget hB (Wa _) (zxU (zlB (hT.none (Wa _)))) (fun i=>by
  cases i with
  | zero=>exact .inr hv.symm
  | succ i=>exact .inl rfl)
theorem TailOk.put1 {N x:Nat} {T:AH} (hT:TailOk N T) (h:N < x):∀o:AObj,(T.put N o).look x=Option.none:=fun o=>by rw[AH.look_put,if_neg (by omega)];exact hT.none (by omega)
theorem TailOk.put2 {N x y:Nat} {T:AH} (hT:TailOk N T) (h:N < y) (h2:y < x):∀o o':AObj,((T.put N o).put y o').look x=Option.none:=fun o o'=>by rw[AH.look_put,if_neg (by omega),AH.look_put,if_neg (by omega)];exact hT.none (by omega)
theorem zoC {β:Type} {f:Nat→β} {k:Nat}:updF f k (f k)=f:=by
 funext i
 unfold updF;split
 · rename_i h;rw[h]
 · rfl
theorem zxE {M n:Nat} {xl:Nat→List (Int × AV)} {gx:Nat→Nat} {t:Int} {x:AV}:(fi cX M xl gx).set n ([[.int .i64 t,x]],gx n)=fi cX M (updF xl n [(t,x)]) gx:=by have h:=zx0 (c:=cX) (n:=M) (k:=n) (g:=gx n) (ll:=xl) (gs:=gx) (l:=[(t,x)]);rw[zoC] at h;exact h
theorem zxB {M n g:Nat} {bl:Nat→List Int} {gb:Nat→Nat} {l:List Int} {k:Int}:(fi cI M bl gb).set n (l.map cI++[[.int .i64 k]],g)=fi cI M (updF bl n (l++[k])) (updF gb n g):=by rw[←zx0,WD,WU]
theorem zvA {l:List (Int × List Int)} {k:Int} {n:Nat} (hn:l.length=n+1):zky l k=l.set n (l[n].1,l[n].2++[k]):=by
 unfold zky;rw[WF,show l.length - 1=n by omega,Wj (by omega)];simp only;apply Wq;intro i
 have e:l.length - 1=n:=by omega
 rw[WS,WG,W8]
 by_cases hi:n=i
 · subst hi;rw[if_neg (show ¬n < l.length - 1 by omega),if_pos rfl,if_pos (show n < l.length by omega),e];simp
 ·
  rw[if_neg hi]
  by_cases h2:i < n
  · rw[if_pos (show i < l.length - 1 by omega),List.getElem?_dropLast,if_pos (show i < l.length - 1 by omega)]
  · rw[if_neg (show ¬i < l.length - 1 by omega),W9 (by simp;omega),W9 (by omega)]
def brkP (p:PC):PC:={ zaB p 0 with lp:=zky p.lp p.st.length }
def brkG (γ:Gn) (k n:Nat) (top:Int) (l:List Int):Gn:={ zhA γ k [0] with xl:=updF γ.xl n [(top,.own 7 (n+1) (γ.gb n+1) 0 (l.length+1))],bl:=updF γ.bl n (l++[(k:Int)]),gb:=updF γ.gb n (γ.gb n+1) }
theorem zBd {p:PC} {γ:Gn} {n:Nat} (hok:OkC (zaB p 0) (zhA γ p.st.length [0])) (hn:p.lp.length=n+1):OkC (brkP p) (brkG γ p.st.length n p.lp[n].1 p.lp[n].2):=by
 refine⟨hok.to,fun d hd=>?_,hok.s2,fun d x hx=>?_⟩
 rotate_left
 ·
  simp only[brkG] at hx
  by_cases hd:d=n
  · subst hd;rw[zbh] at hx;rw[Wc.1 hx];rfl
  · rw[zdu hd] at hx;exact hok.xl d x hx
 have hd':d < p.lp.length:=by have h:d < (zky p.lp p.st.length).length:=hd;rw[(zih _ _).1] at h;exact h
 have hl:(brkP p).lp=p.lp.set n (p.lp[n].1,p.lp[n].2++[(p.st.length:Int)]):=zvA hn
 have hg:(brkP p).lp[d]=(p.lp.set n (p.lp[n].1,p.lp[n].2++[(p.st.length:Int)]))[d]'(by simpa using hd'):=by simp only[hl]
 rw[hg,List.getElem_set]
 by_cases hdn:n=d
 · subst hdn;simp only[if_true,brkG,zbh];exact⟨by simp,by simp⟩
 · rw[if_neg hdn];have h:=hok.lp d hd';simp only[brkG,zdu (Ne.symm hdn)];exact h
theorem brk_H {M:Nat} {p:PC} {γ:Gn} {T:AH} {n:Nat} {top:Int} {l:List Int}:cH M (brkP p) (brkG γ p.st.length n top l) T =
  (0,.row 4 [[.own 1 0 (γ.gs+1) 0 (zaB p 0).st.length,.own 2 0 γ.gl 0 p.lp.length,.mp 3 0,.mp 4 0]] 0)::(1,.row 3 (stC (updF γ.gt p.st.length (γ.gt p.st.length+1)) (zaB p 0).st) (γ.gs+1))::(2,.row 1 (lpC γ.gx p.lp.length++γ.s2) γ.gl)::(3,.row 3 (mpC p.lab) 0)::(4,.row 3 (mpC p.got) 0) ::
  (5,.fam 1 (fi cI M (updF γ.tl p.st.length [0]) (updF γ.gt p.st.length (γ.gt p.st.length+1))))::(6,.fam 2 (fi cX M (updF γ.xl n [(top,.own 7 (n+1) (γ.gb n+1) 0 (l.length+1))]) γ.gx))::(7,.fam 1 (fi cI M (updF γ.bl n (l++[(p.st.length:Int)])) (updF γ.gb n (γ.gb n+1))))::T:=by
 unfold cH brkP brkG zhA;simp only[(zih p.lp p.st.length).1];rfl
theorem zhT {a0 a1 a2 a3 a4 a5 a6 a7:AObj} {T:AH} {x:Nat} (hx:8≤x):AH.look ((0,a0)::(1,a1)::(2,a2)::(3,a3)::(4,a4)::(5,a5)::(6,a6)::(7,a7)::T) x=T.look x:=by simp only[AH.look,zH (show 0≠x by omega),zH (show 1≠x by omega),zH (show 2≠x by omega),zH (show 3≠x by omega),zH (show 4≠x by omega),zH (show 5≠x by omega),zH (show 6≠x by omega),zH (show 7≠x by omega),cond_false]
theorem zxf {B nx M N N2 n:Nat} {a0 a1 a2 a3 a4 a5 o o':AObj} {K:Kn} {v:AV} {T:AH} {xl:Nat→List (Int × AV)} {gx gb:Nat→Nat} {bl:Nat→List Int} {top k:Int} (hB:B≤nx) (hT:TailOk N T) (hN:N < N2) (hn:n < M) (hv:K.get 0=v) (hx:xl n=[(top,.nilsl)]) :
  Ent B K ((0,a0)::(1,a1)::(2,a2)::(3,a3)::(4,a4)::(5,a5)::(6,.fam 2 (fi cX M (updF xl n [(top,.own (N2+1) 0 0 0 1)]) gx))::(7,.fam 1 (fi cI M bl gb))::((T.put N o).put N2 o').put (N2+1) (.row 1 [[.int .i64 k]] 0)) nx
   [(0,v)] ((0,a0)::(1,a1)::(2,a2)::(3,a3)::(4,a4)::(5,a5)::(6,.fam 2 (fi cX M (updF xl n [(top,.own 7 (n+1) (gb n+1) 0 1)]) gx))::(7,.fam 1 (fi cI M (updF bl n [k]) (updF gb n (gb n+1))))::T) nx:=by
 have h8:=hT.eight;refine Ent.adoptF (c:=cI) (F:=7) (k:=n) (m:=M) (sz:=1) (ll:=bl) (gs:=gb) (l:=[k]) (some (N2+1)) hB hn rfl ?_ (by simp) ?_ ⟨by rw[hv];exact .same _,trivial⟩
 · rintro x ⟨rfl⟩;refine⟨by omega,?_⟩;rw[zhT (by omega)];exact zK
 ·
  intro x o2 h
  match x with
  | 0=>cases h;exact⟨fun m e=>by cases e;omega,.inr ⟨by omega,_,rfl,.same _⟩⟩
  | 1=>cases h;exact⟨fun m e=>by cases e;omega,.inr ⟨by omega,_,rfl,.same _⟩⟩
  | 2=>cases h;exact⟨fun m e=>by cases e;omega,.inr ⟨by omega,_,rfl,.same _⟩⟩
  | 3=>cases h;exact⟨fun m e=>by cases e;omega,.inr ⟨by omega,_,rfl,.same _⟩⟩
  | 4=>cases h;exact⟨fun m e=>by cases e;omega,.inr ⟨by omega,_,rfl,.same _⟩⟩
  | 5=>cases h;exact⟨fun m e=>by cases e;omega,.inr ⟨by omega,_,rfl,.same _⟩⟩
  |
   6 =>
   cases h;refine⟨fun m e=>by cases e;omega,.inr ⟨by omega,_,rfl,?_⟩⟩
   have hu:updF xl n [(top,.own 7 (n+1) (gb n+1) 0 1)]=updF (updF xl n [(top,.own (N2+1) 0 0 0 1)]) n [(top,.own 7 (n+1) (gb n+1) 0 1)]:=by
    funext i
    unfold updF
    split<;>rfl
   rw[hu];refine ObjA.updF ?_;rw[zbh];exact RowA.cons ⟨.same _,.own _ _ _ rfl,trivial⟩ (RowA.refl _)
  | 7=>cases h;exact⟨fun m e=>by cases e;omega,.inl ⟨rfl,rfl⟩⟩
  |
   x+8 =>
   rw[zhT (by omega)] at h;have hx:=hT.num _ _ h;refine⟨fun m e=>by cases e;omega,.inr ⟨by omega,o2,?_,.same _⟩⟩;rw[zhT (by omega),AH.look_put,if_neg (by omega),AH.look_put,if_neg (by omega),AH.look_put,if_neg (by omega)];exact h
theorem zzv {B nx N N2:Nat} {a0 a1 a2 a3 a4 a5 a6 a7 o o':AObj} {K:Kn} {v:AV} {T:AH} (hB:B≤nx) (hT:TailOk N T) (hN:N < N2) (hv:K.get 0=v) :
  Ent B K ((0,a0)::(1,a1)::(2,a2)::(3,a3)::(4,a4)::(5,a5)::(6,a6)::(7,a7)::(T.put N o).put N2 o') nx [(0,v)] ((0,a0)::(1,a1)::(2,a2)::(3,a3)::(4,a4)::(5,a5)::(6,a6)::(7,a7)::T) nx :=
 Ent.forget hB (Wa _) (zj (zj (zj (zj (zj (zj (zj (zj (fun r x h=>by
  have:=hT.num _ _ h;rw[AH.look_put,if_neg (by omega),AH.look_put,if_neg (by omega)]
  exact h)))))))))
  (fun i=>by
   cases i with
   | zero=>exact .inr hv.symm
   | succ i=>exact .inl rfl)
def zjW (n:Nat) (γ γ':Gn):Prop:=∀d,d < n→γ'.gx d=γ.gx d
theorem zjW.trans {n m:Nat} {a b c:Gn} (h:zjW n a b) (k:zjW m b c) (e:n≤m):zjW n a c:=fun d hd=>(k d (by omega)).trans (h d hd)
def zer (M:Nat) (e:Nd):Prop:=∀(p:PC) (γ:Gn) (T:AH) (N:Nat),OkC p γ→LpOk p→TailOk N T→p.st.length+p.lab.length+4 * zax e≤M→p.lp.length+zax e≤M→p.got.length≤p.st.length→zdF e (!p.lp.isEmpty)=false →
 z7 Tryz.prog zbY [.ptr 0 0 0 0 0,.agg (encN e)] (cH M p γ T) N (fun _ H nx=>N≤nx∧∃γ',OkC (zaF e p) γ'∧zjW p.lp.length γ γ'∧H=cH M (zaF e p) γ' T)
def zqm (M:Nat) (l:List Nd):Prop:=∀(p:PC) (γ:Gn) (T:AH) (N:Nat),OkC p γ→LpOk p→TailOk N T→p.st.length+p.lab.length+4 * zZ l≤M→p.lp.length+zZ l≤M→p.got.length≤p.st.length→zaN l (!p.lp.isEmpty)=false →
 z7 Tryz.prog zdo [.ptr 0 0 0 0 0,encL 5 encN l] (cH M p γ T) N (fun _ H nx=>N≤nx∧∃γ',OkC (zaC l p) γ'∧zjW p.lp.length γ γ'∧H=cH M (zaC l p) γ' T)
def BrOk (M:Nat) (l:List Nd):Prop:=∀(p:PC) (γ:Gn) (T:AH) (N:Nat),OkC p γ→LpOk p→TailOk N T→p.st.length+p.lab.length+4 * zZ l+1≤M→p.lp.length+zZ l≤M→p.got.length≤p.st.length→zaN l (!p.lp.isEmpty)=false →
 z7 Tryz.prog zcB [.ptr 0 0 0 0 0,encL 5 encN l] (cH M p γ T) N (fun _ H nx=>N≤nx∧∃γ',OkC (zqH l p) γ'∧zjW p.lp.length γ γ'∧H=cH M (zqH l p) γ' T)
def zqQ (M:Nat) (l:List Nd):Prop:=∀(p:PC) (γ:Gn) (T:AH) (N:Nat) (b:Option Int) (fv:AV),OkC p γ→LpOk p→TailOk N T→p.st.length+p.lab.length+4 * zZ l+3≤M→p.lp.length+zZ l+1≤M→p.got.length≤p.st.length→zaN l true=false →
 (match b with|none=>fv=.fn (.func zbw) []|some b=>∃rc c,fv=.fn (.func zbv) [.ptr rc 0 0 0 0,.iptr 5 c]∧T.look rc=some (.row 1 [[.ptr 0 0 0 0 0]] 0)∧c 1=.int .i64 b) →
 z7 Tryz.prog zcT [.ptr 0 0 0 0 0,encL 5 encN l,fv] (cH M p γ T) N (fun _ H nx=>N≤nx∧∃γ',OkC (zsp b l p) γ'∧zjW p.lp.length γ γ'∧H=cH M (zsp b l p) γ' T)
theorem zcR (f:NdF) (c:List Ex) (l:List Nd):encN (.mk f c l)=[.int .i64 f.kind,.int .i64 f.block,.int .i64 f.label,encL 5 encX c,encL 5 encN l]:=zeC f c l
theorem Qq {p q:Prop}(k:q)(h:Im q p:=by(repeat first|simp(disch:=try exact dis1) only[evD,Nat.reduceBEq,Nat.reduceAdd,Nat.reduceLeDiff,zD] | ((with_reducible apply Im.i);intro _) | ((with_reducible apply Im.a);omega));exact Im.r):p:=h k
theorem zCo (M:Nat) (hM:M≤1000000) (f:NdF) (c:List Ex) (l:List Nd) (hall:zqm M l) (hk:f.kind=1):zer M (.mk f c l):=by
 intro p γ T N hok hlp hT hl1 hl2 hgot hst;refine z8 (fn_x zN rfl ?_);rw[zcK];rw[zax] at hl1 hl2;unfold zdF at hst;obtain⟨kd,bl,lb⟩:=f;simp only at hst hk ⊢;unfold zI;have hB:=hBig;have h8:=hT.eight;obtain⟨n0,n1,n2,n3,n4,n5,n6,n7⟩:=ne8 hT.eight;have tN:T.look N=none:=hT.none (Wa _);have hT1:=hT.put 1 [[.ptr 0 0 0 0 0]] (fun c hc=>by rw[Wc.1 hc];simp[AV.lt0]);rw[zcR];simp only[cH]
 have hs:¬(kd=7∨kd=8)→zaN l (!p.lp.isEmpty||decide (kd=4)||decide (kd=5))=false:=fun h=>by rw[if_neg (fun e=>h e.1)] at hst;exact hst
 have hne:(kd=7∨kd=8)→p.lp≠[]:=fun h e=>by rw[e,if_pos ⟨h,rfl⟩] at hst;cases hst
 clear hst;rw[if_pos (show kd=1 by omega)]
 have hs':zaN l (!p.lp.isEmpty)=false:=by have:=hs (by omega);rwa [dF (by omega),dF (by omega),Wk,Wk] at this
 (repeat first|simp(disch:=try exact dis1) only[evD,Nat.reduceBEq,Nat.reduceAdd,Nat.reduceLeDiff,dT,dF,fldP,n0,n1,n2,n3,n4,n5,n6,n7,tN,zB,zK]|with_reducible first|intro _|refine aJ ?_)
 refine(hall p γ (T.put N (.row 1 [[.ptr 0 0 0 0 0]] 0)) (N+1) hok hlp hT1 (by omega) (by omega) (by omega) hs').mono ?_;rintro x H N2 ⟨hN2,γ2,ok2,sx,rfl⟩
 (refine Qq ?_;intros)
 exact⟨_,_,N2,zcL (by omega) hT rfl,by omega,_,ok2,sx,rfl⟩
theorem zCe (M:Nat) (hM:M≤1000000) (f:NdF) (c:List Ex) (l:List Nd) (hk:f.kind=2):zer M (.mk f c l):=by
 intro p γ T N hok hlp hT hl1 hl2 hgot hst;refine z8 (fn_x zN rfl ?_);rw[zcK];rw[zax] at hl1 hl2;unfold zdF at hst;obtain⟨kd,bl,lb⟩:=f;simp only at hst hk ⊢;unfold zI;have hB:=hBig;have h8:=hT.eight;obtain⟨n0,n1,n2,n3,n4,n5,n6,n7⟩:=ne8 hT.eight;have tN:T.look N=none:=hT.none (Wa _);have hT1:=hT.put 1 [[.ptr 0 0 0 0 0]] (fun c hc=>by rw[Wc.1 hc];simp[AV.lt0]);rw[zcR];simp only[cH]
 have hs:¬(kd=7∨kd=8)→zaN l (!p.lp.isEmpty||decide (kd=4)||decide (kd=5))=false:=fun h=>by rw[if_neg (fun e=>h e.1)] at hst;exact hst
 have hne:(kd=7∨kd=8)→p.lp≠[]:=fun h e=>by rw[e,if_pos ⟨h,rfl⟩] at hst;cases hst
 clear hst;rw[if_neg (show ¬kd=1 by omega)];rw[if_pos (show kd=2 by omega)]
 (repeat first|simp(disch:=try exact dis1) only[evD,Nat.reduceBEq,Nat.reduceAdd,Nat.reduceLeDiff,dT,dF,fldP,n0,n1,n2,n3,n4,n5,n6,n7,tN,zB,zK]|with_reducible first|intro _|refine aJ ?_)
 refine(zcP M p γ (T.put N (.row 1 [[.ptr 0 0 0 0 0]] 0)) (N+1) 0 bl hok hT1 (by omega)).mono ?_;rintro x H N2 ⟨hN2,rfl,ok2,rfl⟩
 (refine Qq ?_;intros)
 exact⟨_,_,N2,zcL (by omega) hT rfl,by omega,_,ok2,fun _ _=>rfl,rfl⟩
theorem zAJ (M:Nat) (hM:M≤1000000) (f:NdF) (c:List Ex) (l:List Nd) (hk:f.kind=11):zer M (.mk f c l):=by
 intro p γ T N hok hlp hT hl1 hl2 hgot hst;refine z8 (fn_x zN rfl ?_);rw[zcK];rw[zax] at hl1 hl2;unfold zdF at hst;obtain⟨kd,bl,lb⟩:=f;simp only at hst hk ⊢;unfold zI;have hB:=hBig;have h8:=hT.eight;obtain⟨n0,n1,n2,n3,n4,n5,n6,n7⟩:=ne8 hT.eight;have tN:T.look N=none:=hT.none (Wa _);have hT1:=hT.put 1 [[.ptr 0 0 0 0 0]] (fun c hc=>by rw[Wc.1 hc];simp[AV.lt0]);rw[zcR];simp only[cH]
 have hs:¬(kd=7∨kd=8)→zaN l (!p.lp.isEmpty||decide (kd=4)||decide (kd=5))=false:=fun h=>by rw[if_neg (fun e=>h e.1)] at hst;exact hst
 have hne:(kd=7∨kd=8)→p.lp≠[]:=fun h e=>by rw[e,if_pos ⟨h,rfl⟩] at hst;cases hst
 clear hst;rw[if_neg (show ¬kd=1 by omega)];rw[if_neg (show ¬kd=2 by omega)];rw[if_neg (show ¬(kd=3∨kd=6) by omega)];rw[if_neg (show ¬kd=4 by omega)];rw[if_neg (show ¬kd=5 by omega)];rw[if_neg (show ¬kd=7 by omega)];rw[if_neg (show ¬kd=8 by omega)];rw[if_neg (show ¬kd=9 by omega)];rw[if_neg (show ¬kd=10 by omega)];rw[if_pos (show (kd=11∨kd=12) by omega)]
 (repeat first|simp(disch:=try exact dis1) only[evD,Nat.reduceBEq,Nat.reduceAdd,Nat.reduceLeDiff,dT,dF,fldP,n0,n1,n2,n3,n4,n5,n6,n7,tN,zB,zK]|with_reducible first|intro _|refine aJ ?_)
 refine(zcP M p γ (T.put N (.row 1 [[.ptr 0 0 0 0 0]] 0)) (N+1) 2 0 hok hT1 (by omega)).mono ?_;rintro x H N2 ⟨hN2,rfl,ok2,rfl⟩
 (refine Qq ?_;intros)
 exact⟨_,_,N2,zcL (by omega) hT rfl,by omega,_,ok2,fun _ _=>rfl,rfl⟩
theorem zzk (M:Nat) (hM:M≤1000000) (f:NdF) (c:List Ex) (l:List Nd) (hk:f.kind=12):zer M (.mk f c l):=by
 intro p γ T N hok hlp hT hl1 hl2 hgot hst;refine z8 (fn_x zN rfl ?_);rw[zcK];rw[zax] at hl1 hl2;unfold zdF at hst;obtain⟨kd,bl,lb⟩:=f;simp only at hst hk ⊢;unfold zI;have hB:=hBig;have h8:=hT.eight;obtain⟨n0,n1,n2,n3,n4,n5,n6,n7⟩:=ne8 hT.eight;have tN:T.look N=none:=hT.none (Wa _);have hT1:=hT.put 1 [[.ptr 0 0 0 0 0]] (fun c hc=>by rw[Wc.1 hc];simp[AV.lt0]);rw[zcR];simp only[cH]
 have hs:¬(kd=7∨kd=8)→zaN l (!p.lp.isEmpty||decide (kd=4)||decide (kd=5))=false:=fun h=>by rw[if_neg (fun e=>h e.1)] at hst;exact hst
 have hne:(kd=7∨kd=8)→p.lp≠[]:=fun h e=>by rw[e,if_pos ⟨h,rfl⟩] at hst;cases hst
 clear hst;rw[if_neg (show ¬kd=1 by omega)];rw[if_neg (show ¬kd=2 by omega)];rw[if_neg (show ¬(kd=3∨kd=6) by omega)];rw[if_neg (show ¬kd=4 by omega)];rw[if_neg (show ¬kd=5 by omega)];rw[if_neg (show ¬kd=7 by omega)];rw[if_neg (show ¬kd=8 by omega)];rw[if_neg (show ¬kd=9 by omega)];rw[if_neg (show ¬kd=10 by omega)];rw[if_pos (show (kd=11∨kd=12) by omega)]
 (repeat first|simp(disch:=try exact dis1) only[evD,Nat.reduceBEq,Nat.reduceAdd,Nat.reduceLeDiff,dT,dF,fldP,n0,n1,n2,n3,n4,n5,n6,n7,tN,zB,zK]|with_reducible first|intro _|refine aJ ?_)
 refine(zcP M p γ (T.put N (.row 1 [[.ptr 0 0 0 0 0]] 0)) (N+1) 2 0 hok hT1 (by omega)).mono ?_;rintro x H N2 ⟨hN2,rfl,ok2,rfl⟩
 (refine Qq ?_;intros)
 exact⟨_,_,N2,zcL (by omega) hT rfl,by omega,_,ok2,fun _ _=>rfl,rfl⟩
theorem zBO (M:Nat) (hM:M≤1000000) (f:NdF) (c:List Ex) (l:List Nd) (hbr:BrOk M l) (hk:f.kind=3):zer M (.mk f c l):=by
 intro p γ T N hok hlp hT hl1 hl2 hgot hst;refine z8 (fn_x zN rfl ?_);rw[zcK];rw[zax] at hl1 hl2;unfold zdF at hst;obtain⟨kd,bl,lb⟩:=f;simp only at hst hk ⊢;unfold zI;have hB:=hBig;have h8:=hT.eight;obtain⟨n0,n1,n2,n3,n4,n5,n6,n7⟩:=ne8 hT.eight;have tN:T.look N=none:=hT.none (Wa _);have hT1:=hT.put 1 [[.ptr 0 0 0 0 0]] (fun c hc=>by rw[Wc.1 hc];simp[AV.lt0]);rw[zcR];simp only[cH]
 have hs:¬(kd=7∨kd=8)→zaN l (!p.lp.isEmpty||decide (kd=4)||decide (kd=5))=false:=fun h=>by rw[if_neg (fun e=>h e.1)] at hst;exact hst
 have hne:(kd=7∨kd=8)→p.lp≠[]:=fun h e=>by rw[e,if_pos ⟨h,rfl⟩] at hst;cases hst
 clear hst;rw[if_neg (show ¬kd=1 by omega)];rw[if_neg (show ¬kd=2 by omega)];rw[if_pos (show (kd=3∨kd=6) by omega)]
 have hs':zaN l (!p.lp.isEmpty)=false:=by have:=hs (by omega);rwa [dF (by omega),dF (by omega),Wk,Wk] at this
 (repeat first|simp(disch:=try exact dis1) only[evD,Nat.reduceBEq,Nat.reduceAdd,Nat.reduceLeDiff,dT,dF,fldP,n0,n1,n2,n3,n4,n5,n6,n7,tN,zB,zK]|with_reducible first|intro _|refine aJ ?_)
 refine(hbr p γ (T.put N (.row 1 [[.ptr 0 0 0 0 0]] 0)) (N+1) hok hlp hT1 (by omega) (by omega) (by omega) hs').mono ?_;rintro x H N2 ⟨hN2,γ2,ok2,sx,rfl⟩
 (refine Qq ?_;intros)
 exact⟨_,_,N2,zcL (by omega) hT rfl,by omega,_,ok2,sx,rfl⟩
theorem zB2 (M:Nat) (hM:M≤1000000) (f:NdF) (c:List Ex) (l:List Nd) (hbr:BrOk M l) (hk:f.kind=6):zer M (.mk f c l):=by
 intro p γ T N hok hlp hT hl1 hl2 hgot hst;refine z8 (fn_x zN rfl ?_);rw[zcK];rw[zax] at hl1 hl2;unfold zdF at hst;obtain⟨kd,bl,lb⟩:=f;simp only at hst hk ⊢;unfold zI;have hB:=hBig;have h8:=hT.eight;obtain⟨n0,n1,n2,n3,n4,n5,n6,n7⟩:=ne8 hT.eight;have tN:T.look N=none:=hT.none (Wa _);have hT1:=hT.put 1 [[.ptr 0 0 0 0 0]] (fun c hc=>by rw[Wc.1 hc];simp[AV.lt0]);rw[zcR];simp only[cH]
 have hs:¬(kd=7∨kd=8)→zaN l (!p.lp.isEmpty||decide (kd=4)||decide (kd=5))=false:=fun h=>by rw[if_neg (fun e=>h e.1)] at hst;exact hst
 have hne:(kd=7∨kd=8)→p.lp≠[]:=fun h e=>by rw[e,if_pos ⟨h,rfl⟩] at hst;cases hst
 clear hst;rw[if_neg (show ¬kd=1 by omega)];rw[if_neg (show ¬kd=2 by omega)];rw[if_pos (show (kd=3∨kd=6) by omega)]
 have hs':zaN l (!p.lp.isEmpty)=false:=by have:=hs (by omega);rwa [dF (by omega),dF (by omega),Wk,Wk] at this
 (repeat first|simp(disch:=try exact dis1) only[evD,Nat.reduceBEq,Nat.reduceAdd,Nat.reduceLeDiff,dT,dF,fldP,n0,n1,n2,n3,n4,n5,n6,n7,tN,zB,zK]|with_reducible first|intro _|refine aJ ?_)
 refine(hbr p γ (T.put N (.row 1 [[.ptr 0 0 0 0 0]] 0)) (N+1) hok hlp hT1 (by omega) (by omega) (by omega) hs').mono ?_;rintro x H N2 ⟨hN2,γ2,ok2,sx,rfl⟩
 (refine Qq ?_;intros)
 exact⟨_,_,N2,zcL (by omega) hT rfl,by omega,_,ok2,sx,rfl⟩
theorem zBp (M:Nat) (hM:M≤1000000) (f:NdF) (c:List Ex) (l:List Nd) (hlo:zqQ M l) (hk:f.kind=4):zer M (.mk f c l):=by
 intro p γ T N hok hlp hT hl1 hl2 hgot hst;refine z8 (fn_x zN rfl ?_);rw[zcK];rw[zax] at hl1 hl2;unfold zdF at hst;obtain⟨kd,bl,lb⟩:=f;simp only at hst hk ⊢;unfold zI;have hB:=hBig;have h8:=hT.eight;obtain⟨n0,n1,n2,n3,n4,n5,n6,n7⟩:=ne8 hT.eight;have tN:T.look N=none:=hT.none (Wa _);have hT1:=hT.put 1 [[.ptr 0 0 0 0 0]] (fun c hc=>by rw[Wc.1 hc];simp[AV.lt0]);rw[zcR];simp only[cH]
 have hs:¬(kd=7∨kd=8)→zaN l (!p.lp.isEmpty||decide (kd=4)||decide (kd=5))=false:=fun h=>by rw[if_neg (fun e=>h e.1)] at hst;exact hst
 have hne:(kd=7∨kd=8)→p.lp≠[]:=fun h e=>by rw[e,if_pos ⟨h,rfl⟩] at hst;cases hst
 clear hst;rw[if_neg (show ¬kd=1 by omega)];rw[if_neg (show ¬kd=2 by omega)];rw[if_neg (show ¬(kd=3∨kd=6) by omega)];rw[if_pos (show kd=4 by omega)]
 have hs':zaN l true=false:=by have:=hs (by omega);rwa [dT hk,dF (by omega),Bool.or_true,Wk] at this
 (repeat first|simp(disch:=try exact dis1) only[evD,Nat.reduceBEq,Nat.reduceAdd,Nat.reduceLeDiff,dT,dF,fldP,n0,n1,n2,n3,n4,n5,n6,n7,tN,zB,zK]|with_reducible first|intro _|refine aJ ?_)
 refine(hlo p γ (T.put N (.row 1 [[.ptr 0 0 0 0 0]] 0)) (N+1) none _ hok hlp hT1 (by omega) (by omega) (by omega) hs' rfl).mono ?_;rintro x H N2 ⟨hN2,γ2,ok2,sx,rfl⟩
 (refine Qq ?_;intros)
 exact⟨_,_,N2,zcL (by omega) hT rfl,by omega,_,ok2,sx,rfl⟩
theorem zBl (M:Nat) (hM:M≤1000000) (f:NdF) (c:List Ex) (l:List Nd) (hlo:zqQ M l) (hk:f.kind=5):zer M (.mk f c l):=by
 intro p γ T N hok hlp hT hl1 hl2 hgot hst;refine z8 (fn_x zN rfl ?_);rw[zcK];rw[zax] at hl1 hl2;unfold zdF at hst;obtain⟨kd,bl,lb⟩:=f;simp only at hst hk ⊢;unfold zI;have hB:=hBig;have h8:=hT.eight;obtain⟨n0,n1,n2,n3,n4,n5,n6,n7⟩:=ne8 hT.eight;have tN:T.look N=none:=hT.none (Wa _);have hT1:=hT.put 1 [[.ptr 0 0 0 0 0]] (fun c hc=>by rw[Wc.1 hc];simp[AV.lt0]);rw[zcR];simp only[cH]
 have hs:¬(kd=7∨kd=8)→zaN l (!p.lp.isEmpty||decide (kd=4)||decide (kd=5))=false:=fun h=>by rw[if_neg (fun e=>h e.1)] at hst;exact hst
 have hne:(kd=7∨kd=8)→p.lp≠[]:=fun h e=>by rw[e,if_pos ⟨h,rfl⟩] at hst;cases hst
 clear hst;rw[if_neg (show ¬kd=1 by omega)];rw[if_neg (show ¬kd=2 by omega)];rw[if_neg (show ¬(kd=3∨kd=6) by omega)];rw[if_neg (show ¬kd=4 by omega)];rw[if_pos (show kd=5 by omega)]
 have hs':zaN l true=false:=by have:=hs (by omega);rwa [dT hk,Bool.or_true] at this
 (repeat first|simp(disch:=try exact dis1) only[evD,Nat.reduceBEq,Nat.reduceAdd,Nat.reduceLeDiff,dT,dF,fldP,n0,n1,n2,n3,n4,n5,n6,n7,tN,zB,zK]|with_reducible first|intro _|refine aJ ?_)
 refine(hlo p γ (T.put N (.row 1 [[.ptr 0 0 0 0 0]] 0)) (N+1) (some bl) _ hok hlp hT1 (by omega) (by omega) (by omega) hs' ⟨_,_,rfl,zK,rfl⟩).mono ?_;rintro x H N2 ⟨hN2,γ2,ok2,sx,rfl⟩
 (refine Qq ?_;intros)
 exact⟨_,_,N2,zcL (by omega) hT rfl,by omega,_,ok2,sx,rfl⟩
theorem zAd (M:Nat) (hM:M≤1000000) (f:NdF) (c:List Ex) (l:List Nd) (hk:f.kind=7):zer M (.mk f c l):=by
 intro p γ T N hok hlp hT hl1 hl2 hgot hst;refine z8 (fn_x zN rfl ?_);rw[zcK];rw[zax] at hl1 hl2;unfold zdF at hst;obtain⟨kd,bl,lb⟩:=f;simp only at hst hk ⊢;unfold zI;have hB:=hBig;have h8:=hT.eight;obtain⟨n0,n1,n2,n3,n4,n5,n6,n7⟩:=ne8 hT.eight;have tN:T.look N=none:=hT.none (Wa _);have hT1:=hT.put 1 [[.ptr 0 0 0 0 0]] (fun c hc=>by rw[Wc.1 hc];simp[AV.lt0]);rw[zcR];simp only[cH]
 have hs:¬(kd=7∨kd=8)→zaN l (!p.lp.isEmpty||decide (kd=4)||decide (kd=5))=false:=fun h=>by rw[if_neg (fun e=>h e.1)] at hst;exact hst
 have hne:(kd=7∨kd=8)→p.lp≠[]:=fun h e=>by rw[e,if_pos ⟨h,rfl⟩] at hst;cases hst
 clear hst;rw[if_neg (show ¬kd=1 by omega)];rw[if_neg (show ¬kd=2 by omega)];rw[if_neg (show ¬(kd=3∨kd=6) by omega)];rw[if_neg (show ¬kd=4 by omega)];rw[if_neg (show ¬kd=5 by omega)];rw[if_pos (show kd=7 by omega)];obtain⟨n,hn⟩:∃n,p.lp.length=n+1:=⟨p.lp.length - 1,by have:=WO.2 (hne (by omega));omega⟩
 have h6:(lpC γ.gx p.lp.length++γ.s2).getD n []=[.ptr 6 (n+1) (γ.gx n) 0 0]:=by rw[hn];simp[lpC,Wp,WG]
 have h6l:n < (lpC γ.gx p.lp.length++γ.s2).length:=by rw[hn];simp[lpC];omega
 have hfi:(fi cX M γ.xl γ.gx)[n]? = some ((γ.xl n).map cX,γ.gx n):=zkr (by omega);have hxl:=(hok.lp n (by omega)).1
 have e1:((p.lp.length:Int) - 1).toNat=n:=by omega
 have hp7:0 < p.lp.length:=by omega
 show wpX _ _ _ (retK _ (zsG N fun _ H nx=>N≤nx∧∃γ',OkC (brkP p) γ'∧zjW p.lp.length γ γ'∧H=cH M (brkP p) γ' T)) _ _ _
 by_cases hbk:p.lp[n].2=[]
 ·
  rw[if_pos hbk] at hxl;rw[hxl] at hfi
  (repeat first|simp(disch:=try exact dis1) only[evD,Nat.reduceBEq,Nat.reduceAdd,Nat.reduceLeDiff,dT,dF,fldP,n0,n1,n2,n3,n4,n5,n6,n7,tN,zB,zK,h6,h6l,hfi,e1,Wd]|with_reducible first|intro _|refine aJ ?_)
  (repeat' apply Wl)
  all_goals (refine(zcO M p γ (T.put N (.row 1 [[.ptr 0 0 0 0 0]] 0)) (N+1) 0 hok hT1 (by omega) hM).mono ?_;rintro x H N2 ⟨hN2,rfl,ok2,rfl⟩;obtain⟨m0,m1,m2,m3,m4,m5,m6,m7⟩:=ne8 (show 8≤N2 by omega);obtain⟨q0,q1,q2,q3,q4,q5,q6,q7⟩:=ne8 (show 8≤N2+1 by omega);have t2:=hT.put1 (show N < N2 by omega);have t3:=hT.put2 (show N < N2 by omega) (show N2 < N2+1 by omega);simp only[cH,zhA];(repeat first|simp(disch:=try exact dis1) only[evD,Nat.reduceBEq,Nat.reduceAdd,Nat.reduceLeDiff,dT,dF,n0,n1,n2,n3,n4,n5,n6,n7,m0,m1,m2,m3,m4,m5,m6,m7,q0,q1,q2,q3,q4,q5,q6,q7,t2,t3,zB,zK,hfi,cX,zxE,zD]|with_reducible first|intro _|refine aJ ?_);(repeat' apply Wl))
  all_goals try omega
  all_goals (refine⟨.tup [],_,N2+1+1,?_,by omega,_,zBd ok2 hn,fun _ _=>rfl,rfl⟩;show Ent N _ _ _ _ (cH M (brkP p) (brkG γ p.st.length n p.lp[n].1 p.lp[n].2) T) _;rw[brk_H,hbk];exact zxf (by omega) hT (by omega) (by omega) rfl hxl)
 ·
  have hbl:=(hok.lp n (by omega)).2 hbk;have hfb:(fi cI M γ.bl γ.gb)[n]? = some ((γ.bl n).map cI,γ.gb n):=zkr (by omega);rw[hbl] at hfb;have hbl2:=(hlp _ (Wm (show n < p.lp.length by omega))).1;have htk:(p.lp[n].2.map cI).take p.lp[n].2.length=p.lp[n].2.map cI:=WH (by simp);rw[if_neg hbk] at hxl;rw[hxl] at hfi
  (repeat first|simp(disch:=try exact dis1) only[evD,Nat.reduceBEq,Nat.reduceAdd,Nat.reduceLeDiff,dT,dF,fldP,n0,n1,n2,n3,n4,n5,n6,n7,tN,zB,zK,h6,h6l,hfi,hfb,e1,Wd]|with_reducible first|intro _|refine aJ ?_)
  (repeat' apply Wl)
  all_goals (refine(zcO M p γ (T.put N (.row 1 [[.ptr 0 0 0 0 0]] 0)) (N+1) 0 hok hT1 (by omega) hM).mono ?_;rintro x H N2 ⟨hN2,rfl,ok2,rfl⟩;obtain⟨m0,m1,m2,m3,m4,m5,m6,m7⟩:=ne8 (show 8≤N2 by omega);obtain⟨q0,q1,q2,q3,q4,q5,q6,q7⟩:=ne8 (show 8≤N2+1 by omega);have t2:=hT.put1 (show N < N2 by omega);have t3:=hT.put2 (show N < N2 by omega) (show N2 < N2+1 by omega);simp only[cH,zhA];(repeat first|simp(disch:=try exact dis1) only[evD,Nat.reduceBEq,Nat.reduceAdd,Nat.reduceLeDiff,dT,dF,n0,n1,n2,n3,n4,n5,n6,n7,m0,m1,m2,m3,m4,m5,m6,m7,q0,q1,q2,q3,q4,q5,q6,q7,t2,t3,zB,zK,hfi,hfb,htk,cX,zxE,zxB,zD]|with_reducible first|intro _|refine aJ ?_);(repeat' apply Wl))
  all_goals try omega
  all_goals (refine⟨.tup [],_,N2+1,?_,by omega,_,zBd ok2 hn,fun _ _=>rfl,rfl⟩;show Ent N _ _ _ _ (cH M (brkP p) (brkG γ p.st.length n p.lp[n].1 p.lp[n].2) T) _;rw[brk_H];exact zzv (by omega) hT (by omega) rfl)
theorem zBZ (M:Nat) (hM:M≤1000000) (f:NdF) (c:List Ex) (l:List Nd) (hk:f.kind=8):zer M (.mk f c l):=by
 intro p γ T N hok hlp hT hl1 hl2 hgot hst;refine z8 (fn_x zN rfl ?_);rw[zcK];rw[zax] at hl1 hl2;unfold zdF at hst;obtain⟨kd,bl,lb⟩:=f;simp only at hst hk ⊢;unfold zI;have hB:=hBig;have h8:=hT.eight;obtain⟨n0,n1,n2,n3,n4,n5,n6,n7⟩:=ne8 hT.eight;have tN:T.look N=none:=hT.none (Wa _);have hT1:=hT.put 1 [[.ptr 0 0 0 0 0]] (fun c hc=>by rw[Wc.1 hc];simp[AV.lt0]);rw[zcR];simp only[cH]
 have hs:¬(kd=7∨kd=8)→zaN l (!p.lp.isEmpty||decide (kd=4)||decide (kd=5))=false:=fun h=>by rw[if_neg (fun e=>h e.1)] at hst;exact hst
 have hne:(kd=7∨kd=8)→p.lp≠[]:=fun h e=>by rw[e,if_pos ⟨h,rfl⟩] at hst;cases hst
 clear hst;rw[if_neg (show ¬kd=1 by omega)];rw[if_neg (show ¬kd=2 by omega)];rw[if_neg (show ¬(kd=3∨kd=6) by omega)];rw[if_neg (show ¬kd=4 by omega)];rw[if_neg (show ¬kd=5 by omega)];rw[if_neg (show ¬kd=7 by omega)];rw[if_pos (show kd=8 by omega)];obtain⟨n,hn⟩:∃n,p.lp.length=n+1:=⟨p.lp.length - 1,by have:=WO.2 (hne (by omega));omega⟩
 have h6:(lpC γ.gx p.lp.length++γ.s2).getD n []=[.ptr 6 (n+1) (γ.gx n) 0 0]:=by rw[hn];simp[lpC,Wp,WG]
 have h6l:n < (lpC γ.gx p.lp.length++γ.s2).length:=by rw[hn];simp[lpC];omega
 have hfi:(fi cX M γ.xl γ.gx)[n]? = some ((γ.xl n).map cX,γ.gx n):=zkr (by omega);have hxl:=(hok.lp n (by omega)).1
 have e1:((p.lp.length:Int) - 1).toNat=n:=by omega
 have hp7:0 < p.lp.length:=by omega
 have htop:p.lp[n].1=topL p.lp:=by unfold topL;rw[WF,show p.lp.length - 1=n by omega,Wj (by omega)]
 rw[htop] at hxl;rw[hxl] at hfi
 (repeat first|simp(disch:=try exact dis1) only[evD,Nat.reduceBEq,Nat.reduceAdd,Nat.reduceLeDiff,dT,dF,fldP,n0,n1,n2,n3,n4,n5,n6,n7,tN,zB,zK,h6,h6l,hfi,e1,Wd]|with_reducible first|intro _|refine aJ ?_)
 (repeat' apply Wl)
 all_goals try omega
 all_goals (refine(zcO M p γ (T.put N (.row 1 [[.ptr 0 0 0 0 0]] 0)) (N+1) (topL p.lp) hok hT1 (by omega) hM).mono ?_;rintro x H N2 ⟨hN2,rfl,ok2,rfl⟩;(refine Qq ?_;intros);exact⟨_,_,N2,zcL (by omega) hT rfl,by omega,_,ok2,fun _ _=>rfl,rfl⟩)
theorem zCA (M:Nat) (hM:M≤1000000) (f:NdF) (c:List Ex) (l:List Nd) (hk:f.kind=9):zer M (.mk f c l):=by
 intro p γ T N hok hlp hT hl1 hl2 hgot hst;refine z8 (fn_x zN rfl ?_);rw[zcK];rw[zax] at hl1 hl2;unfold zdF at hst;obtain⟨kd,bl,lb⟩:=f;simp only at hst hk ⊢;unfold zI;have hB:=hBig;have h8:=hT.eight;obtain⟨n0,n1,n2,n3,n4,n5,n6,n7⟩:=ne8 hT.eight;have tN:T.look N=none:=hT.none (Wa _);have hT1:=hT.put 1 [[.ptr 0 0 0 0 0]] (fun c hc=>by rw[Wc.1 hc];simp[AV.lt0]);rw[zcR];simp only[cH]
 have hs:¬(kd=7∨kd=8)→zaN l (!p.lp.isEmpty||decide (kd=4)||decide (kd=5))=false:=fun h=>by rw[if_neg (fun e=>h e.1)] at hst;exact hst
 have hne:(kd=7∨kd=8)→p.lp≠[]:=fun h e=>by rw[e,if_pos ⟨h,rfl⟩] at hst;cases hst
 clear hst;rw[if_neg (show ¬kd=1 by omega)];rw[if_neg (show ¬kd=2 by omega)];rw[if_neg (show ¬(kd=3∨kd=6) by omega)];rw[if_neg (show ¬kd=4 by omega)];rw[if_neg (show ¬kd=5 by omega)];rw[if_neg (show ¬kd=7 by omega)];rw[if_neg (show ¬kd=8 by omega)];rw[if_pos (show kd=9 by omega)]
 have hg2:(zaB p 0).got.length≤1000000:=by have:(zaB p 0).got.length=p.got.length:=rfl;omega
 (repeat first|simp(disch:=try exact dis1) only[evD,Nat.reduceBEq,Nat.reduceAdd,Nat.reduceLeDiff,dT,dF,fldP,n0,n1,n2,n3,n4,n5,n6,n7,tN,zB,zK]|with_reducible first|intro _|refine aJ ?_)
 (repeat' apply Wl)
 all_goals (refine(zcO M p γ (T.put N (.row 1 [[.ptr 0 0 0 0 0]] 0)) (N+1) 0 hok hT1 (by omega) hM).mono ?_;rintro x H N2 ⟨hN2,rfl,ok2,rfl⟩;simp only[cH];(repeat first|simp(disch:=try exact dis1) only[evD,Nat.reduceBEq,Nat.reduceAdd,Nat.reduceLeDiff,n0,n1,n2,n3,n4,n5,n6,n7,tN,zB,zK,zD,zrE hg2]|with_reducible first|intro _|refine aJ ?_);exact⟨_,_,N2,zcL (p:={ zaB p 0 with got:=setL p.got p.st.length lb }) (by omega) hT rfl,by omega,_,⟨ok2.to,ok2.lp,ok2.s2,ok2.xl⟩,fun _ _=>rfl,rfl⟩)
theorem zAu (M:Nat) (hM:M≤1000000) (f:NdF) (c:List Ex) (l:List Nd) (hk:f.kind=10):zer M (.mk f c l):=by
 intro p γ T N hok hlp hT hl1 hl2 hgot hst;refine z8 (fn_x zN rfl ?_);rw[zcK];rw[zax] at hl1 hl2;unfold zdF at hst;obtain⟨kd,bl,lb⟩:=f;simp only at hst hk ⊢;unfold zI;have hB:=hBig;have h8:=hT.eight;obtain⟨n0,n1,n2,n3,n4,n5,n6,n7⟩:=ne8 hT.eight;have tN:T.look N=none:=hT.none (Wa _);have hT1:=hT.put 1 [[.ptr 0 0 0 0 0]] (fun c hc=>by rw[Wc.1 hc];simp[AV.lt0]);rw[zcR];simp only[cH]
 have hs:¬(kd=7∨kd=8)→zaN l (!p.lp.isEmpty||decide (kd=4)||decide (kd=5))=false:=fun h=>by rw[if_neg (fun e=>h e.1)] at hst;exact hst
 have hne:(kd=7∨kd=8)→p.lp≠[]:=fun h e=>by rw[e,if_pos ⟨h,rfl⟩] at hst;cases hst
 clear hst;rw[if_neg (show ¬kd=1 by omega)];rw[if_neg (show ¬kd=2 by omega)];rw[if_neg (show ¬(kd=3∨kd=6) by omega)];rw[if_neg (show ¬kd=4 by omega)];rw[if_neg (show ¬kd=5 by omega)];rw[if_neg (show ¬kd=7 by omega)];rw[if_neg (show ¬kd=8 by omega)];rw[if_neg (show ¬kd=9 by omega)];rw[if_pos (show kd=10 by omega)]
 (repeat first|simp(disch:=try exact dis1) only[evD,Nat.reduceBEq,Nat.reduceAdd,Nat.reduceLeDiff,dT,dF,fldP,n0,n1,n2,n3,n4,n5,n6,n7,tN,zB,zK]|with_reducible first|intro _|refine aJ ?_)
 (repeat' apply Wl)
 all_goals (refine zbS (zgp (by rfl) (by rfl) (by simp[zcj]) (by omega)) ?_;(repeat first|simp(disch:=try exact dis1) only[evD,Nat.reduceBEq,Nat.reduceAdd,Nat.reduceLeDiff,zD,zrE (show p.lab.length≤1000000 by omega)]|with_reducible first|intro _|refine aJ ?_);exact⟨_,_,N+1,zcL (p:={ p with lab:=setL p.lab lb p.st.length }) (by omega) hT rfl,by omega,_,⟨hok.to,hok.lp,hok.s2,hok.xl⟩,fun _ _=>rfl,rfl⟩)
theorem zBm (M:Nat) (hM:M≤1000000) (f:NdF) (c:List Ex) (l:List Nd) (hk:f.kind < 1∨12 < f.kind):zer M (.mk f c l):=by
 intro p γ T N hok hlp hT hl1 hl2 hgot hst;refine z8 (fn_x zN rfl ?_);rw[zcK];rw[zax] at hl1 hl2;unfold zdF at hst;obtain⟨kd,bl,lb⟩:=f;simp only at hst hk ⊢;unfold zI;have hB:=hBig;have h8:=hT.eight;obtain⟨n0,n1,n2,n3,n4,n5,n6,n7⟩:=ne8 hT.eight;have tN:T.look N=none:=hT.none (Wa _);have hT1:=hT.put 1 [[.ptr 0 0 0 0 0]] (fun c hc=>by rw[Wc.1 hc];simp[AV.lt0]);rw[zcR];simp only[cH]
 have hs:¬(kd=7∨kd=8)→zaN l (!p.lp.isEmpty||decide (kd=4)||decide (kd=5))=false:=fun h=>by rw[if_neg (fun e=>h e.1)] at hst;exact hst
 have hne:(kd=7∨kd=8)→p.lp≠[]:=fun h e=>by rw[e,if_pos ⟨h,rfl⟩] at hst;cases hst
 clear hst;rw[if_neg (show ¬kd=1 by omega)];rw[if_neg (show ¬kd=2 by omega)];rw[if_neg (show ¬(kd=3∨kd=6) by omega)];rw[if_neg (show ¬kd=4 by omega)];rw[if_neg (show ¬kd=5 by omega)];rw[if_neg (show ¬kd=7 by omega)];rw[if_neg (show ¬kd=8 by omega)];rw[if_neg (show ¬kd=9 by omega)];rw[if_neg (show ¬kd=10 by omega)];rw[if_neg (show ¬(kd=11∨kd=12) by omega)]
 (repeat first|simp(disch:=try exact dis1) only[evD,Nat.reduceBEq,Nat.reduceAdd,Nat.reduceLeDiff,dT,dF,fldP,n0,n1,n2,n3,n4,n5,n6,n7,tN,zB,zK,zD]|with_reducible first|intro _|refine aJ ?_)
 exact⟨_,_,N+1,zcL (by omega) hT rfl,by omega,_,hok,fun _ _=>rfl,rfl⟩
theorem zn0 (M:Nat) (hM:M≤1000000) (f:NdF) (c:List Ex) (l:List Nd) (hall:zqm M l) (hbr:BrOk M l) (hlo:zqQ M l):zer M (.mk f c l):=by
 by_cases k1:f.kind=1
 · exact zCo M hM f c l hall k1
 by_cases k2:f.kind=2
 · exact zCe M hM f c l k2
 by_cases k3:f.kind=3
 · exact zBO M hM f c l hbr k3
 by_cases k4:f.kind=4
 · exact zBp M hM f c l hlo k4
 by_cases k5:f.kind=5
 · exact zBl M hM f c l hlo k5
 by_cases k6:f.kind=6
 · exact zB2 M hM f c l hbr k6
 by_cases k7:f.kind=7
 · exact zAd M hM f c l k7
 by_cases k8:f.kind=8
 · exact zBZ M hM f c l k8
 by_cases k9:f.kind=9
 · exact zCA M hM f c l k9
 by_cases k10:f.kind=10
 · exact zAu M hM f c l k10
 by_cases k11:f.kind=11
 · exact zAJ M hM f c l k11
 by_cases k12:f.kind=12
 · exact zzk M hM f c l k12
 exact zBm M hM f c l (by omega)
theorem znB {l:List Nd} {p:PC} {i:Nat} (h:i < l.length):zaC (l.take (i+1)) p=zaF l[i] (zaC (l.take i) p):=by
 induction l generalizing p i with
 | nil=>simp at h
 |
  cons a l ih =>
  cases i with
  | zero=>simp only[Wo,WI,zaC,Wz]
  |
   succ i =>
   rw[Wo,Wo,zaC,zaC,WJ];exact ih (by simpa using h)
theorem zkO:∀ {l:List Nd} {i:Nat} (h:i < l.length),zZ (l.take i)+zax l[i]≤zZ l
 | [],i,h=>by simp at h
 |
  a::l,0,h=>by
  rw[zZ,WI,zZ,Wz];omega
 |
  a::l,i+1,h=>by
  have:=zkO (l:=l) (i:=i) (by simpa using h);rw[zZ,Wo,zZ,WJ];omega
theorem zkQ:∀ {l:List Nd} {b:Bool},zaN l b=false→∀e∈l,zdF e b=false
 | [],_,_,e,he=>by cases he
 |
  a::l,b,h,e,he=>by
  rw[zaN,Bool.or_eq_false_iff] at h
  rcases WC.1 he with rfl|he
  · exact h.1
  · exact zkQ h.2 e he
theorem zoJ {α β:Type} {a:List α} {b:List β} (h:a.length=b.length):a.isEmpty=b.isEmpty:=by
 cases a<;>cases b<;>simp at h<;>rfl
theorem znb (e:Nd):1≤zax e:=by obtain⟨f,c,m⟩:=e;rw[zax];omega
theorem zks (M:Nat) (hM:M≤1000000) (l:List Nd) (hn:∀e∈l,zer M e):zqm M l:=by
 intro p γ T N hok hlp hT hl1 hl2 hgot hst;refine z8 (fn_x zlU rfl ?_);unfold zhK;have hB:=hBig;have h8:=hT.eight;obtain⟨n0,n1,n2,n3,n4,n5,n6,n7⟩:=ne8 hT.eight;have tN:T.look N=none:=hT.none (Wa _)
 (refine Qa ?_;intros)
 refine zm (fun s:Nat × Gn=>([(0,.ptr 0 0 0 0 0),(6,encL 5 encN l),(7,.int .i64 l.length),(8,.int .i64 s.1)],cH M (zaC (l.take s.1) p) s.2 T)) N (fun s=>s.1≤l.length∧OkC (zaC (l.take s.1) p) s.2∧zjW p.lp.length γ s.2) (fun s=>l.length - s.1) (0,γ) ⟨Wv _,hok,fun _ _=>rfl⟩ ?_ ?_
 · exact Ent.low (Wa _) (fun _ _ h=>h) (zkV hok hT) (by refine⟨⟨rfl,?_⟩,⟨rfl,?_⟩,⟨rfl,?_⟩,⟨rfl,?_⟩,trivial⟩<;>simp[AV.lt1,AV.lt0,encL]<;>omega)
 ·
  rintro⟨i,γ1⟩ ⟨hi,hok1,sx1⟩ wf;simp only at hi hok1 sx1 ⊢;clear wf;unfold zfB;have hp:=zbL (l.take i) p
  by_cases hl:i < l.length
  ·
   have hsz:=zkO hl;have hpos:=znb l[i];have hlen:=hp.len;have hg2:=hp.got;have hlp2:=hp.lp.1;have hT1:=hT.put 5 [encN l[i]] (zhH (fun c hc=>by rw[Wc.1 hc];exact zaK));simp only[cH]
   (repeat first|simp(disch:=try exact dis1) only[evD,Nat.reduceBEq,Nat.reduceAdd,Nat.reduceLeDiff,dT,dF,fldP,n0,n1,n2,n3,n4,n5,n6,n7,tN,zB,zK,znq,zo hl,zbM,zbe]|with_reducible first|intro _|refine aJ ?_)
   have hs1:=zkQ hst l[i] (Wm hl);rw[zoJ hlp2.symm] at hs1;refine(hn l[i] (Wm hl) (zaC (l.take i) p) γ1 (T.put N (.row 5 [encN l[i]] 0)) (N+1) hok1 (hp.ok hlp) hT1 (by omega) (by omega) (by omega) hs1).mono ?_;rintro x H N2 ⟨hN2,γ2,ok2,sx2,rfl⟩
   (refine Qa ?_;intros)
   have ok3:OkC (zaC (l.take (i+1)) p) γ2:=by rw[znB hl];exact ok2
   refine⟨(i+1,γ2),⟨hl,ok3,sx1.trans sx2 (by omega)⟩,by omega,Ent.low (Wa _) ?_ (zkV ok3 hT) (by refine⟨⟨rfl,?_⟩,⟨rfl,?_⟩,⟨rfl,?_⟩,⟨rfl,?_⟩,trivial⟩<;>simp[AV.lt1,AV.lt0,encL]<;>omega)⟩;simp only;rw[znB hl];exact zxU (zlB tN)
  ·
   have hi2:i=l.length:=by omega
   subst hi2;rw[Wx] at hok1 ⊢
   (repeat first|simp(disch:=try exact dis1) only[evD,Nat.reduceBEq,Nat.reduceAdd,Nat.reduceLeDiff,dF,zhO]|with_reducible first|intro _|refine aJ ?_)
   exact⟨_,_,N,Ent.low (Wa _) (fun _ _ h=>h) (zkV hok1 hT) (K2:=[(0,.tup [])]) ⟨⟨rfl,rfl⟩,trivial⟩,by omega,γ1,hok1,sx1,rfl⟩
theorem zzO {at':Nat} {l:List Nd} {p:PC} {ends:List Int} {i:Nat} (h:i < l.length):brP at' (l.take (i+1)) p ends =
  (zaB (zaF l[i] (appTo (brP at' (l.take i) p ends).1 at' (brP at' (l.take i) p ends).1.st.length)) 0,(brP at' (l.take i) p ends).2++[((zaF l[i] (appTo (brP at' (l.take i) p ends).1 at' (brP at' (l.take i) p ends).1.st.length)).st.length:Int)]):=by
 induction l generalizing p i ends with
 | nil=>simp at h
 |
  cons a l ih =>
  cases i with
  | zero=>simp only[Wo,WI,brP,Wz]
  |
   succ i =>
   rw[Wo,Wo,brP,WJ];simp only[brP];exact ih (by simpa using h)
def tlen (p:PC) (k:Nat):Option Nat:=p.st[k]?.bind fun s=>s.to.map List.length
def zeb (b:Nat) (p q:PC):Prop:=∀k,k < b→tlen q k=tlen p k
theorem zeb.trans {b:Nat} {p q r:PC} (h:zeb b p q) (k:zeb b q r):zeb b p r:=fun i hi=>(k i hi).trans (h i hi)
theorem zeb.of_st {b:Nat} {p q:PC} (h:q.st=p.st):zeb b p q:=fun k _=>by unfold tlen;rw[h]
theorem zbz {b:Nat} {p:PC} {s:PSt} (hb:b≤p.st.length):zeb b p (addP p s):=fun k hk=>by unfold tlen addP;simp only;rw[W0 (by omega)]
theorem zii {b:Nat} {p:PC} {k i:Nat} {v:Int}:zeb b p (setTo p k i v):=fun k' _=>by
 unfold tlen setTo;simp only[Wi]
 cases p.st[k']? with
 | none=>rfl
 |
  some s =>
  simp only[Ww,We,WK]
  by_cases h:k=k'
  ·
   rw[if_pos h];simp only
   cases s.to with
   | none=>rfl
   | some l=>simp
  · rw[if_neg h]
theorem ztp {b:Nat} {p:PC} {k:Nat} {v:Int} (hb:b≤k):zeb b p (appTo p k v):=fun k' hk=>by
 unfold tlen appTo;simp only[Wi]
 cases p.st[k']? with
 | none=>rfl
 |
  some s =>
  simp only[Ww,We,WK];rw[if_neg (by omega)]
theorem ze6 {b:Nat}:∀ {ks:List Int} {p:PC} {v:Int},zeb b p (putAll p ks v)
 | [],p,v=>fun _ _=>rfl
 |
  k::ks,p,v=>by
  unfold putAll;rw[List.foldl_cons];exact zii.trans ze6
theorem zop {b:Nat} {p q:PC} {top t:Int} (hb:b≤q.st.length) (h:zeb b (zbl p t) q):zeb b p (zd0 q top):=by unfold zd0;refine zeb.trans (fun k hk=>h k hk) (zeb.trans (zeb.of_st (q:={ q with lp:=q.lp.dropLast }) rfl) (zeb.trans (zbz (s:=⟨1,0,some [top]⟩) hb) ze6))
mutual
theorem zeF:∀(n:Nd) (p:PC) (b:Nat),b≤p.st.length→zeb b p (zaF n p)
 |
  .mk f c l,p,b,hb=>by
  rw[zaF];split
  · exact zdB l p b hb
  split
  · exact zbz hb
  split
  · simp only;have h1:zeb b p (zaP p):=zbz hb;exact(h1.trans (zrl p.st.length l (zaP p) [] b hb (by simp[zaP,addP];omega))).trans ze6
  split
  · exact zop (Wn hb (zbL l (zbl p p.st.length)).keep.len) (zdB l (zbl p p.st.length) b hb)
  split
  ·
   simp only;have h1:zeb b p (addP p ⟨0,f.block,none⟩):=zbz hb
   have e1:b≤(addP p ⟨0,f.block,none⟩).st.length:=by simp[addP];omega
   have h2:zeb b p (zeB p f.block):=h1.trans (zbz e1)
   have e2:b≤(zeB p f.block).st.length:=by unfold zeB;simp[addP];omega
   exact(h2.trans (zop (Wn e2 (zbL l (zbl (zeB p f.block) p.st.length)).keep.len) (zdB l (zbl (zeB p f.block) p.st.length) b e2))).trans zii
  split
  · exact zeb.trans (zbz hb) (zeb.of_st rfl)
  split
  · exact zbz hb
  split
  · exact zeb.trans (zbz hb) (zeb.of_st rfl)
  split
  · exact zeb.of_st rfl
  split
  · exact zbz hb
  · exact fun _ _=>rfl
theorem zdB:∀(l:List Nd) (p:PC) (b:Nat),b≤p.st.length→zeb b p (zaC l p)
 | [],p,b,hb=>by rw[zaC];exact fun _ _=>rfl
 |
  n::l,p,b,hb=>by
  rw[zaC];exact(zeF n p b hb).trans (zdB l (zaF n p) b (Wn hb (zbT n p).keep.len))
theorem zrl (at':Nat):∀(l:List Nd) (p:PC) (ends:List Int) (b:Nat),b≤at'→b≤p.st.length→zeb b p (brP at' l p ends).1
 | [],p,ends,b,h1,h2=>by rw[brP];exact fun _ _=>rfl
 |
  n::l,p,ends,b,h1,h2=>by
  rw[brP]
  have e0:b≤(appTo p at' p.st.length).st.length:=by simp[appTo];omega
  have e1:=Wn e0 (zbT n (appTo p at' p.st.length)).keep.len;exact(((ztp h1).trans (zeF n _ b e0)).trans (zbz e1)).trans (zrl at' l _ _ b h1 (by simp[zaB,addP];omega))
end
theorem zni {p:PC} {k n:Nat} {v:Int} (h:tlen p k=some n):tlen (appTo p k v) k=some (n+1):=by
 unfold tlen appTo at *;simp only[Wi]
 cases hs:p.st[k]? with
 | none=>rw[hs] at h;cases h
 |
  some s =>
  rw[hs] at h;simp only[WK] at h
  cases ht:s.to with
  | none=>rw[ht] at h;cases h
  |
   some l =>
   rw[ht] at h;cases h;simp[ht]
def setG (γ:Gn) (k i:Nat) (v:Int):Gn:={ γ with tl:=updF γ.tl k ((γ.tl k).set i v) }
theorem zxx {gt:Nat→Nat} {p:PC} {k i:Nat} {v:Int}:stC gt (setTo p k i v).st=stC gt p.st:=by
 apply Wq;intro j;simp only[stC,setTo,Wr,Wi]
 cases p.st[j]? with
 | none=>rfl
 |
  some s =>
  simp only[Ww,We];split
  ·
   unfold cS toV;simp only
   cases s.to with
   | none=>rfl
   | some l=>simp
  · rfl
theorem zlI {p:PC} {γ:Gn} (hok:OkC p γ) (k i:Nat) (v:Int):OkC (setTo p k i v) (setG γ k i v):=by
 refine⟨fun k' h' l e=>?_,hok.lp,hok.s2,hok.xl⟩
 have h2:k' < p.st.length:=by simpa [setTo] using h'
 simp only[setTo,setG] at e ⊢;rw[Waa] at e
 by_cases hk:k=k'
 · subst hk;rw[if_pos rfl] at e;simp only at e;obtain⟨l0,e1,rfl⟩:=Option.map_eq_some_iff.1 e;rw[zbh,hok.to k h2 l0 e1]
 · rw[if_neg hk] at e;rw[zdu (Ne.symm hk)];exact hok.to k' h2 l e
theorem zqb {M k i:Nat} {tl:Nat→List Int} {gt:Nat→Nat} {v:Int}:(fi cI M tl gt).set k (((tl k).map cI).set i [.int .i64 v],gt k)=fi cI M (updF tl k ((tl k).set i v)) gt:=by have h:=zx0 (c:=cI) (n:=M) (k:=k) (g:=gt k) (ll:=tl) (gs:=gt) (l:=(tl k).set i v);rw[zoC] at h;rw[←h,List.map_set]
theorem zqd {M:Nat} {p:PC} {γ:Gn} {T:AH} {k i:Nat} {v:Int}:cH M (setTo p k i v) (setG γ k i v) T =
  (0,.row 4 [[.own 1 0 γ.gs 0 p.st.length,.own 2 0 γ.gl 0 p.lp.length,.mp 3 0,.mp 4 0]] 0)::(1,.row 3 (stC γ.gt p.st) γ.gs)::(2,.row 1 (lpC γ.gx p.lp.length++γ.s2) γ.gl)::(3,.row 3 (mpC p.lab) 0)::(4,.row 3 (mpC p.got) 0) ::
  (5,.fam 1 (fi cI M (updF γ.tl k ((γ.tl k).set i v)) γ.gt))::(6,.fam 2 (fi cX M γ.xl γ.gx))::(7,.fam 1 (fi cI M γ.bl γ.gb))::T:=by
 unfold cH setG;simp only[zxx]
 have:(setTo p k i v).st.length=p.st.length:=by simp[setTo]
 rw[this];rfl
def appG (γ:Gn) (k:Nat) (l:List Int) (v:Int):Gn:={ γ with gt:=updF γ.gt k (γ.gt k+1),tl:=updF γ.tl k (l++[v]) }
theorem zsb {p:PC} {γ:Gn} (hok:OkC p γ) {k:Nat} {s:PSt} {l:List Int} (v:Int) (hs:p.st[k]? = some s) (ht:s.to=some l):OkC (appTo p k v) (appG γ k l v):=by
 refine⟨fun k' h' l' e=>?_,hok.lp,hok.s2,hok.xl⟩
 have h2:k' < p.st.length:=by simpa [appTo] using h'
 simp only[appTo,appG] at e ⊢;rw[Waa] at e
 by_cases hk:k=k'
 ·
  subst hk;rw[if_pos rfl] at e
  have hs':p.st[k]=s:=by rw[Wj h2] at hs;exact Option.some.inj hs
  simp only[hs',ht,We,WE] at e;rw[zbh,e]
 · rw[if_neg hk] at e;rw[zdu (Ne.symm hk)];exact hok.to k' h2 l' e
theorem zxp {γ:Gn} {p:PC} {k:Nat} {s:PSt} {l:List Int} {v:Int} (hs:p.st[k]? = some s) (ht:s.to=some l) :
  stC (updF γ.gt k (γ.gt k+1)) (appTo p k v).st=(stC γ.gt p.st).set k [.int .i64 s.kind,.int .i64 s.block,.own 5 (k+1) (γ.gt k+1) 0 (l.length+1)]:=by
 have hk:=(Ws.1 hs).1;apply Wq;intro j;rw[WS];simp only[stC,appTo,Wr,Wi,W7]
 by_cases hj:k=j
 · subst hj;rw[if_pos rfl,if_pos hk,hs];simp only[if_true,Ww,We,cS,toV,ht,zbh,Wf,Wg]
 ·
  rw[if_neg hj];simp only[hj,if_false]
  cases p.st[j]? with
  | none=>rfl
  |
   some x =>
   simp only[Ww,We,cS,toV]
   cases x.to with
   | none=>rfl
   | some y=>simp only[zdu (Ne.symm hj)]
theorem zBB {M:Nat} {p:PC} {γ:Gn} {T:AH} {k:Nat} {s:PSt} {l:List Int} {v:Int} (hs:p.st[k]? = some s) (ht:s.to=some l):cH M (appTo p k v) (appG γ k l v) T =
  (0,.row 4 [[.own 1 0 γ.gs 0 p.st.length,.own 2 0 γ.gl 0 p.lp.length,.mp 3 0,.mp 4 0]] 0)::(1,.row 3 ((stC γ.gt p.st).set k [.int .i64 s.kind,.int .i64 s.block,.own 5 (k+1) (γ.gt k+1) 0 (l.length+1)]) γ.gs)::(2,.row 1 (lpC γ.gx p.lp.length++γ.s2) γ.gl)::(3,.row 3 (mpC p.lab) 0)::(4,.row 3 (mpC p.got) 0) ::
  (5,.fam 1 (fi cI M (updF γ.tl k (l++[v])) (updF γ.gt k (γ.gt k+1))))::(6,.fam 2 (fi cX M γ.xl γ.gx))::(7,.fam 1 (fi cI M γ.bl γ.gb))::T:=by
 unfold cH appG;simp only[zxp hs ht]
 have:(appTo p k v).st.length=p.st.length:=by simp[appTo]
 rw[this];rfl
def zpN (γ:Gn) (k:Nat):Gn:={ γ with gt:=updF γ.gt k (γ.gt k+1),tl:=updF γ.tl k [] }
theorem zux {p:PC} {γ:Gn} (k b:Int) (hok:OkC (addP p ⟨k,b,none⟩) γ):OkC (addP p ⟨k,b,some []⟩) (zpN γ p.st.length):=by
 refine⟨fun k' h' l e=>?_,hok.lp,hok.s2,hok.xl⟩
 have h2:k' < p.st.length+1:=by simpa [addP] using h'
 simp only[addP,zpN] at e ⊢
 by_cases hk:k'=p.st.length
 · subst hk;simp at e;rw[zbh,e]
 · rw[Wy (by omega)] at e;rw[zdu hk];refine hok.to k' (by simp[addP];omega) l ?_;simp only[addP];rw[Wy (by omega)];exact e
theorem zx7 {B nx M:Nat} {p:PC} {γ:Gn} {T:AH} {k b:Int} {K K2:Kn} (hB:B≤nx) (hl:p.st.length < M) (hT:∀r o,T.look r=some o→8≤r) (hK:zp3 none 5 (p.st.length+1) (γ.gt p.st.length+1) K2 K) :
  Ent B K (cH M (addP p ⟨k,b,none⟩) γ T) nx K2 (cH M (addP p ⟨k,b,some []⟩) (zpN γ p.st.length) T) nx:=by
 refine Ent.adoptF (c:=cI) (F:=5) (k:=p.st.length) (m:=M) (sz:=1) (ll:=γ.tl) (gs:=γ.gt) (l:=[]) none hB hl rfl (by simp) (fun _=>rfl) ?_ hK;intro x o2 h;refine⟨fun m e=>(by cases e),?_⟩
 match x with
 | 0=>cases h;exact .inr ⟨by omega,_,rfl,by simp only[addP,zpN,Wf,Wg];exact .same _⟩
 |
  1 =>
  cases h;refine .inr ⟨by omega,_,rfl,?_⟩;simp only[addP,zpN,zq4,zuj];refine .row _ _ _ _ (RowA.app (RowA.cons ?_ (RowA.refl _)) _);simp only[cS,toV,zbh];exact⟨.same _,.same _,.nil rfl,trivial⟩
 | 2=>cases h;exact .inr ⟨by omega,_,rfl,.same _⟩
 | 3=>cases h;exact .inr ⟨by omega,_,rfl,.same _⟩
 | 4=>cases h;exact .inr ⟨by omega,_,rfl,.same _⟩
 | 5=>cases h;exact .inl ⟨rfl,rfl⟩
 | 6=>cases h;exact .inr ⟨by omega,_,rfl,.same _⟩
 | 7=>cases h;exact .inr ⟨by omega,_,rfl,.same _⟩
 |
  x+8 =>
  rw[zjj (by omega)] at h;exact .inr ⟨by omega,o2,by rw[zjj (by omega)];exact h,.same _⟩
theorem zAy {p:PC} {k n:Nat} (h:tlen p k=some n):∃s l,p.st[k]? = some s∧s.to=some l∧l.length=n:=by
 unfold tlen at h
 cases hs:p.st[k]? with
 | none=>rw[hs] at h;cases h
 |
  some s =>
  rw[hs] at h;simp only[WK] at h
  cases ht:s.to with
  | none=>rw[ht] at h;cases h
  | some l=>rw[ht] at h;cases h;exact⟨s,l,rfl,ht,rfl⟩
theorem zlA:∀l:List Nd,l.length≤zZ l
 | []=>Wv _
 |
  e::l=>by
  have:=zlA l;have:=znb e;rw[zZ,Wab];omega
def zpV (p:PC) (ends:List Int):Prop:=∀k∈ends,0≤k∧zj4 p k.toNat 1
theorem zpV.keep {p q:PC} {ends:List Int} (h:zpV p ends) (k:Keep p q):zpV q ends:=fun x hx=>⟨(h x hx).1,k.to _ _ (h x hx).2⟩
theorem zva (at':Nat):∀(l:List Nd) (p:PC) (ends:List Int),zpV p ends→zpV (brP at' l p ends).1 (brP at' l p ends).2∧(brP at' l p ends).2.length=ends.length+l.length
 | [],p,ends,h=>by rw[brP];exact⟨h,by simp⟩
 |
  n::l,p,ends,h=>by
  rw[brP];have h1:Keep p (zaF n (appTo p at' p.st.length)):=(zjG p at' p.st.length).trans (zbT n _).keep
  have h2:zpV (zaB (zaF n (appTo p at' p.st.length)) 0) (ends++[((zaF n (appTo p at' p.st.length)).st.length:Int)]):=fun k hk=>by
   rcases Wu.1 hk with hk|hk
   · exact(h.keep (h1.trans (zbP _ _))) k hk
   · rw[Wc.1 hk];exact⟨by omega,by rw[Wd];exact zl7 _ _⟩
  obtain⟨a,b⟩:=zva at' l _ _ h2;refine⟨a,?_⟩;rw[b];simp;omega
theorem zup (at':Nat):∀(l:List Nd) (p:PC) (ends:List Int) (n:Nat),at' < p.st.length→tlen p at'=some n→tlen (brP at' l p ends).1 at'=some (n+l.length)
 | [],p,ends,n,h1,h2=>by rw[brP];simpa using h2
 |
  e::l,p,ends,n,h1,h2=>by
  rw[brP]
  have e1:at' < (appTo p at' p.st.length).st.length:=by simpa [appTo] using h1
  have e2:=(zbT e (appTo p at' p.st.length)).keep.len
  have h3:tlen (zaB (zaF e (appTo p at' p.st.length)) 0) at'=some (n+1):=by rw[show tlen (zaB (zaF e (appTo p at' p.st.length)) 0) at'=tlen (zaF e (appTo p at' p.st.length)) at' from zbz (b:=at'+1) (by omega) at' (by omega),zeF e _ (at'+1) (by omega) at' (by omega)];exact zni h2
  have:=zup at' l (zaB (zaF e (appTo p at' p.st.length)) 0) (ends++[((zaF e (appTo p at' p.st.length)).st.length:Int)]) (n+1) (by simp[zaB,addP];omega) h3;rw[this,Wab]
  congr 1
  omega
theorem znO {q:PC} {ks:List Int} {v:Int} {j:Nat} (h:j < ks.length):putAll q (ks.take (j+1)) v=setTo (putAll q (ks.take j) v) ks[j].toNat 0 v:=by unfold putAll;rw[List.take_succ_eq_append_getElem h,List.foldl_append];rfl
theorem zx8 {p:PC} {k n:Nat} (h:zj4 p k n):∃(hk:k < p.st.length) (l:List Int),p.st[k].to=some l∧n≤l.length:=by obtain⟨s,l,h1,h2,h3⟩:=h;have hk:=(Ws.1 h1).1;refine⟨hk,l,?_,h3⟩;rw[Wj hk] at h1;rw[Option.some.inj h1];exact h2
theorem zil {M:Nat} {p:PC} {γ:Gn} (hok:OkC p γ) {k n:Nat} (h:zj4 p k n) (hM:p.st.length≤M):∃(hk:k < p.st.length) (l:List Int),γ.tl k=l∧n≤l.length∧(stC γ.gt p.st).getD k []=[.int .i64 p.st[k].kind,.int .i64 p.st[k].block,.own 5 (k+1) (γ.gt k) 0 l.length]∧(fi cI M γ.tl γ.gt)[k]? = some ((γ.tl k).map cI,γ.gt k):=by obtain⟨hk,l,h1,h2⟩:=zx8 h;refine⟨hk,l,hok.to k hk l h1,h2,?_,zkr (by omega)⟩;rw[zq0 hk,cS,h1,toV]
theorem zkA (
       M:Nat) (hM:M≤1000000) (l:List Nd) (hn:∀e∈l,zer M e):BrOk M l:=by
 intro p γ T N hok hlp hT hl1 hl2 hgot hst;refine z8 (fn_x ziR rfl ?_);unfold zep zqH;have hB:=hBig;have h8:=hT.eight
 (refine Qa ?_;intros)
 refine(zcP M p γ T N 1 (-1) hok hT (by omega)).mono ?_;rintro x H N1 ⟨hN1,rfl,ok1,rfl⟩
 have sx0:zjW p.lp.length γ (addG γ):=fun _ _=>rfl
 generalize addG γ=γ1 at *;have hT1:=hT.up hN1;obtain⟨n0,n1,n2,n3,n4,n5,n6,n7⟩:=ne8 hT1.eight;have tN:T.look N1=none:=hT1.none (Wa _);simp only[cH]
 (repeat first|simp(disch:=try exact dis1) only[evD,Nat.reduceBEq,Nat.reduceAdd,Nat.reduceLeDiff,n0,n1,n2,n3,n4,n5,n6,n7,tN]|with_reducible first|intro _|refine aJ ?_)
 have e0:brP p.st.length (l.take 0) (zaP p) []=(zaP p,[]):=by rw[WI,brP]
 have hlt:∀(g:Nat) (e:List Int),TailOk (N1+1) (T.put N1 (.row 1 (e.map cI) g)):=fun g e=>hT1.put 1 (e.map cI) (zn3 fun _=>rfl) g
 refine zm (fun s:Nat × Gn=>([(0,.ptr 0 0 0 0 0),(4,.int .i64 p.st.length),(5,.own N1 0 s.1 0 s.1),(13,encL 5 encN l),(14,.int .i64 l.length),(15,.int .i64 s.1)],cH M (brP p.st.length (l.take s.1) (zaP p) []).1 s.2 (T.put N1 (.row 1 ((brP p.st.length (l.take s.1) (zaP p) []).2.map cI) s.1)))) (N1+1)
  (fun s=>s.1≤l.length∧OkC (brP p.st.length (l.take s.1) (zaP p) []).1 s.2∧zjW p.lp.length γ s.2) (fun s=>l.length - s.1) (0,zpN γ1 p.st.length) ⟨Wv _,?_,sx0⟩ ?_ ?_
 · rw[e0];exact zux 1 (-1) ok1
 ·
  have ok2:=zux 1 (-1) ok1;simp only[e0];refine Ent.trans (zx7 (k:=1) (b := -1) (γ:=γ1) (K2:=[(0,.ptr 0 0 0 0 0),(4,.int .i64 p.st.length),(5,.own N1 0 0 0 0),(13,encL 5 encN l),(14,.int .i64 l.length),(15,.int .i64 0)]) (by omega) (by omega) (fun r o h=>((hlt 0 []).num r o h).1) ⟨.same _,.same _,.same _,.same _,.same _,.same _,trivial⟩) ?_;refine Ent.low (by omega) (fun _ _ h=>h) (zkV ok2 (hlt 0 [])) ?_
  refine⟨⟨rfl,?_⟩,⟨rfl,?_⟩,⟨rfl,?_⟩,⟨rfl,?_⟩,⟨rfl,?_⟩,⟨rfl,?_⟩,trivial⟩<;>simp[AV.lt1,AV.lt0,encL]
 ·
  rintro⟨i,γ2⟩ ⟨hi,ok2,sx2⟩ wf;simp only at hi ok2 sx2 ⊢;clear wf;unfold zda;have hs0:PostP 1 p (zaP p):=PostP.add p _;have hq:=hs0.trans (zqx p.st.length (l.take i) (zaP p) [])
  have hst0:(zaP p).st.length=p.st.length+1:=by simp[zaP,addP]
  have htl:=zup p.st.length (l.take i) (zaP p) [] 0 (by omega) (by unfold tlen zaP addP;simp);have hen:=zva p.st.length (l.take i) (zaP p) [] (fun k hk=>by cases hk);rw[Wac,Nat.min_eq_left hi,WR] at htl;rw[Wac,Nat.min_eq_left hi,List.length_nil,WR] at hen
  by_cases hl:i < l.length
  ·
   have hbt:=zzO (at':=p.st.length) (p:=zaP p) (ends:=[]) hl;generalize brP p.st.length (l.take i) (zaP p) []=R at *;obtain⟨q,ends⟩:=R;simp only at hq htl hen ok2 hbt ⊢;obtain⟨s,lst,hs,hto,hll⟩:=zAy htl;have hat:=(Ws.1 hs).1;have hsz:=zkO hl;have hszl:=zlA l;have hpos:=znb l[i];have hlen:=hq.len;have hg2:=hq.got;have hlp2:=hq.lp.1;have hlk:=hq.keep.len
   have hstg:(stC γ2.gt q.st).getD p.st.length []=[.int .i64 s.kind,.int .i64 s.block,.own 5 (p.st.length+1) (γ2.gt p.st.length) 0 i]:=by
    have e:q.st[p.st.length]=s:=by rw[Wj hat] at hs;exact Option.some.inj hs
    rw[zq0 hat,e,cS,hto,toV,hll]
   have htl2:γ2.tl p.st.length=lst:=ok2.to _ hat _ (by rw[Wj hat] at hs;rw[Option.some.inj hs];exact hto)
   have hfi:(fi cI M γ2.tl γ2.gt)[p.st.length]? = some (lst.map cI,γ2.gt p.st.length):=by rw[zkr (by omega),htl2]
   have htk:(lst.map cI).take i=lst.map cI:=WH (by simp;omega);have hslen:(stC γ2.gt q.st).length=q.st.length:=zcj;have hT2:=(hlt i ends).put 5 [encN l[i]] (zhH (fun c hc=>by rw[Wc.1 hc];exact zaK));obtain⟨m0,m1,m2,m3,m4,m5,m6,m7⟩:=ne8 (show 8≤N1+1 by omega);obtain⟨v0,v1,v2,v3,v4,v5,v6,v7⟩:=ne8 (show 8≤N1+1+1 by omega);have t1:=hT1.put1 (show N1 < N1+1 by omega);have t2:=hT1.put2 (show N1 < N1+1 by omega) (show N1+1 < N1+1+1 by omega);simp only[cH]
   (repeat first|simp(disch:=try exact dis1) only[evD,Nat.reduceBEq,Nat.reduceAdd,Nat.reduceLeDiff,dT,dF,fldP,n0,n1,n2,n3,n4,n5,n6,n7,m0,m1,m2,m3,m4,m5,m6,m7,v0,v1,v2,v3,v4,v5,v6,v7,t1,t2,tN,zB,zK,znq,zo hl,zbM,zbe,hstg,hfi,htk,hslen,Wd]|with_reducible first|intro _|refine aJ ?_)
   refine zgI (fun _:Unit=>([(0,.ptr 0 0 0 0 0),(4,.int .i64 p.st.length),(5,.own N1 0 i 0 i),(7,.ptr (N1+1) 0 0 0 0),(13,encL 5 encN l),(14,.int .i64 l.length),(15,.int .i64 i)],cH M (appTo q p.st.length q.st.length) (appG γ2 p.st.length lst q.st.length) ((T.put N1 (.row 1 (ends.map cI) i)).put (N1+1) (.row 5 [encN l[i]] 0)))) (N1+1+1) (fun _=>True) ?_ ?_
   ·
    (refine Qa ?_;intros)
    refine zbS (zgp (by rfl) (by rfl) (by simp[zcj]) (by omega)) ?_
    (repeat first|simp(disch:=try exact dis1) only[evD,Nat.reduceBEq,Nat.reduceAdd,Nat.reduceLeDiff,dT,dF,fldP,n0,n1,n2,n3,n4,n5,n6,n7,m0,m1,m2,m3,m4,m5,m6,m7,v0,v1,v2,v3,v4,v5,v6,v7,t1,t2,tN,zB,zK,znq,zo hl,zbM,zbe,hstg,hfi,htk,hslen,Wd,zxB]|with_reducible first|intro _|refine aJ ?_)
    (repeat' apply Wl)
    all_goals try omega
    all_goals (refine⟨(),Ent.low (by omega) ?_ (zkV (zsb ok2 _ hs hto) hT2) ?_⟩)
    all_goals first
     | (
       rw[zBB hs hto,hll]
       exact zj (zj (zj (zj (zj (zj (zj (zj (fun x o h=>by
       have:=hT2.num x o h;rw[AH.look_put,if_neg (by omega)]
       exact h))))))))
       done)
     | (refine⟨⟨rfl,?_⟩,⟨rfl,?_⟩,⟨rfl,?_⟩,⟨rfl,?_⟩,⟨rfl,?_⟩,⟨rfl,?_⟩,⟨rfl,?_⟩,trivial⟩<;>simp[AV.lt1,AV.lt0,encL]<;>omega)
   ·
    rintro⟨⟩ _ wf;clear wf;simp only;unfold zdc;have ok3:=zsb ok2 (q.st.length:Int) hs hto;have hpa:=PostP.appTo q p.st.length q.st.length;have hlen3:=hpa.len;have hg3:=hpa.got;have hlp3:=hpa.lp.1;have hlq:LpOk (appTo q p.st.length q.st.length):=hpa.ok (hq.ok hlp);have hs1:=zkQ hst l[i] (Wm hl);rw[zoJ (hlp3.trans hlp2).symm] at hs1;have sx3:zjW p.lp.length γ (appG γ2 p.st.length lst q.st.length):=sx2
    have hst3:(appTo q p.st.length q.st.length).st.length=q.st.length:=by simp[appTo]
    generalize appTo q p.st.length q.st.length=q3 at *;generalize appG γ2 p.st.length lst q.st.length=γ3 at *;simp only[cH]
    (repeat first|simp(disch:=try exact dis1) only[evD,Nat.reduceBEq,Nat.reduceAdd,Nat.reduceLeDiff,dT,dF,fldP,n0,n1,n2,n3,n4,n5,n6,n7,m0,m1,m2,m3,m4,m5,m6,m7,t1,t2,tN,zB,zK,znq,zo hl,zbM,zbe,Wd]|with_reducible first|intro _|refine aJ ?_)
    refine(hn l[i] (Wm hl) q3 γ3 ((T.put N1 (.row 1 (ends.map cI) i)).put (N1+1) (.row 5 [encN l[i]] 0)) (N1+1+1) ok3 hlq hT2 (by omega) (by omega) (by omega) hs1).mono ?_;rintro x H N3 ⟨hN3,γ4,ok4,sx4,rfl⟩
    (refine Qa ?_;intros)
    have hlp4:=(zbT l[i] q3).len;refine(zcO M (zaF l[i] q3) γ4 ((T.put N1 (.row 1 (ends.map cI) i)).put (N1+1) (.row 5 [encN l[i]] 0)) N3 0 ok4 (hT2.up hN3) (by omega) hM).mono ?_;rintro x H N4 ⟨hN4,rfl,ok5,rfl⟩;obtain⟨w0,w1,w2,w3,w4,w5,w6,w7⟩:=ne8 (show 8≤N4 by omega);have y1:((T.put N1 (.row 1 (ends.map cI) i)).put (N1+1) (.row 5 [encN l[i]] 0)).look N4=none:=hT2.none (by omega)
    have y2:∀o,(((T.put N1 (.row 1 (ends.map cI) i)).put (N1+1) (.row 5 [encN l[i]] 0)).put N4 o).look N1=some (.row 1 (ends.map cI) i):=fun o=>by rw[AH.look_put,if_neg (by omega),AH.look_put,if_neg (by omega),zK]
    have hel:(ends.map cI).take i=ends.map cI:=WH (by simp;omega)
    have hell:(ends.map cI).length=i:=by simp;omega
    simp only[cH]
    (repeat first|simp(disch:=try exact dis1) only[evD,Nat.reduceBEq,Nat.reduceAdd,Nat.reduceLeDiff,dT,dF,n0,n1,n2,n3,n4,n5,n6,n7,w0,w1,w2,w3,w4,w5,w6,w7,y1,y2,zB,zK,hel,hell]|with_reducible first|intro _|refine aJ ?_)
    have ok6:OkC (brP p.st.length (l.take (i+1)) (zaP p) []).1 (zhA γ4 (zaF l[i] q3).st.length [0]):=by rw[hbt];exact ok5
    refine⟨(i+1,zhA γ4 (zaF l[i] q3).st.length [0]),⟨hl,ok6,sx3.trans sx4 (by omega)⟩,by omega,Ent.low (by omega) ?_ (zkV ok6 (hlt _ _)) ?_⟩
    ·
     simp only;rw[hbt];simp only[WD,WL,WM,cH]
     exact zj (zj (zj (zj (zj (zj (zj (zj (fun x o h=>by
      rw[AH.look_put] at h ⊢
      by_cases hx:x=N1
      · rw[if_pos hx] at h ⊢;exact h
      ·
       rw[if_neg hx] at h ⊢;have:=hT1.num x o h;rw[AH.look_put,if_neg (by omega),AH.look_put,if_neg (by omega),AH.look_put,if_neg hx]
       exact h))))))))
    · refine⟨⟨rfl,?_⟩,⟨rfl,?_⟩,⟨rfl,?_⟩,⟨rfl,?_⟩,⟨rfl,?_⟩,⟨rfl,?_⟩,trivial⟩<;>simp[AV.lt1,AV.lt0,encL]
  ·
   have hi2:i=l.length:=by omega
   subst hi2;rw[Wx] at hq htl hen ok2 ⊢;generalize brP p.st.length l (zaP p) []=R at *;obtain⟨q,ends⟩:=R;simp only at hq htl hen ok2 ⊢;have hszl:=zlA l;have hlen:=hq.len;simp only[cH]
   (refine Qk ?_;intros)
   unfold zdl
   (refine Qa ?_;intros)
   refine zm (fun s:Nat × Gn=>([(0,.ptr 0 0 0 0 0),(47,.own N1 0 l.length 0 l.length),(48,.int .i64 l.length),(49,.int .i64 s.1)],cH M (putAll q (ends.take s.1) q.st.length) s.2 (T.put N1 (.row 1 (ends.map cI) l.length)))) (N1+1)
    (fun s=>s.1≤l.length∧OkC (putAll q (ends.take s.1) q.st.length) s.2∧zjW p.lp.length γ s.2) (fun s=>l.length - s.1) (0,γ2) ⟨Wv _,ok2,sx2⟩ ?_ ?_
   ·
    refine Ent.low (by omega) (fun _ _ h=>h) (zkV ok2 (hlt _ _)) ?_
    refine⟨⟨rfl,?_⟩,⟨rfl,?_⟩,⟨rfl,?_⟩,⟨rfl,?_⟩,trivial⟩<;>simp[AV.lt1,AV.lt0,encL]
   ·
    rintro⟨j,γ3⟩ ⟨hj,ok3,sx3⟩ wf;simp only at hj ok3 sx3 ⊢;clear wf;unfold zde;have hkp:=zca (ends.take j) q q.st.length;have hkl:=zeM (ends.take j) q q.st.length
    by_cases hl:j < l.length
    ·
     have hje:j < ends.length:=by omega
     have hpt:=znO (q:=q) (v:=q.st.length) hje;have hek:=hen.1 ends[j] (Wm hje);generalize putAll q (ends.take j) q.st.length=r at *;obtain⟨hk,lst,h1,h2,h3,h4⟩:=zil (M:=M) ok3 (hkp.to _ _ hek.2) (by omega);have hge:(ends.map cI).getD j []=[.int .i64 ends[j]]:=zo (f:=cI) hje;have hnn:(ends[j].toNat:Int)=ends[j]:=Wad hek.1;generalize ends[j].toNat=k at *;rw[←hnn] at hge;clear hnn hek;have hslen:(stC γ3.gt r.st).length=r.st.length:=zcj
     have hell:(ends.map cI).length=l.length:=by simp;omega
     have htll:((γ3.tl k).map cI).length=lst.length:=by rw[WV,h1]
     simp only[cH]
     (repeat first|simp(disch:=try exact dis1) only[evD,Nat.reduceBEq,Nat.reduceAdd,Nat.reduceLeDiff,dT,dF,n0,n1,n2,n3,n4,n5,n6,n7,zB,zK,hge,hell,h3,h4,hslen,htll,Wd]|with_reducible first|intro _|refine aJ ?_)
     refine zbS (zgp (by rfl) (by rfl) (by simp[zcj]) (by omega)) ?_
     have hpos:0 < lst.length:=by omega
     (repeat first|simp(disch:=try exact dis1) only[evD,Nat.reduceBEq,Nat.reduceAdd,Nat.reduceLeDiff,dT,dF,n0,n1,n2,n3,n4,n5,n6,n7,zB,zK,hge,hell,h3,h4,hslen,htll,Wd,WW,zqb]|with_reducible first|intro _|refine aJ ?_)
     have ok4:=zlI ok3 k 0 (q.st.length:Int);refine⟨(j+1,setG γ3 k 0 q.st.length),⟨hl,by rw[hpt];exact ok4,sx3⟩,by omega,Ent.low (by omega) ?_ (zkV (by rw[hpt];exact ok4) (hlt _ _)) ?_⟩
     · intro x o hx;have hx2:(cH M (putAll q (ends.take (j+1)) q.st.length) (setG γ3 k 0 q.st.length) (T.put N1 (.row 1 (ends.map cI) l.length))).look x=some o:=hx;rw[hpt,zqd] at hx2;rw[hkl];rw[hkl] at hx2;exact hx2
     · refine⟨⟨rfl,?_⟩,⟨rfl,?_⟩,⟨rfl,?_⟩,⟨rfl,?_⟩,trivial⟩<;>simp[AV.lt1,AV.lt0,encL]
    ·
     have hj2:j=ends.length:=by omega
     subst hj2;rw[Wx] at ok3 ⊢;simp only[cH]
     (repeat first|simp(disch:=try exact dis1) only[evD,Nat.reduceBEq,Nat.reduceAdd,Nat.reduceLeDiff,dF,zek]|with_reducible first|intro _|refine aJ ?_)
     exact⟨_,_,N1+1,zcL (p:=putAll q ends q.st.length) (by omega) hT1 rfl,by omega,γ3,ok3,sx3,rfl⟩
def zrA (γ:Gn) (n:Nat) (top:Int):Gn:={ γ with gl:=γ.gl+1,s2:=[],gx:=updF γ.gx n (γ.gx n+1),xl:=updF γ.xl n [(top,.nilsl)] }
theorem zCi {p:PC} {γ:Gn} (hok:OkC p γ) (top:Int):OkC (zbl p top) (zrA γ p.lp.length top):=by
 refine⟨hok.to,fun d hd=>?_,fun c hc=>(by cases hc),fun d x hx=>?_⟩
 ·
  have hd':d < p.lp.length+1:=by simpa [zbl] using hd
  have e:(zbl p top).lp[d]=(p.lp++[(top,[])])[d]'(by simpa using hd'):=rfl;rw[e];simp only[zrA]
  by_cases h:d=p.lp.length
  · subst h;rw[zbh];simp
  · rw[zdu h];simp only[Wy (show d < p.lp.length by omega)];exact hok.lp d (by omega)
 ·
  simp only[zrA] at hx
  by_cases h:d=p.lp.length
  · subst h;rw[zbh] at hx;rw[Wc.1 hx];rfl
  · rw[zdu h] at hx;exact hok.xl d x hx
theorem zuv {gx:Nat→Nat} {n g:Nat}:lpC (updF gx n g) (n+1)=lpC gx n++[[.ptr 6 (n+1) g 0 0]]:=by
 unfold lpC;rw[List.range_succ,WD,WU,zbh]
 congr 1
 refine List.map_congr_left fun d hd=>?_
 rw[zdu (by have:=List.mem_range.1 hd;omega)]
theorem zwA {gx:Nat→Nat} {n:Nat}:lpC gx (n+1)=lpC gx n++[[.ptr 6 (n+1) (gx n) 0 0]]:=by
 have:=zuv (gx:=gx) (n:=n) (g:=gx n)
 rwa [zoC] at this
theorem zy5 {B nx M:Nat} {p:PC} {γ:Gn} {T:AH} {N N2:Nat} {top:Int} {o:AObj} {K K2:Kn} (hB:B≤nx) (hT:TailOk N T) (hN:N < N2) (hl:p.lp.length < M) (hK:zp3 (some N) 6 (p.lp.length+1) (γ.gx p.lp.length+1) K2 K) :
  Ent B K ((0,.row 4 [[.own 1 0 γ.gs 0 p.st.length,.own 2 0 (γ.gl+1) 0 (p.lp.length+1),.mp 3 0,.mp 4 0]] 0)::(1,.row 3 (stC γ.gt p.st) γ.gs)::(2,.row 1 (lpC γ.gx p.lp.length++[[.ptr N 0 0 0 0]]) (γ.gl+1))::(3,.row 3 (mpC p.lab) 0)::(4,.row 3 (mpC p.got) 0) ::
   (5,.fam 1 (fi cI M γ.tl γ.gt))::(6,.fam 2 (fi cX M γ.xl γ.gx))::(7,.fam 1 (fi cI M γ.bl γ.gb))::(T.put N (.row 2 [[.int .i64 top,.nilsl]] 0)).put N2 o) nx K2 (cH M (zbl p top) (zrA γ p.lp.length top) T) nx:=by
 have h8:=hT.eight;refine Ent.adoptF (c:=cX) (F:=6) (k:=p.lp.length) (m:=M) (sz:=2) (ll:=γ.xl) (gs:=γ.gx) (l:=[(top,.nilsl)]) (some N) hB hl rfl ?_ (by simp) ?_ hK
 · rintro x ⟨rfl⟩;refine⟨by omega,?_⟩;rw[zhT (by omega),AH.look_put,if_neg (by omega)];exact zK
 ·
  intro x o2 h
  match x with
  | 0=>cases h;exact⟨fun m e=>by cases e;omega,.inr ⟨by omega,_,rfl,by simp only[zbl,zrA,Wf,Wg];exact .same _⟩⟩
  | 1=>cases h;exact⟨fun m e=>by cases e;omega,.inr ⟨by omega,_,rfl,.same _⟩⟩
  |
   2 =>
   cases h;refine⟨fun m e=>by cases e;omega,.inr ⟨by omega,_,rfl,?_⟩⟩;simp only[zbl,zrA,Wf,Wg,zuv,List.append_nil];refine .row 1 (lpC γ.gx p.lp.length++[[.ptr N 0 0 0 0]]) _ _ (RowA.app (RowA.cons ?_ (RowA.refl _)) _);exact⟨.ptr _ _ _ rfl,trivial⟩
  | 3=>cases h;exact⟨fun m e=>by cases e;omega,.inr ⟨by omega,_,rfl,.same _⟩⟩
  | 4=>cases h;exact⟨fun m e=>by cases e;omega,.inr ⟨by omega,_,rfl,.same _⟩⟩
  | 5=>cases h;exact⟨fun m e=>by cases e;omega,.inr ⟨by omega,_,rfl,.same _⟩⟩
  | 6=>cases h;exact⟨fun m e=>by cases e;omega,.inl ⟨rfl,rfl⟩⟩
  | 7=>cases h;exact⟨fun m e=>by cases e;omega,.inr ⟨by omega,_,rfl,.same _⟩⟩
  |
   x+8 =>
   rw[zjj (by omega)] at h;have hx:=hT.num _ _ h;refine⟨fun m e=>by cases e;omega,.inr ⟨by omega,o2,?_,.same _⟩⟩;rw[zhT (by omega),AH.look_put,if_neg (by omega),AH.look_put,if_neg (by omega)];exact h
def befP (b:Option Int) (p:PC):PC:=match b with
 | none=>p
 | some b=>zeB p b
def zpw (b:Option Int) (p:PC):Int:=match b with
 | none => -1
 | some _=>((p.st.length+1:Nat):Int)
theorem ztJ {M:Nat} {p:PC} {γ:Gn} {T:AH} {N:Nat} {b:Option Int} {fv:AV} {k:AV→AH→Nat→Prop} (hok:OkC p γ) (hT:TailOk N T) (hl:p.st.length+2≤M) (hM:M≤1000000)
  (hfv:match b with|none=>fv=.fn (.func zbw) []|some b=>∃rc c,fv=.fn (.func zbv) [.ptr rc 0 0 0 0,.iptr 5 c]∧T.look rc=some (.row 1 [[.ptr 0 0 0 0 0]] 0)∧c 1=.int .i64 b)
  (hk:∀γ' nx,N≤nx→OkC (befP b p) γ'→γ'.gx=γ.gx→k (.int .i64 (zpw b p)) (cH M (befP b p) γ' T) nx):zko Tryz.prog fv [] (cH M p γ T) N k:=by
 cases b with
 |
  none =>
  simp only at hfv;subst hfv;refine⟨by kernel_rfl,(znR _ _).mono ?_⟩;rintro v H nx ⟨rfl,rfl,rfl⟩;exact hk γ _ (Wa _) hok rfl
 |
  some b =>
  obtain⟨rc,c,rfl,h1,h2⟩:=hfv;refine⟨by kernel_rfl,(zoS M p γ T N rc b c hok hT hl hM h1 h2).mono ?_⟩;rintro v H nx ⟨h3,rfl,γ',h4,h5,rfl⟩;exact hk γ' nx h3 h4 h5
theorem zx5 (b:Option Int) (l:List Nd) (p:PC):zsp b l p=match b with
  | none=>zd0 (zaC l (zbl (befP b p) p.st.length)) p.st.length
  | some _=>setTo (zd0 (zaC l (zbl (befP b p) p.st.length)) p.st.length) (p.st.length+1) 1 ((zd0 (zaC l (zbl (befP b p) p.st.length)) p.st.length).st.length:Int):=by
 cases b<;>rfl
def popG (γ:Gn) (n:Nat):Gn:={ γ with s2:=[.ptr 6 (n+1) (γ.gx n) 0 0]::γ.s2 }
theorem pop_H {M:Nat} {q:PC} {γ:Gn} {T:AH} {n:Nat} (hn:q.lp.length=n+1):cH M { q with lp:=q.lp.dropLast } (popG γ n) T =
  (0,.row 4 [[.own 1 0 γ.gs 0 q.st.length,.own 2 0 γ.gl 0 n,.mp 3 0,.mp 4 0]] 0)::(1,.row 3 (stC γ.gt q.st) γ.gs)::(2,.row 1 (lpC γ.gx q.lp.length++γ.s2) γ.gl)::(3,.row 3 (mpC q.lab) 0)::(4,.row 3 (mpC q.got) 0) ::
   (5,.fam 1 (fi cI M γ.tl γ.gt))::(6,.fam 2 (fi cX M γ.xl γ.gx))::(7,.fam 1 (fi cI M γ.bl γ.gb))::T:=by
 unfold cH popG;simp only[W8,hn,Nat.add_sub_cancel,zwA,List.append_assoc,List.singleton_append]
theorem pop_ok {q:PC} {γ:Gn} {n:Nat} (hok:OkC q γ) (hn:q.lp.length=n+1):OkC { q with lp:=q.lp.dropLast } (popG γ n):=by
 refine⟨hok.to,fun d hd=>?_,fun c hc=>?_,hok.xl⟩
 ·
  have hd':d < n:=by simpa [hn] using hd
  have h:=hok.lp d (by omega)
  have e:({ q with lp:=q.lp.dropLast }:PC).lp[d]=q.lp[d]:=by simp[List.getElem_dropLast]
  rw[e];exact h
 ·
  rcases WC.1 hc with rfl|hc
  · rfl
  · exact hok.s2 c hc
theorem zzB {l:List (Int × List Int)} {n:Nat} (hn:l.length=n+1):topL l=l[n].1:=by unfold topL;rw[WF,show l.length - 1=n by omega,Wj (by omega)]
theorem zu6 {l:List (Int × List Int)} {n:Nat} (hn:l.length=n+1):brkL l=l[n].2:=by unfold brkL;rw[WF,show l.length - 1=n by omega,Wj (by omega)]
theorem zom (M:Nat) (hM:M≤1000000) (l:List Nd) (hall:zqm M l):zqQ M l:=by
 intro p γ T N b fv hok hlp hT hl1 hl2 hgot hst hfv;refine z8 (fn_x zle rfl ?_);unfold zhd;have hB:=hBig;have h8:=hT.eight;obtain⟨n0,n1,n2,n3,n4,n5,n6,n7⟩:=ne8 hT.eight;have tN:T.look N=none:=hT.none (Wa _);simp only[cH]
 (refine Qa ?_;intros)
 refine zc (zgp (by rfl) (by rfl) (by simp[zcj]) (by omega)) ?_
 (repeat first|simp(disch:=try exact dis1) only[evD,Nat.reduceBEq,Nat.reduceAdd,Nat.reduceLeDiff,n0,n1,n2,n3,n4,n5,n6,n7,tN]|with_reducible first|intro _|refine aJ ?_)
 have hT1:=hT.put 2 [[.int .i64 p.st.length,.nilsl]] (zhH (by simp[zt,AV.flat0]));refine ztJ (b:=b) hok hT1 (by omega) hM ?_ ?_
 ·
  cases b with
  | none=>exact hfv
  |
   some b =>
   obtain⟨rc,c,h1,h2,h3⟩:=hfv;refine⟨rc,c,h1,?_,h3⟩;rw[AH.look_put,if_neg (by have:=(hT.num _ _ h2).2;omega)];exact h2
 intro γ1 N2 hN2 ok1 gx1
 have hb1:PostP 2 p (befP b p):=by
  cases b with
  | none=>exact(PostP.refl p).mono (by omega)
  | some b=>exact(PostP.add p _).trans (PostP.add _ _)
 rw[zx5]
 have hlv:∀x,b=some x→zj4 (befP b p) (p.st.length+1) 2:=fun x hx=>by subst hx;exact⟨⟨1,0,some [((p.st.length+2:Nat):Int),0]⟩,[((p.st.length+2:Nat):Int),0],by simp[befP,zeB,addP,WG],rfl,by simp⟩
 have hlen1:=hb1.len;have hgot1:=hb1.got;have hkl1:=hb1.keep.len;have hsl1:=hb1.lp.1;have hlp1:=hb1.ok hlp;generalize hp1:befP b p=p1 at *;obtain⟨m0,m1,m2,m3,m4,m5,m6,m7⟩:=ne8 (show 8≤N2 by omega);have t2:=hT.put1 (show N < N2 by omega)
 have htk:(lpC γ1.gx p1.lp.length++γ1.s2).take p1.lp.length=lpC γ1.gx p1.lp.length:=by rw[List.take_append_of_le_length (by simp[lpC])];exact WH (by simp[lpC])
 have hll:p1.lp.length≤(lpC γ1.gx p1.lp.length++γ1.s2).length:=by simp[lpC]
 simp only[cH]
 (repeat first|simp(disch:=try exact dis1) only[evD,Nat.reduceBEq,Nat.reduceAdd,Nat.reduceLeDiff,dT,dF,m0,m1,m2,m3,m4,m5,m6,m7,t2,zB,zK,htk,hll]|with_reducible first|intro _|refine aJ ?_)
 have hlT:TailOk N T:=hT;have okp:=zCi ok1 (p.st.length:Int)
 refine znn [(0,.ptr 0 0 0 0 0),(1,encL 5 encN l),(6,.ptr 6 (p1.lp.length+1) (γ1.gx p1.lp.length+1) 0 0),(7,.int .i64 (zpw b p))] (cH M (zbl p1 p.st.length) (zrA γ1 p1.lp.length p.st.length) T) N fun _=>⟨Ent.trans (zy5 (K2:=[(0,.ptr 0 0 0 0 0),(1,encL 5 encN l),(6,.ptr 6 (p1.lp.length+1) (γ1.gx p1.lp.length+1) 0 0),(7,.int .i64 (zpw b p))]) (by omega) hT (by omega) (by omega) ⟨.same _,.same _,.ptr _ _ _ rfl,.same _,trivial⟩) (Ent.low (Wa _) (fun _ _ h=>h) (zkV okp hT) ?_),?_⟩
 · refine⟨⟨rfl,?_⟩,⟨rfl,?_⟩,⟨rfl,?_⟩,⟨rfl,?_⟩,trivial⟩<;>simp[AV.lt1,AV.lt0,encL]<;>omega
 unfold zeY;simp only[cH]
 (refine Qa ?_;intros)
 have hpl:(zbl p1 p.st.length).lp.length=p1.lp.length+1:=by simp[zbl]
 have hne:(!(zbl p1 p.st.length).lp.isEmpty)=true:=by simp[zbl]
 have hps:(zbl p1 p.st.length).st.length=p1.st.length:=rfl;have hpb:(zbl p1 p.st.length).lab.length=p1.lab.length:=rfl;have hpg:(zbl p1 p.st.length).got.length=p1.got.length:=rfl;refine(hall (zbl p1 p.st.length) _ T N okp (zsB hlp1 _) hT (by omega) (by omega) (by omega) (by rw[hne];exact hst)).mono ?_;rintro x H N3 ⟨hN3,γ3,ok3,sx3,rfl⟩;have hq:=zbL l (zbl p1 p.st.length);have hcl:=PostP.loop (top:=(p.st.length:Int)) hq;generalize hqd:zaC l (zbl p1 p.st.length)=q at *;have hgn:γ3.gx p1.lp.length=γ1.gx p1.lp.length+1:=(sx3 p1.lp.length (by omega)).trans zbh
 have hqn:q.lp.length=p1.lp.length+1:=by rw[hq.lp.1,hpl]
 obtain⟨hclp,hdrop,hqne⟩:=hcl;have hxl:=(ok3.lp p1.lp.length (by omega)).1;have hbl:=(ok3.lp p1.lp.length (by omega)).2
 have htop:q.lp[p1.lp.length].1=(p.st.length:Int):=by rw[←zzB hqn,hq.lp.2.2];simp[topL,zbl]
 rw[htop,←zu6 hqn] at hxl;rw[←zu6 hqn] at hbl;have hfi:(fi cX M γ3.xl γ3.gx)[p1.lp.length]? = some ((γ3.xl p1.lp.length).map cX,γ3.gx p1.lp.length):=zkr (by omega);rw[hxl,hgn] at hfi;have hbrk:=hq.ok (zsB hlp1 _) _ (zzg hqne)
 have e1:((q.lp.length:Int) - 1).toNat=p1.lp.length:=by omega
 have e2:(0:Int)≤(q.lp.length:Int) - 1:=by omega
 simp only[cH]
 have e3:((q.lp.length:Int) - 1 - 0).toNat=p1.lp.length:=by omega
 (repeat first|simp(disch:=try exact dis1) only[evD,Nat.reduceBEq,Nat.reduceAdd,Nat.reduceLeDiff,dT,dF,hfi,e1,e2,e3,WW,cX,WL,WM]|with_reducible first|intro _|refine aJ ?_)
 rw[←pop_H hqn];have hqs:=hq.len;refine(zcO M { q with lp:=q.lp.dropLast } (popG γ3 p1.lp.length) T N3 p.st.length (pop_ok ok3 hqn) (hT.up hN3) (by simp only;omega) hM).mono ?_;rintro x H N4 ⟨hN4,rfl,ok4,rfl⟩;have hcd:zd0 q p.st.length=putAll (zaB { q with lp:=q.lp.dropLast } p.st.length) (brkL q.lp) ((zaB { q with lp:=q.lp.dropLast } p.st.length).st.length:Int):=rfl;have kq:Keep q (zaB { q with lp:=q.lp.dropLast } p.st.length):=Keep.trans (Keep.of_st (q:={ q with lp:=q.lp.dropLast }) rfl) (zbP _ _)
 have kql:(zaB { q with lp:=q.lp.dropLast } p.st.length).st.length=q.st.length+1:=by simp[zaB,addP]
 have sx4:zjW p.lp.length γ (zhA (popG γ3 p1.lp.length) q.st.length [(p.st.length:Int)]):=fun d hd=>by have h1:=sx3 d (by omega);show γ3.gx d=γ.gx d;rw[h1];simp only[zrA];rw[zdu (by omega),gx1]
 have h4x:(zhA (popG γ3 p1.lp.length) q.st.length [(p.st.length:Int)]).xl=γ3.xl:=rfl;have h4g:(zhA (popG γ3 p1.lp.length) q.st.length [(p.st.length:Int)]).gx=γ3.gx:=rfl;have h4b:(zhA (popG γ3 p1.lp.length) q.st.length [(p.st.length:Int)]).bl=γ3.bl:=rfl;have h4c:(zhA (popG γ3 p1.lp.length) q.st.length [(p.st.length:Int)]).gb=γ3.gb:=rfl;simp only at ok4 ⊢;generalize zhA (popG γ3 p1.lp.length) q.st.length [(p.st.length:Int)]=γ4 at *;rw[hcd] at hclp ⊢;rw[←h4x,←h4g] at hfi;generalize zaB { q with lp:=q.lp.dropLast } p.st.length=q1 at *;generalize hbk:brkL q.lp=brk at *;generalize hW:(if brk=[] then AV.nilsl else .own 7 (p1.lp.length+1) (γ3.gb p1.lp.length) 0 brk.length)=W at *;have hbrk1:brk.length≤q.st.length:=hbrk.1;have hbrk2:∀k∈brk,0≤k∧zj4 q k.toNat 1:=hbrk.2;clear hbrk
 have hlenW:∀H nx,lenR W H nx=⟨True,True,.int .i64 brk.length,H,nx⟩:=fun H nx=>by
  rw[←hW];split
  · rename_i e;rw[e];rfl
  · have:(brk.length≤9223372036854775807)=True:=eq_true (by omega);simp only[lenR,this]
 simp only[cH]
 (repeat first|simp(disch:=try exact dis1) only[evD,Nat.reduceBEq,Nat.reduceAdd,Nat.reduceLeDiff,dT,dF,hfi,hlenW,cX,WL,WM]|with_reducible first|intro _|refine aJ ?_)
 have hWlt:W.lt1 N=true:=by
  rw[←hW];split
  · rfl
  · simp[AV.lt1,AV.lt0];omega
 refine zm (fun s:Nat × Gn=>([(0,.ptr 0 0 0 0 0),(7,.int .i64 (zpw b p)),(52,W),(53,.int .i64 brk.length),(54,.int .i64 s.1)],cH M (putAll q1 (brk.take s.1) q1.st.length) s.2 T)) N
  (fun s=>s.1≤brk.length∧OkC (putAll q1 (brk.take s.1) q1.st.length) s.2∧zjW p.lp.length γ s.2∧s.2.bl=γ3.bl∧s.2.gb=γ3.gb) (fun s=>brk.length - s.1) (0,γ4) ⟨Wv _,ok4,sx4,h4b,h4c⟩ ?_ ?_
 ·
  refine Ent.low (by omega) (fun _ _ h=>h) (zkV ok4 hT) ?_
  refine⟨⟨rfl,?_⟩,⟨rfl,?_⟩,⟨rfl,hWlt⟩,⟨rfl,?_⟩,⟨rfl,?_⟩,trivial⟩<;>simp[AV.lt1,AV.lt0]
  omega
 ·
  rintro⟨j,γ5⟩ ⟨hj,ok5,sx5,h5b,h5c⟩ wf;simp only at hj ok5 sx5 h5b h5c ⊢;clear wf;unfold zfc;have hkp:=zca (brk.take j) q1 q1.st.length;have hkl:=zeM (brk.take j) q1 q1.st.length
  by_cases hl:j < brk.length
  ·
   have hne':brk≠[]:=fun e=>by rw[e] at hl;simp at hl
   rw[if_neg hne'] at hW;have hpt:=znO (q:=q1) (v:=q1.st.length) hl;have hek:=hbrk2 brk[j] (Wm hl);generalize putAll q1 (brk.take j) q1.st.length=r at *;obtain⟨hk,lst,h1,h2,h3,h4⟩:=zil (M:=M) ok5 (hkp.to _ _ (kq.to _ _ hek.2)) (by omega)
   have hfb:(fi cI M γ5.bl γ5.gb)[p1.lp.length]? = some (brk.map cI,γ5.gb p1.lp.length):=by rw[zkr (by omega),h5b,hbl hne']
   have hge:(brk.map cI).getD j []=[.int .i64 brk[j]]:=zo (f:=cI) hl;have hnn:(brk[j].toNat:Int)=brk[j]:=Wad hek.1;generalize brk[j].toNat=k at *;rw[←hnn] at hge;clear hnn hek;have hslen:(stC γ5.gt r.st).length=r.st.length:=zcj
   have hell:(brk.map cI).length=brk.length:=by simp
   have htll:((γ5.tl k).map cI).length=lst.length:=by rw[WV,h1]
   have hpos:0 < lst.length:=by omega
   rw[←hW,←h5c];simp only[cH]
   (repeat first|simp(disch:=try exact dis1) only[evD,Nat.reduceBEq,Nat.reduceAdd,Nat.reduceLeDiff,dT,dF,hge,hell,h3,h4,hfb,hslen,htll,Wd]|with_reducible first|intro _|refine aJ ?_)
   refine zbS (zgp (by rfl) (by rfl) (by simp[zcj]) (by omega)) ?_
   (repeat first|simp(disch:=try exact dis1) only[evD,Nat.reduceBEq,Nat.reduceAdd,Nat.reduceLeDiff,dT,dF,hge,hell,h3,h4,hfb,hslen,htll,Wd,WW,zqb]|with_reducible first|intro _|refine aJ ?_)
   have ok6:=zlI ok5 k 0 (q1.st.length:Int);refine⟨(j+1,setG γ5 k 0 q1.st.length),⟨hl,(by rw[hpt];exact ok6),sx5,h5b,rfl⟩,by omega,Ent.low (by omega) ?_ (zkV (by rw[hpt];exact ok6) hT) ?_⟩
   · intro x o hx;have hx2:(cH M (putAll q1 (brk.take (j+1)) q1.st.length) (setG γ5 k 0 q1.st.length) T).look x=some o:=hx;rw[hpt,zqd] at hx2;rw[hkl];rw[hkl] at hx2;exact hx2
   · refine⟨⟨rfl,?_⟩,⟨rfl,?_⟩,⟨rfl,?_⟩,⟨rfl,?_⟩,⟨rfl,?_⟩,trivial⟩<;>simp[AV.lt1,AV.lt0]<;>omega
  ·
   have hj2:j=brk.length:=by omega
   subst hj2;rw[Wx] at ok5 hkp hkl ⊢;simp only[cH]
   (refine Qk ?_;intros)
   unfold ze9
   cases b with
   |
    none =>
    simp only[zpw]
    (repeat first|simp(disch:=try exact dis1) only[evD,Nat.reduceBEq,Nat.reduceAdd,Nat.reduceLeDiff,dF,zd5]|with_reducible first|intro _|refine aJ ?_)
    exact⟨_,_,N,Ent.low (Wa _) (fun _ _ h=>h) (zkV ok5 hT) (K2:=[(0,.tup [])]) ⟨⟨rfl,rfl⟩,trivial⟩,by omega,γ5,ok5,sx5,rfl⟩
   |
    some b0 =>
    have hlv2:=hclp.keep.to _ _ (hlv b0 rfl);have hlen2:=hclp.len;generalize putAll q1 brk q1.st.length=r at *;obtain⟨hk,lst,h1,h2,h3,h4⟩:=zil (M:=M) ok5 hlv2 (by omega);have hslen:(stC γ5.gt r.st).length=r.st.length:=zcj
    have htll:((γ5.tl (p.st.length+1)).map cI).length=lst.length:=by rw[WV,h1]
    have hpos:1 < lst.length:=by omega
    have hki:(((p.st.length+1:Nat):Int)).toNat=p.st.length+1:=Wd _;simp only[zpw]
    (repeat first|simp(disch:=try exact dis1) only[evD,Nat.reduceBEq,Nat.reduceAdd,Nat.reduceLeDiff,dT,dF,h3,h4,hslen,htll,hki,Wd]|with_reducible first|intro _|refine aJ ?_)
    refine zbS (zgp (by rfl) (by rfl) (by simp[zcj]) (by omega)) ?_
    (repeat first|simp(disch:=try exact dis1) only[evD,Nat.reduceBEq,Nat.reduceAdd,Nat.reduceLeDiff,dT,dF,h3,h4,hslen,htll,Wd,Int.toNat_one,zqb,zd5]|with_reducible first|intro _|refine aJ ?_)
    have ok6:=zlI ok5 (p.st.length+1) 1 (r.st.length:Int);refine⟨.tup [],cH M (setTo r (p.st.length+1) 1 r.st.length) (setG γ5 (p.st.length+1) 1 r.st.length) T,N,Ent.low (Wa _) ?_ (zkV ok6 hT) (K2:=[(0,.tup [])]) ⟨⟨rfl,rfl⟩,trivial⟩,by omega,_,ok6,sx5,rfl⟩;rw[zqd]
    exact fun _ _ h=>h
theorem zpX:∀ {l:List Nd} {e:Nd},e∈l→zax e≤zZ l
 | [],e,h=>by cases h
 |
  a::l,e,h=>by
  rw[zZ]
  rcases WC.1 h with rfl|h
  · omega
  · have:=zpX h;omega
theorem zp7 (M:Nat) (hM:M≤1000000):∀(k:Nat) (e:Nd),zax e≤k→zer M e:=by
 intro k
 induction k with
 | zero=>intro e h;have:=znb e;omega
 |
  succ k ih =>
  rintro⟨f,c,l⟩ h;rw[zax] at h
  have hn:∀e∈l,zer M e:=fun e he=>ih e (by have:=zpX he;omega)
  exact zn0 M hM f c l (zks M hM l hn) (zkA M hM l hn) (zom M hM l (zks M hM l hn))
theorem zrm {i:Nat} {sel:List Nat}:zsc (.int .i64 i) (sel.map fun j:Nat=>[AV.int .i64 (j:Int)])=decide (i∈sel):=by
 unfold zsc;rw[Bool.eq_iff_iff,List.any_eq_true,decide_eq_true_eq];constructor
 ·
  rintro⟨s,hs1,hs2⟩;obtain⟨j,hj,rfl⟩:=Wh.1 hs1;simp only[decide_eq_true_eq] at hs2
  have:j=i:=by omega
  rw[←this];exact hj
 · intro h;exact⟨_,Wh.2 ⟨i,h,rfl⟩,by simp⟩
theorem zBH {P:Program} {d:Option Nat} {rst:Rest} {drop:List Nat} {Q:QT} {K:Kn} {H:AH} {nx r rm qm:Nat} {since st:Int} {l:List (Int × Int)} {sel:List Nat}
  (hr:H.get r 0=some (.row 1 ([.mp rm qm]::[.int .i64 since]::[.int .i64 st]::sel.map fun i:Nat=>[.int .i64 (i:Int)]) 0)) (hm:H.get rm qm=some (.row 3 (mpC l) 0))
  (h1:since≤st) (h2:since=l.length)
  (h4:(∀i,i < l.length→i∈sel)→zaI P rst drop Q (setO K d (.tup [.bool false])) H nx)
  (h5:∀i (hi:i < l.length),i∉sel→zaI P rst drop Q (setO K d (.tup [.bool true,.int .i64 l[i].1,.int .i64 l[i].2])) (H.set r 0 (.row 1 ([.mp rm qm]::[.int .i64 since]::[.int .i64 l.length]::(sel++[i]).map fun i:Nat=>[.int .i64 (i:Int)]) 0)) nx) :
  zzD P (.it r) d rst drop Q K H nx:=by
 have mem:∀e,e∈zsT (sel.map fun i:Nat=>[.int .i64 (i:Int)]) (l.mapIdx cMp)↔∃i,∃hi:i < l.length,e=cMp i l[i]∧i∉sel:=fun e=>by
  unfold zsT;rw[List.mem_filter];constructor
  ·
   rintro⟨he,hb⟩;obtain⟨i,hi,rfl⟩:=Wt.1 he;refine⟨i,hi,rfl,?_⟩;simp only[cMp,WQ,WP,zrm] at hb
   simpa using hb
  ·
   rintro⟨i,hi,rfl,hb⟩;refine⟨Wt.2 ⟨i,hi,rfl⟩,?_⟩;simp only[cMp,WQ,WP,zrm]
   simpa using hb
 unfold zzD zj9;simp only;rw[hr];simp only;rw[hm];unfold mpC;simp only;refine⟨⟨trivial,trivial,trivial,trivial,h1,fun e he=>?_,fun s hs'=>?_⟩,fun hn=>h4 fun i hi=>?_,fun e he=>?_⟩
 · obtain⟨i,hi,rfl⟩:=Wt.1 he;exact⟨i,rfl,by omega⟩
 · obtain⟨i,_,rfl⟩:=Wh.1 hs';exact⟨i,rfl⟩
 ·
  refine Classical.byContradiction fun hc=>?_
  have:=(mem (cMp i l[i])).2 ⟨i,hi,rfl,hc⟩;rw[hn] at this;cases this
 ·
  obtain⟨i,hi,rfl,hb⟩:=(mem e).1 he;have:=h5 i hi hb
  simpa [cMp,zx2] using this
theorem zzH {l:List (Int × Int)}:∀ {o i:Nat} (hi:i < l.length),zsO ((i+o:Nat):Int) (l.mapIdx fun j e=>cMp (j+o) e)=some (.int .i64 l[i].1,.int .i64 l[i].2):=by
 induction l with
 | nil=>intro o i hi;simp at hi
 |
  cons e l ih =>
  intro o i hi;rw[W5]
  cases i with
  |
   zero =>
   simp only[cMp,zsO,Wz,if_true]
  |
   succ i =>
   have h:=ih (o:=o+1) (i:=i) (by simpa using hi);simp only[cMp,zsO,WJ] at h ⊢;rw[if_neg (by omega)];rw[show ((i+1+o:Nat):Int)=((i+(o+1):Nat):Int) by omega];rw[←h]
   congr 1
   congr 1
   funext j e
   rw[show j+1+o=j+(o+1) by omega]
theorem zxA {l:List (Int × Int)} {i:Nat} (hi:i < l.length):zsO (i:Int) (l.mapIdx cMp)=some (.int .i64 l[i].1,.int .i64 l[i].2):=by
 have h:=zzH (o:=0) hi
 simpa using h
theorem zCx {H:AH} {nx r rm qm:Nat} {since:Int} {l:List (Int × Int)} {sel:List Nat} {i:Nat} (hr:H.get r 0=some (.row 1 ([.mp rm qm]::[.int .i64 since]::[.int .i64 l.length]::(sel++[i]).map fun i:Nat=>[.int .i64 (i:Int)]) 0))
  (hm:H.get rm qm=some (.row 3 (mpC l) 0)) (hi:i < l.length):xopR .ment [.it r] H nx=⟨True,True,.tup [.int .i64 l[i].1,.int .i64 l[i].2],H,nx⟩:=by
 show zqh (.it r) H nx=_;unfold zqh;simp only;rw[hr];simp only[WD,WL,WM,List.getLast?_append,List.getLast?_singleton,Option.some_or];rw[hm];unfold mpC;simp only[zxA hi];simp
def zn9 (l:List (Int × Int)) (k:Int):Int:=match l.findIdx? (fun e=>decide (e.1=k)) with
 | some i=>(l.getD i (0,0)).2
 | none=>0
theorem zw6 {l:List (Int × Int)} {k:Int} {H:AH} {nx:Nat}:zvr (some .i64) false (.int .i64 0) (.int .i64 k) (some (.row 3 (mpC l) 0)) H nx=⟨True,(AV.int .i64 (zn9 l k)).wf,.int .i64 (zn9 l k),H,nx⟩:=by
 unfold mpC zvr;simp only;rw[zsQ];unfold zn9
 cases hf:l.findIdx? fun e=>decide (e.1=k) with
 | none=>simp[mlTo,zff,mgot,mval]
 | some j=>simp[mlTo,zff,mgot,mval]
def zhR (p:PC):Prop:=(p.got.map Prod.fst).Nodup∧∀e∈p.got,0≤e.1∧zj4 p e.1.toNat 1
theorem zhR.keep {p q:PC} (h:zhR p) (k:Keep p q) (e:q.got=p.got):zhR q:=by unfold zhR;rw[e];exact⟨h.1,fun x hx=>⟨(h.2 x hx).1,k.to _ _ (h.2 x hx).2⟩⟩
theorem zAB {l:List (Int × Int)} {k v:Int} (h:∀e∈l,e.1≠k):setL l k v=l++[(k,v)]:=by unfold setL;rw[Wae.2 fun e he=>by simpa using h e he]
theorem zwf {p:PC} {lb:Int} (h:zhR p):zhR { zaB p 0 with got:=setL p.got p.st.length lb }:=by
 have hlt:∀e∈p.got,e.1≠(p.st.length:Int):=fun e he hk=>by obtain⟨h1,s,l,h2,_⟩:=h.2 e he;have:=(Ws.1 h2).1;omega
 unfold zhR;simp only;rw[zAB hlt];refine⟨?_,fun e he=>?_⟩
 · rw[WD,WU,List.nodup_append];refine⟨h.1,by simp,fun a ha b hb=>?_⟩;obtain⟨e,he,rfl⟩:=Wh.1 ha;rw[Wc.1 hb];exact hlt e he
 ·
  rcases Wu.1 he with he|he
  · exact⟨(h.2 e he).1,(zbP p ⟨1,0,some [0]⟩).to _ _ (h.2 e he).2⟩
  · rw[Wc.1 he];exact⟨Int.natCast_nonneg _,(zl7 p 0:zj4 (zaB p 0) ((p.st.length:Int)).toNat 1)⟩
theorem zox {q:PC} {top:Int} (h:zhR q):zhR (zd0 q top):=by have h1:Keep q { q with lp:=q.lp.dropLast }:=Keep.of_st rfl;have h2:Keep q (zaB { q with lp:=q.lp.dropLast } top):=h1.trans (zbP _ _);exact h.keep (h2.trans (zca _ _ _)) ((zeK _ _ _).2)
mutual
theorem zn2:∀(n:Nd) (p:PC),zhR p→zhR (zaF n p)
 |
  .mk f c l,p,h=>by
  rw[zaF];split
  · exact zjL l p h
  split
  · exact h.keep (zbP p _) rfl
  split
  · simp only;have h1:zhR (zaP p):=h.keep (zbP p _) rfl;exact(zw5 p.st.length l (zaP p) [] h1).keep (zca _ _ _) (zeK _ _ _).2
  split
  · exact zox (zjL l (zbl p p.st.length) (h.keep (Keep.of_st rfl) rfl))
  split
  · simp only;have h1:zhR (zeB p f.block):=h.keep ((zbP p _).trans (zbP _ _)) rfl;exact(zox (zjL l (zbl (zeB p f.block) p.st.length) (h1.keep (Keep.of_st rfl) rfl))).keep (zjD _ _ _ _) rfl
  split
  · exact h.keep ((zbP p ⟨1,0,some [0]⟩).trans (Keep.of_st rfl)) rfl
  split
  · exact h.keep (zbP p _) rfl
  split
  · exact zwf h
  split
  · exact h.keep (Keep.of_st rfl) rfl
  split
  · exact h.keep (zbP p _) rfl
  · exact h
theorem zjL:∀(l:List Nd) (p:PC),zhR p→zhR (zaC l p)
 | [],p,h=>by rw[zaC];exact h
 |
  n::l,p,h=>by
  rw[zaC];exact zjL l _ (zn2 n p h)
theorem zw5 (at':Nat):∀(l:List Nd) (p:PC) (ends:List Int),zhR p→zhR (brP at' l p ends).1
 | [],p,ends,h=>by rw[brP];exact h
 |
  n::l,p,ends,h=>by
  rw[brP];have h1:zhR (appTo p at' p.st.length):=h.keep (zjG p at' p.st.length) rfl;have h2:zhR (zaB (zaF n (appTo p at' p.st.length)) 0):=(zn2 n _ h1).keep (zbP _ _) rfl;exact zw5 at' l _ _ h2
end
def zlm (p:PC) (k:Nat):Int:=zn9 p.lab (zn9 p.got (k:Int))
def fixK (p:PC) (done:Nat→Bool):PC:={ p with st:=p.st.mapIdx fun k s=>if done k then { s with to:=s.to.map fun l=>l.set 0 (zlm p k) } else s }
theorem zxV {l:List (Int × Int)} (hn:(l.map Prod.fst).Nodup) {i:Nat} (hi:i < l.length):zn9 l l[i].1=l[i].2:=by
 unfold zn9
 cases hf:l.findIdx? (fun e=>decide (e.1=l[i].1)) with
 |
  none =>
  have:=Wae.1 hf l[i] (Wm hi);simp at this
 |
  some j =>
  obtain⟨h1,h2,_⟩:=W6.1 hf;have h3:l[j].1=l[i].1:=of_decide_eq_true h2
  have h4:j=i:=by
   have h5:=List.pairwise_iff_getElem.1 hn
   refine Classical.byContradiction fun hne=>?_
   rcases Nat.lt_or_ge j i with hlt|hge
   · exact h5 j i (by simpa using h1) (by simpa using hi) hlt (by simpa using h3)
   · exact h5 i j (by simpa using hi) (by simpa using h1) (by omega) (by simpa using h3.symm)
  subst h4;simp[Wp,h1]
theorem zx4 {p:PC} {done:Nat→Bool} {k:Nat} (hk:done k=false):setTo (fixK p done) k 0 (zlm p k)=fixK p (fun j=>done j||(j == k)):=by
 unfold setTo fixK;simp only[PC.mk.injEq,and_true];apply Wq;intro j;simp only[Wi,Wr]
 cases p.st[j]? with
 | none=>rfl
 |
  some s =>
  simp only[Ww,We,WE]
  by_cases h:k=j
  · subst h;simp[hk]
  · rw[if_neg h];simp only[show (j == k)=false from by simpa using Ne.symm h,Wk]
theorem zAQ {p:PC} {done:Nat→Bool}:Keep p (fixK p done):=by
 refine⟨by simp[fixK],fun k n ⟨s,l,h1,h2,h3⟩=>?_⟩;unfold zj4 fixK;simp only[Wr,h1,We,WE]
 by_cases hd:done k=true
 · exact⟨_,l.set 0 (zlm p k),rfl,by simp[hd,h2],by simpa using h3⟩
 · exact⟨_,l,rfl,by simp[hd,h2],h3⟩
end Go.Ab
