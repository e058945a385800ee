/-
  Part 13 of the proof: how the calls of this program run, over values instead of memory, and what each function computes.
-/
import Derived.KernelRfl
import Derived.Test.YtjcbhpmmngfmeaaGreatKl
set_option maxRecDepth 100000
set_option linter.unusedVariables false
set_option linter.unusedSimpArgs false
set_option linter.unnecessarySimpa false
set_option linter.unusedSectionVars false
open Nat renaming le_refl→Wa,le_trans→Wn,zero_le→Wv,zero_add→WR,lt_of_lt_of_le→WX
open List renaming mem_singleton→Wc,length_append→Wf,length_singleton→Wg,mem_map→Wh,getElem?_modify→Wi,getElem?_eq_getElem→Wj,getElem_mem→Wm,take_succ_cons→Wo,getD→Wp,ext_getElem?→Wq,getElem?_mapIdx→Wr,getElem?_eq_some_iff→Ws,mem_mapIdx→Wt,mem_append→Wu,take_length→Wx,getElem_append_left→Wy,getElem_cons_zero→Wz,all_cons→WA,all_nil→WB,mem_cons→WC,map_append→WD,getLast?_eq_getElem?→WF,getElem?_append→WG,take_of_length_le→WH,take_zero→WI,getElem_cons_succ→WJ,map_cons→WL,map_nil→WM,length_pos_iff→WO,getD_cons_zero→WP,getD_cons_succ→WQ,getElem?_set→WS,map_singleton→WU,length_map→WV,mapIdx_append→WY,getElem_append_right→WZ,getElem?_append_left→W0,mem_of_getLast?→W3,mapIdx_cons→W5,findIdx?_eq_some_iff_getElem→W6,length_mapIdx→W7,length_dropLast→W8,getElem?_eq_none→W9,getElem_modify→Waa,length_cons→Wab,length_take→Wac,findIdx?_eq_none_iff→Wae
open Int renaming toNat_natCast→Wd,toNat_zero→WW,toNat_of_nonneg→Wad
open Option renaming map_some→We,map_eq_map→Ww,bind_some→WK
open Bool renaming or_false→Wk,and_self→WN
open And renaming intro→Wl
open Option.some renaming injEq→WE
namespace Go.Ab
open Go.RowKit Go.Proofs
def zhf:ACode:=.seq (.region [ (oK 2 0)] [2]) (.seq (.region [ (oM 3 0),(oX 4 3),(oF 5 0 1 4),(oL 6 5),(oE 7 6),(oM 2 7)] [0,3,4,5,6,7]) (.ret))
def zhk:List ARet:=[.tmp 2]
theorem zmc:z8 Tryz.prog zap (qRo [])=some (zhf.strip,zhk,8):=by kernel_rfl
def zh9:ACode:=.seq (.region [ (oN 3 (.box (.t 1))),(oK 4 0)] [1,4]) (.seq (.draw ( .step (oM 5 0) ( .step (oM 6 0) ( .step (oX 7 6) ( .step (oF 8 0 1 7) ( .alt (oL 9 8) ( .alt (oA 10 3 3) ( .alt (oN 11 (.buildSl 3 1 [.int .i64 0,.int .i64 0,.nilsl] [(0,(.t 10))])) ( .alt (oN 12 (.append 3 40 (.t 9) (.t 11))) ( .step (oX 13 5) ( .step (oF 14 0 1 13) ( .alt (oS 1 14 12) ( .done) ( .stop)))) ( .stop)) ( .stop)) ( .stop)) ( .alt (oA 10 3 3) ( .alt (oL 9 8) ( .alt (oN 11 (.buildSl 3 1 [.int .i64 0,.int .i64 0,.nilsl] [(0,(.t 10))])) ( .alt (oN 12 (.append 3 40 (.t 9) (.t 11))) ( .step (oX 13 5) ( .step (oF 14 0 1 13) ( .alt (oS 1 14 12) ( .done) ( .stop)))) ( .stop)) ( .stop)) ( .alt (oN 11 (.buildSl 3 1 [.int .i64 0,.int .i64 0,.nilsl] [(0,(.t 10))])) ( .step (oL 9 8) ( .alt (oN 12 (.append 3 40 (.t 9) (.t 11))) ( .step (oX 13 5) ( .step (oF 14 0 1 13) ( .alt (oS 1 14 12) ( .done) ( .stop)))) ( .stop))) ( .stop))) ( .stop))))))) [3,5,6,7,8,9,10,11,12,13,14]) (.seq (.region [ (oM 15 0),(oX 16 15),(oF 17 0 1 16),(oL 18 17),(oE 19 18),(oC 20 .sub 19 1),(oM 4 20)] [0,15,16,17,18,19,20]) (.ret)))
def zhQ:List ARet:=[.tmp 4]
theorem zmZ:z8 Tryz.prog zau (qRo [])=some (zh9.strip,zhQ,21):=by kernel_rfl
def zhl:ACode:=.seq (.region [ (oK 4 0)] [4]) (.seq (.region [ (oM 5 0),(oM 6 1),(oN 7 (.buildSl 1 1 [.int .i64 0] [(0,(.t 6))])),(oN 8 (.build [.int .i64 0,.int .i64 0,.nilsl] [(0,1,(.c (.int .i64 1))),(2,1,(.t 7))])),(oN 9 (.call zau [(.t 5),(.t 8)])),(oM 4 9)] [0,1,5,6,7,8,9]) (.ret))
def zhm:List ARet:=[.tmp 4]
theorem zmb:z8 Tryz.prog zz (qRo [])=some (zhl.strip,zhm,10):=by kernel_rfl
def zR:ACode:=.seq (.region [ (oN 2 (.box (.t 0))),(oN 3 (.rbox (.t 1)))] [0,1]) (.seq (.region [ (oF 5 0 1 3),(oL 6 5)] [5]) (.block 0 (.seq (.region [ (oC 8 .eql 6 1),(oM 7 8)] [8]) (.cond (.t 7) (.region [ (oL 9 2),(oF 10 4 1 3),(oL 11 10),(oN 12 (.call zdB [(.t 9),(.t 11)]))] [2,3,6,7,9,10,11,12]) (.seq (.region [ (oC 14 .eql 6 2),(oM 13 14)] [7,14]) (.cond (.t 13) (.region [ (oL 15 2),(oF 16 1 1 3),(oL 17 16),(oN 18 (.build [.int .i64 0,.int .i64 0,.nilsl] [(0,1,(.c (.int .i64 0))),(1,1,(.t 17))])),(oN 19 (.call zau [(.t 15),(.t 18)]))] [2,3,6,13,15,16,17,18,19]) (.seq (.seq (.region [ (oC 21 .eql 6 3),(oM 20 21)] [13,21]) (.cond (.t 20) (.skip) (.region [ (oC 22 .eql 6 6),(oM 20 22)] [22]))) (.cond (.t 20) (.region [ (oL 23 2),(oF 24 4 1 3),(oL 25 24),(oN 26 (.call zcR [(.t 23),(.t 25)]))] [2,3,6,20,23,24,25,26]) (.seq (.region [ (oC 28 .eql 6 4),(oM 27 28)] [20,28]) (.cond (.t 27) (.region [ (oL 29 2),(oF 30 4 1 3),(oL 31 30),(oN 32 (.call zc9 [(.t 29),(.t 31),(.c (.fn (.func zbM) []))]))] [2,3,6,27,29,30,31,32]) (.seq (.region [ (oC 34 .eql 6 5),(oM 33 34)] [27,34]) (.cond (.t 33) (.region [ (oL 35 2),(oF 36 4 1 3),(oL 37 36),(oN 38 (.mkfn (.func zbI) [(.t 2),(.t 3)])),(oN 39 (.call zc9 [(.t 35),(.t 37),(.t 38)]))] [2,3,6,33,35,36,37,38,39]) (.seq (.region [ (oC 41 .eql 6 7),(oM 40 41)] [33,41]) (.cond (.t 40) (.seq (.draw ( .step (oL 42 2) ( .step (oX 43 42) ( .step (oF 44 1 1 43) ( .step (oL 45 44) ( .step (oL 46 2) ( .step (oX 47 46) ( .step (oF 48 1 1 47) ( .step (oL 49 48) ( .step (oE 50 49) ( .step (oC 51 .sub 50 1) ( .step (oI 52 1 45 51) ( .step (oL 53 52) ( .step (oM 4 53) ( .done)))))))))))))) [3,6,40,42,43,44,45,46,47,48,49,50,51,52,53]) (.draw ( .step (oM 54 4) ( .step (oM 55 4) ( .step (oX 56 55) ( .step (oF 57 1 1 56) ( .alt (oL 58 57) ( .alt (oL 59 2) ( .alt (oN 60 (.call zz [(.t 59),(.c (.int .i64 0))])) ( .alt Yap ( .alt (oN 62 (.append 1 8 (.t 58) (.t 61))) ( .step (oX 63 54) ( .step (oF 64 1 1 63) ( .alt (oS 1 64 62) ( .done) ( .stop)))) ( .stop)) ( .stop)) ( .stop)) ( .stop)) ( .alt (oL 59 2) ( .alt (oL 58 57) ( .alt (oN 60 (.call zz [(.t 59),(.c (.int .i64 0))])) ( .alt Yap ( .alt (oN 62 (.append 1 8 (.t 58) (.t 61))) ( .step (oX 63 54) ( .step (oF 64 1 1 63) ( .alt (oS 1 64 62) ( .done) ( .stop)))) ( .stop)) ( .stop)) ( .stop)) ( .alt (oN 60 (.call zz [(.t 59),(.c (.int .i64 0))])) ( .alt (oL 58 57) ( .alt Yap ( .alt (oN 62 (.append 1 8 (.t 58) (.t 61))) ( .step (oX 63 54) ( .step (oF 64 1 1 63) ( .alt (oS 1 64 62) ( .done) ( .stop)))) ( .stop)) ( .stop)) ( .alt Yap ( .step (oL 58 57) ( .alt (oN 62 (.append 1 8 (.t 58) (.t 61))) ( .step (oX 63 54) ( .step (oF 64 1 1 63) ( .alt (oS 1 64 62) ( .done) ( .stop)))) ( .stop))) ( .stop))) ( .stop))) ( .stop))))))) [2,4,54,55,56,57,58,59,60,61,62,63,64])) (.seq (.region [ (oC 66 .eql 6 8),(oM 65 66)] [40,66]) (.cond (.t 65) (.draw ( .step (oL 67 2) ( .alt (oL 68 2) ( .step (oX 69 68) ( .step (oF 70 1 1 69) ( .alt (oL 71 70) ( .alt (oL 72 2) ( .step (oX 73 72) ( .step (oF 74 1 1 73) ( .alt (oL 75 74) ( .step (oE 76 75) ( .step (oC 77 .sub 76 1) ( .alt (oI 78 1 71 77) ( .alt (oL 79 78) ( .step (oX 80 79) ( .step (oF 81 0 1 80) ( .step (oL 82 81) ( .alt (oN 83 (.call zz [(.t 67),(.t 82)])) ( .done) ( .stop))))) ( .stop)) ( .stop)))) ( .stop)))) ( .stop)) ( .alt (oL 72 2) ( .step (oX 73 72) ( .step (oF 74 1 1 73) ( .alt (oL 71 70) ( .alt (oL 75 74) ( .step (oE 76 75) ( .step (oC 77 .sub 76 1) ( .alt (oI 78 1 71 77) ( .alt (oL 79 78) ( .step (oX 80 79) ( .step (oF 81 0 1 80) ( .step (oL 82 81) ( .alt (oN 83 (.call zz [(.t 67),(.t 82)])) ( .done) ( .stop))))) ( .stop)) ( .stop)))) ( .stop)) ( .alt (oL 75 74) ( .step (oE 76 75) ( .step (oC 77 .sub 76 1) ( .alt (oL 71 70) ( .alt (oI 78 1 71 77) ( .alt (oL 79 78) ( .step (oX 80 79) ( .step (oF 81 0 1 80) ( .step (oL 82 81) ( .alt (oN 83 (.call zz [(.t 67),(.t 82)])) ( .done) ( .stop))))) ( .stop)) ( .stop)) ( .stop)))) ( .stop))))) ( .stop))))) ( .alt (oL 72 2) ( .step (oX 73 72) ( .step (oF 74 1 1 73) ( .alt (oL 68 2) ( .step (oX 69 68) ( .step (oF 70 1 1 69) ( .alt (oL 71 70) ( .alt (oL 75 74) ( .step (oE 76 75) ( .step (oC 77 .sub 76 1) ( .alt (oI 78 1 71 77) ( .alt (oL 79 78) ( .step (oX 80 79) ( .step (oF 81 0 1 80) ( .step (oL 82 81) ( .alt (oN 83 (.call zz [(.t 67),(.t 82)])) ( .done) ( .stop))))) ( .stop)) ( .stop)))) ( .stop)) ( .alt (oL 75 74) ( .step (oE 76 75) ( .step (oC 77 .sub 76 1) ( .alt (oL 71 70) ( .alt (oI 78 1 71 77) ( .alt (oL 79 78) ( .step (oX 80 79) ( .step (oF 81 0 1 80) ( .step (oL 82 81) ( .alt (oN 83 (.call zz [(.t 67),(.t 82)])) ( .done) ( .stop))))) ( .stop)) ( .stop)) ( .stop)))) ( .stop))))) ( .alt (oL 75 74) ( .step (oE 76 75) ( .step (oC 77 .sub 76 1) ( .alt (oL 68 2) ( .step (oX 69 68) ( .step (oF 70 1 1 69) ( .alt (oL 71 70) ( .alt (oI 78 1 71 77) ( .alt (oL 79 78) ( .step (oX 80 79) ( .step (oF 81 0 1 80) ( .step (oL 82 81) ( .alt (oN 83 (.call zz [(.t 67),(.t 82)])) ( .done) ( .stop))))) ( .stop)) ( .stop)) ( .stop)))) ( .stop)))) ( .stop))))) ( .stop)))) [2,3,6,65,67,68,69,70,71,72,73,74,75,76,77,78,79,80,81,82,83]) (.seq (.region [ (oC 85 .eql 6 9),(oM 84 85)] [65,85]) (.cond (.t 84) (.draw ( .step (oL 90 2) ( .step (oF 92 2 1 3) ( .alt (oL 86 2) ( .step (oX 87 86) ( .step (oF 88 3 1 87) ( .alt (oL 89 88) ( .alt (oN 91 (.call zz [(.t 90),(.c (.int .i64 0))])) ( .step (oL 93 92) ( .alt ⟨none,.xop (.mset (some .i64)) [(.t 89),(.t 91),(.t 93)],none⟩ ( .done) ( .stop))) ( .alt (oL 93 92) ( .alt (oN 91 (.call zz [(.t 90),(.c (.int .i64 0))])) ( .alt ⟨none,.xop (.mset (some .i64)) [(.t 89),(.t 91),(.t 93)],none⟩ ( .done) ( .stop)) ( .stop)) ( .stop))) ( .alt (oN 91 (.call zz [(.t 90),(.c (.int .i64 0))])) ( .step (oL 89 88) ( .step (oL 93 92) ( .alt ⟨none,.xop (.mset (some .i64)) [(.t 89),(.t 91),(.t 93)],none⟩ ( .done) ( .stop)))) ( .alt (oL 93 92) ( .alt (oL 89 88) ( .alt (oN 91 (.call zz [(.t 90),(.c (.int .i64 0))])) ( .alt ⟨none,.xop (.mset (some .i64)) [(.t 89),(.t 91),(.t 93)],none⟩ ( .done) ( .stop)) ( .stop)) ( .alt (oN 91 (.call zz [(.t 90),(.c (.int .i64 0))])) ( .step (oL 89 88) ( .alt ⟨none,.xop (.mset (some .i64)) [(.t 89),(.t 91),(.t 93)],none⟩ ( .done) ( .stop))) ( .stop))) ( .stop)))))) ( .alt (oN 91 (.call zz [(.t 90),(.c (.int .i64 0))])) ( .step (oL 86 2) ( .step (oX 87 86) ( .step (oF 88 3 1 87) ( .step (oL 89 88) ( .step (oL 93 92) ( .alt ⟨none,.xop (.mset (some .i64)) [(.t 89),(.t 91),(.t 93)],none⟩ ( .done) ( .stop))))))) ( .alt (oL 93 92) ( .alt (oL 86 2) ( .step (oX 87 86) ( .step (oF 88 3 1 87) ( .alt (oL 89 88) ( .alt (oN 91 (.call zz [(.t 90),(.c (.int .i64 0))])) ( .alt ⟨none,.xop (.mset (some .i64)) [(.t 89),(.t 91),(.t 93)],none⟩ ( .done) ( .stop)) ( .stop)) ( .alt (oN 91 (.call zz [(.t 90),(.c (.int .i64 0))])) ( .step (oL 89 88) ( .alt ⟨none,.xop (.mset (some .i64)) [(.t 89),(.t 91),(.t 93)],none⟩ ( .done) ( .stop))) ( .stop))))) ( .alt (oN 91 (.call zz [(.t 90),(.c (.int .i64 0))])) ( .step (oL 86 2) ( .step (oX 87 86) ( .step (oF 88 3 1 87) ( .step (oL 89 88) ( .alt ⟨none,.xop (.mset (some .i64)) [(.t 89),(.t 91),(.t 93)],none⟩ ( .done) ( .stop)))))) ( .stop))) ( .stop)))))) [2,3,6,84,86,87,88,89,90,91,92,93]) (.seq (.region [ (oC 95 .eql 6 10),(oM 94 95)] [84,95]) (.cond (.t 94) (.draw ( .step (oL 96 2) ( .step (oX 97 96) ( .step (oF 98 2 1 97) ( .step (oL 99 98) ( .step (oF 100 2 1 3) ( .step (oL 101 100) ( .step (oL 102 2) ( .step (oN 103 (.callq zap [(.t 102)])) ( .alt ⟨none,.xop (.mset (some .i64)) [(.t 99),(.t 101),(.t 103)],none⟩ ( .done) ( .stop)))))))))) [2,3,6,94,96,97,98,99,100,101,102,103]) (.seq (.seq (.region [ (oC 105 .eql 6 11),(oM 104 105)] [3,94,105]) (.cond (.t 104) (.skip) (.region [ (oC 106 .eql 6 12),(oM 104 106)] [6,106]))) (.cond (.t 104) (.region [ (oL 107 2),(oN 108 (.build [.int .i64 0,.int .i64 0,.nilsl] [(0,1,(.c (.int .i64 2)))])),(oN 109 (.call zau [(.t 107),(.t 108)]))] [2,6,104,107,108,109]) (.skip)))))))))))))))))))))))
def zN:List ARet:=[]
theorem zW:z8 Tryz.prog zce (qRoL [3] [(15,[0,1,2,3,4,5,7,8,9,10,11,12,13,14,15,16,17,18,19,20,21,22,23,24,25,26,27,28,29,30,31,32,33,34,35,36,37,38,39,40,41,42,43,44,45,46,47,48,49,50,51,52,53,54,55,56,57,58,59,60,61,62,63,64,65,66,67,68,69,70,71,72,73,74,75,76,77,78,79,80,81,82,83,84,85,86,87,88,89,90,91,92,93,94,95,96,97,98,99,100,101,102,103,104,105,106,107,108,109,110,111,112,113,114,115,116,117,118,119,120,121,122,123,124,125,126,127,128,129,130,131,132,133,134,135,136,137,138,139,140,141,142,143,144,145,146,147,148,149]),(17,[0,1,2,3,4,5,6,7,8,9,10,11,12,13,14,15,17,18,19,20,21,22,23,24,25,26,27,28,29,30,31,32,33,34,35,36,37,38,39,40,41,42,43,44,45,46,47,48,49,50,51,52,53,54,55,56,57,58,59,60,61,62,63,64,65,66,67,68,69,70,71,72,73,74,75,76,77,78,79,80,81,82,83,84,85,86,87,88,89,90,91,92,93,94,95,96,97,98,99,100,101,102,103,104,105,106,107,108,109,110,111,112,113,114,115,116,117,118,119,120,121,122,123,124,125,126,127,128,129,130,131,132,133,134,135,136,137,138,139,140,141,142,143,144,145,146,147,148,149]),(19,[0,1,2,3,4,6,7,8,9,10,11,12,13,14,15,16,17,18,19,20,21,22,23,24,25,26,27,28,29,30,31,32,33,34,35,36,37,38,39,40,41,42,43,44,45,46,47,48,49,50,51,52,53,54,55,56,57,58,59,60,61,62,63,64,65,66,67,68,69,70,71,72,73,74,75,76,77,78,79,80,81,82,83,84,85,86,87,88,89,90,91,92,93,94,95,96,97,98,99,100,101,102,103,104,105,106,107,108,109,110,111,112,113,114,115,116,117,118,119,120,121,122,123,124,125,126,127,128,129,130,131,132,133,134,135,136,137,138,139,140,141,142,143,144,145,146,147,148,149])])=some (zR.strip,zN,110):=by kernel_rfl
def zfO:ACode:=.seq (.region [ (oB 9 .lss 8 7)] []) (.seq (.cond (.t 9) (.skip) (.exit 0)) (.seq (.block 1 (.seq (.region [ (oI 10 5 6 8),(oA 11 5 10),(oN 5 (.alloc [.int .i64 0,.int .i64 0,.int .i64 0,.nilsl,.nilsl])),(oS 5 5 11)] [9,10,11]) (.region [ (oM 12 0),(oA 13 5 5),(oN 14 (.call zce [(.t 12),(.t 13)]))] [5,12,13,14]))) (.region [ (oC 15 .add 8 1),(oM 8 15)] [15])))
def zig:ACode:=.seq (.region [ (oM 6 1),(oE 7 6),(oK 8 0)] [1]) (.block 0 (.loop zfO))
def zif:List ARet:=[]
theorem zmB:z8 Tryz.prog zdB (qRo [])=some (zig.strip,zif,16):=by kernel_rfl
def zdp:ACode:=.seq (.region [ (oM 38 0),(oA 39 5 7),(oN 40 (.call zce [(.t 38),(.t 39)]))] [7,38,39,40]) (.region [ (oM 41 5),(oM 42 0),(oN 43 (.call zz [(.t 42),(.c (.int .i64 0))])),(oN 44 (.buildSl 1 1 [.int .i64 0] [(0,(.t 43))])),(oN 45 (.append 1 8 (.t 41) (.t 44))),(oM 5 45)] [41,42,43,44,45])
def zdv:ACode:=.seq (.region [ (oB 16 .lss 15 14)] []) (.seq (.cond (.t 16) (.skip) (.exit 0)) (.seq (.block 1 (.seq (.region [ (oI 17 5 13 15),(oA 18 5 17),(oN 7 (.alloc [.int .i64 0,.int .i64 0,.int .i64 0,.nilsl,.nilsl])),(oS 5 7 18)] [16,17,18]) (.join (.draw ( .step (oM 19 0) ( .step (oX 20 19) ( .step (oF 21 0 1 20) ( .step (oM 23 4) ( .step (oM 24 0) ( .step (oX 25 24) ( .step (oF 26 0 1 25) ( .step (oM 28 4) ( .step (oM 32 0) ( .step (oN 33 (.callq zap [(.t 32)])) ( .alt (oL 22 21) ( .alt (oL 27 26) ( .alt Yal ( .step Yam ( .alt (oL 31 30) ( .alt Yaj ( .alt Yad ( .alt Yae ( .step Yaf ( .alt Yag ( .done) ( .stop))) ( .stop)) ( .stop)) ( .stop)) ( .alt Yaj ( .step (oL 31 30) ( .alt Yad ( .alt Yae ( .step Yaf ( .alt Yag ( .done) ( .stop))) ( .stop)) ( .stop))) ( .stop)))) ( .alt Yaj ( .alt Yal ( .step Yam ( .step (oL 31 30) ( .alt Yad ( .alt Yae ( .step Yaf ( .alt Yag ( .done) ( .stop))) ( .stop)) ( .stop)))) ( .stop)) ( .stop))) ( .alt Yaj ( .alt (oL 27 26) ( .alt Yal ( .step Yam ( .step (oL 31 30) ( .alt Yad ( .alt Yae ( .step Yaf ( .alt Yag ( .done) ( .stop))) ( .stop)) ( .stop)))) ( .stop)) ( .stop)) ( .stop))) ( .alt (oL 27 26) ( .alt (oL 22 21) ( .alt Yal ( .step Yam ( .alt (oL 31 30) ( .alt Yaj ( .alt Yad ( .alt Yae ( .step Yaf ( .alt Yag ( .done) ( .stop))) ( .stop)) ( .stop)) ( .stop)) ( .alt Yaj ( .step (oL 31 30) ( .alt Yad ( .alt Yae ( .step Yaf ( .alt Yag ( .done) ( .stop))) ( .stop)) ( .stop))) ( .stop)))) ( .alt Yaj ( .alt Yal ( .step Yam ( .step (oL 31 30) ( .alt Yad ( .alt Yae ( .step Yaf ( .alt Yag ( .done) ( .stop))) ( .stop)) ( .stop)))) ( .stop)) ( .stop))) ( .alt Yal ( .step Yam ( .alt (oL 22 21) ( .alt (oL 31 30) ( .alt Yaj ( .alt Yad ( .alt Yae ( .step Yaf ( .alt Yag ( .done) ( .stop))) ( .stop)) ( .stop)) ( .stop)) ( .alt Yaj ( .step (oL 31 30) ( .alt Yad ( .alt Yae ( .step Yaf ( .alt Yag ( .done) ( .stop))) ( .stop)) ( .stop))) ( .stop))) ( .alt (oL 31 30) ( .alt (oL 22 21) ( .alt Yaj ( .alt Yad ( .alt Yae ( .step Yaf ( .alt Yag ( .done) ( .stop))) ( .stop)) ( .stop)) ( .stop)) ( .alt Yaj ( .alt (oL 22 21) ( .alt Yad ( .alt Yae ( .step Yaf ( .alt Yag ( .done) ( .stop))) ( .stop)) ( .stop)) ( .alt Yad ( .step (oL 22 21) ( .alt Yae ( .step Yaf ( .alt Yag ( .done) ( .stop))) ( .stop))) ( .stop))) ( .stop))) ( .alt Yaj ( .step (oL 31 30) ( .alt (oL 22 21) ( .alt Yad ( .alt Yae ( .step Yaf ( .alt Yag ( .done) ( .stop))) ( .stop)) ( .stop)) ( .alt Yad ( .step (oL 22 21) ( .alt Yae ( .step Yaf ( .alt Yag ( .done) ( .stop))) ( .stop))) ( .stop)))) ( .stop))))) ( .alt Yaj ( .alt (oL 22 21) ( .alt Yal ( .step Yam ( .step (oL 31 30) ( .alt Yad ( .alt Yae ( .step Yaf ( .alt Yag ( .done) ( .stop))) ( .stop)) ( .stop)))) ( .stop)) ( .alt Yal ( .step Yam ( .step (oL 31 30) ( .alt (oL 22 21) ( .alt Yad ( .alt Yae ( .step Yaf ( .alt Yag ( .done) ( .stop))) ( .stop)) ( .stop)) ( .alt Yad ( .step (oL 22 21) ( .alt Yae ( .step Yaf ( .alt Yag ( .done) ( .stop))) ( .stop))) ( .stop))))) ( .stop))) ( .stop)))) ( .alt Yaj ( .alt (oL 22 21) ( .alt (oL 27 26) ( .alt Yal ( .step Yam ( .step (oL 31 30) ( .alt Yad ( .alt Yae ( .step Yaf ( .alt Yag ( .done) ( .stop))) ( .stop)) ( .stop)))) ( .stop)) ( .stop)) ( .alt (oL 27 26) ( .alt (oL 22 21) ( .alt Yal ( .step Yam ( .step (oL 31 30) ( .alt Yad ( .alt Yae ( .step Yaf ( .alt Yag ( .done) ( .stop))) ( .stop)) ( .stop)))) ( .stop)) ( .alt Yal ( .step Yam ( .step (oL 31 30) ( .alt (oL 22 21) ( .alt Yad ( .alt Yae ( .step Yaf ( .alt Yag ( .done) ( .stop))) ( .stop)) ( .stop)) ( .alt Yad ( .step (oL 22 21) ( .alt Yae ( .step Yaf ( .alt Yag ( .done) ( .stop))) ( .stop))) ( .stop))))) ( .stop))) ( .stop))) ( .stop)))))))))))))) [19,20,21,22,23,24,25,26,27,28,29,30,31,32,33,34,35,36,37]) (zdp)))) (.region [ (oC 46 .add 15 1),(oM 15 46)] [46])))
def zdw:ACode:=.seq (.region [ (oB 50 .lss 49 48)] []) (.seq (.cond (.t 50) (.skip) (.exit 2)) (.seq (.block 3 (.seq (.region [ (oI 51 1 47 49),(oL 52 51),(oM 9 52)] [50,51,52]) (.draw ( .step (oM 53 0) ( .step (oX 54 53) ( .step (oF 55 0 1 54) ( .step (oL 56 55) ( .step (oM 57 9) ( .step (oI 58 3 56 57) ( .step (oF 59 2 1 58) ( .step (oL 60 59) ( .step (oM 61 0) ( .step (oN 62 (.callq zap [(.t 61)])) ( .step (oN 63 (.idx 1 (.t 60) (.c (.int .i64 0)))) ( .alt (oS 1 63 62) ( .done) ( .stop))))))))))))) [9,53,54,55,56,57,58,59,60,61,62,63]))) (.region [ (oC 64 .add 49 1),(oM 49 64)] [64])))
def zdx:ACode:=.seq (.region [ (oM 47 5),(oE 48 47),(oK 49 0)] [4,5,13,14,15]) (.block 2 (.loop zdw))
def zey:ACode:=.seq (.region [ (oM 10 0),(oN 11 (.build [.int .i64 0,.int .i64 0,.nilsl] [(0,1,(.c (.int .i64 1))),(1,1,(.c (.int .i64 (-1))))])),(oN 12 (.call zau [(.t 10),(.t 11)])),(oM 4 12)] [10,11,12]) (.seq (.region [ (oN 5 (.mknil 1))] []) (.seq (.seq (.region [ (oM 13 1),(oE 14 13),(oK 15 0)] [1]) (.block 0 (.loop zdv))) (zdx)))
def zeF:List ARet:=[]
theorem zjg:z8 Tryz.prog zcR (qRo [])=some (zey.strip,zeF,65):=by kernel_rfl
def zfo:ACode:=.seq (.region [ (oB 55 .lss 54 53)] []) (.seq (.cond (.t 55) (.skip) (.exit 0)) (.seq (.block 1 (.seq (.region [ (oI 56 1 52 54),(oL 57 56),(oM 9 57)] [55,56,57]) (.draw ( .step (oM 58 0) ( .step (oX 59 58) ( .step (oF 60 0 1 59) ( .step (oL 61 60) ( .step (oM 62 9) ( .step (oI 63 3 61 62) ( .step (oF 64 2 1 63) ( .step (oL 65 64) ( .step (oM 66 0) ( .step (oN 67 (.callq zap [(.t 66)])) ( .step (oN 68 (.idx 1 (.t 65) (.c (.int .i64 0)))) ( .alt (oS 1 68 67) ( .done) ( .stop))))))))))))) [9,58,59,60,61,62,63,64,65,66,67,68]))) (.region [ (oC 69 .add 54 1),(oM 54 69)] [69])))
def zfa:ACode:=.seq (.region [ (oM 70 7),(oC 71 .geq 70 0)] [52,53,54,70]) (.cond (.t 71) (.draw ( .step (oM 72 0) ( .step (oX 73 72) ( .step (oF 74 0 1 73) ( .step (oL 75 74) ( .step (oM 76 7) ( .step (oI 77 3 75 76) ( .step (oF 78 2 1 77) ( .step (oL 79 78) ( .step (oM 80 0) ( .step (oN 81 (.callq zap [(.t 80)])) ( .step (oN 82 (.idx 1 (.t 79) (.c (.int .i64 1)))) ( .alt (oS 1 82 81) ( .done) ( .stop))))))))))))) [0,7,71,72,73,74,75,76,77,78,79,80,81,82]) (.skip))
def zfm:ACode:=.seq (.region [ (oM 26 0),(oM 27 1),(oN 28 (.call zdB [(.t 26),(.t 27)]))] [1,26,27,28]) (.seq (.draw ( .step (oM 29 0) ( .step (oM 30 0) ( .step (oX 31 30) ( .step (oF 32 1 1 31) ( .step (oL 33 32) ( .step (oM 34 0) ( .step (oX 35 34) ( .step (oF 36 1 1 35) ( .step (oL 37 36) ( .step (oE 38 37) ( .step (oC 39 .sub 38 1) ( .step (oN 40 (.slice 1 (.t 33) none (some (.t 39)))) ( .step (oX 41 29) ( .step (oF 42 1 1 41) ( .alt (oS 1 42 40) ( .done) ( .stop)))))))))))))))) [29,30,31,32,33,34,35,36,37,38,39,40,41,42]) (.seq (.region [ (oM 43 0),(oM 44 6),(oX 45 44),(oF 46 0 1 45),(oL 47 46),(oN 48 (.call zz [(.t 43),(.t 47)]))] [43,44,45,46,47,48]) (.seq (.seq (.region [ (oM 49 6),(oX 50 49),(oF 51 1 1 50),(oL 52 51),(oE 53 52),(oK 54 0)] [6,49,50,51]) (.block 0 (.loop zfo))) (zfa))))
def zhz:ACode:=.seq (.region [ (oM 10 0),(oN 11 (.call zap [(.t 10)])),(oN 12 (.build [.int .i64 0,.nilsl] [(0,1,(.t 11))])),(oN 13 (.box (.t 12))),(oM 6 13)] [10,11,12,13]) (.seq (.region [ (oM 14 2),(oN 15 (.callv (.t 14) [])),(oM 7 15)] [2,14,15]) (.seq (.region [ (oM 16 0),(oM 17 0),(oX 18 17),(oF 19 1 1 18),(oL 20 19),(oM 21 6),(oN 22 (.buildSl 1 1 [.nilp] [(0,(.t 21))])),(oN 23 (.append 1 8 (.t 20) (.t 22))),(oX 24 16),(oF 25 1 1 24),(oS 1 25 23)] [16,17,18,19,20,21,22,23,24,25]) (.mark 2 (zfm))))
def zdU:List ARet:=[]
theorem zl3:z8 Tryz.prog zc9 (qRo [])=some (zhz.strip,zdU,83):=by kernel_rfl
def zfH:ACode:=.seq (.region [ (oK 0 0)] [0]) (.seq (.region [ (oK 0 (-1))] []) (.ret))
def zfD:List ARet:=[.tmp 0]
theorem zkh:z8 Tryz.prog zbM (qRo [])=some (zfH.strip,zfD,1):=by kernel_rfl
def zfE:ACode:=.seq (.region [ (oK 2 0)] [2]) (.seq (.region [ (oL 4 0),(oF 5 1 1 1),(oL 6 5),(oN 7 (.build [.int .i64 0,.int .i64 0,.nilsl] [(0,1,(.c (.int .i64 0))),(1,1,(.t 6))])),(oN 8 (.call zau [(.t 4),(.t 7)]))] [1,4,5,6,7,8]) (.seq (.region [ (oL 9 0),(oN 10 (.buildSl 1 2 [.int .i64 0] [(0,(.c (.int .i64 0))),(1,(.c (.int .i64 0)))])),(oN 11 (.build [.int .i64 0,.int .i64 0,.nilsl] [(0,1,(.c (.int .i64 1))),(2,1,(.t 10))])),(oN 12 (.call zau [(.t 9),(.t 11)])),(oM 3 12)] [9,10,11,12]) (.seq (.draw ( .step (oL 13 0) ( .step (oX 14 13) ( .step (oF 15 0 1 14) ( .step (oL 16 15) ( .step (oM 17 3) ( .step (oI 18 3 16 17) ( .step (oF 19 2 1 18) ( .step (oL 20 19) ( .step (oL 21 0) ( .step (oN 22 (.callq zap [(.t 21)])) ( .step (oN 23 (.idx 1 (.t 20) (.c (.int .i64 0)))) ( .alt (oS 1 23 22) ( .done) ( .stop))))))))))))) [0,13,14,15,16,17,18,19,20,21,22,23]) (.seq (.region [ (oM 24 3),(oM 2 24)] [3,24]) (.ret)))))
def zf0:List ARet:=[.tmp 2]
theorem zkg:z8 Tryz.prog zbI (qRo [])=some (zfE.strip,zf0,25):=by kernel_rfl
def zew:ACode:=.seq (.region [ (oN 21 (.mnext (.t 20))),(oT 22 0 21)] [21]) (.seq (.cond (.t 22) (.skip) (.exit 0)) (.block 1 (.seq (.region [ (oN 23 (.xop .ment [(.t 20)])),(oT 24 0 23),(oT 25 1 23),(oM 4 24),(oM 5 25)] [22,23,24,25]) (.draw ( .step (oM 26 3) ( .step (oX 27 26) ( .step (oF 28 0 1 27) ( .step (oL 29 28) ( .step (oM 30 4) ( .step (oI 31 3 29 30) ( .step (oF 32 2 1 31) ( .step (oL 33 32) ( .step (oM 34 3) ( .step (oX 35 34) ( .step (oF 36 2 1 35) ( .step (oL 37 36) ( .step (oM 38 5) ( .step (oN 39 (.xop (.mlook (some .i64) false (.int .i64 0)) [(.t 37),(.t 38)])) ( .step (oN 40 (.idx 1 (.t 33) (.c (.int .i64 0)))) ( .alt (oS 1 40 39) ( .done) ( .stop))))))))))))))))) [4,5,26,27,28,29,30,31,32,33,34,35,36,37,38,39,40]))))
def zeD:ACode:=.seq (.region [ (oM 41 3),(oM 2 41)] [3,20,41]) (.ret)
def zep:ACode:=.seq (.region [ (oM 10 3),(oA 11 5 1),(oN 12 (.call zce [(.t 10),(.t 11)]))] [1,10,11,12]) (.seq (.region [ (oM 13 3),(oN 14 (.build [.int .i64 0,.int .i64 0,.nilsl] [(0,1,(.c (.int .i64 2)))])),(oN 15 (.call zau [(.t 13),(.t 14)]))] [13,14,15]) (.seq (.seq (.region [ (oM 16 3),(oX 17 16),(oF 18 3 1 17),(oL 19 18),(oN 20 (.xop .mrange [(.t 19)]))] [16,17,18,19]) (.block 0 (.loop zew))) (zeD)))
def zgU:ACode:=.seq (.region [ Yab,(oN 2 (.mov (.c (.nilp))))] [0,2]) (.seq (.region [ (oN 6 (.xop .mkmap [])),(oN 7 (.xop .mkmap [])),(oN 8 (.build [.nilsl,.nilsl,.nilmp,.nilmp] [(2,1,(.t 6)),(3,1,(.t 7))])),(oN 9 (.box (.t 8))),(oM 3 9)] [6,7,8,9]) (.mark 1 (zep)))
def zgO:List ARet:=[.tmp 2]
theorem zlA:z8 Tryz.prog zd3 (qRo [1])=some (zgU.strip,zgO,42):=by kernel_rfl
def zh0:ACode:=.seq (.region [ (oN 3 (.rbox (.t 0))),(oN 4 (.rbox (.t 1))),(oN 5 (.box (.t 2))),(oN 6 (.mov (.c (.nilfn))))] [0,1,2,6]) (.seq (.region [ (oN 7 (.mkfn (.func zbU) [(.t 4),(.t 3),(.t 5)])),(oM 6 7)] [3,4,5,7]) (.ret))
def zhU:List ARet:=[.tmp 6]
theorem zmF:z8 Tryz.prog zfx (qRo [3,4])=some (zh0.strip,zhU,8):=by kernel_rfl
def zeH:ACode:=.block 1 (.seq (.seq (.region [ (oM 14 6),(oL 15 2),(oX 16 15),(oF 17 0 1 16),(oL 18 17),(oE 19 18),(oB 20 .gtr 14 19)] [14,15,16,17,18,19]) (.cond (.t 20) (.seq (.region [ (oL 21 3),(oN 22 (.callv (.t 21) []))] [0,2,3,5,6,7,20,21,22]) (.ret)) (.skip))) (.seq (.region [ (oM 23 6),(oC 24 .add 23 1),(oM 6 24)] [20,23,24]) (.seq (.region [ (oL 25 2),(oX 26 25),(oF 27 0 1 26),(oL 28 27),(oM 29 7),(oI 30 3 28 29),(oA 31 3 30),(oN 8 (.alloc [.int .i64 0,.int .i64 0,.nilsl])),(oS 3 8 31)] [25,26,27,28,29,30,31]) (.seq (.region [ (oF 32 0 1 8),(oL 33 32)] [32]) (.block 2 (.seq (.region [ (oC 35 .eql 33 2),(oM 34 35)] [35]) (.cond (.t 34) (.ret) (.seq (.region [ (oC 37 .eql 33 0),(oM 36 37)] [34,37]) (.cond (.t 36) (.seq (.seq (.region [ (oM 38 0),(oF 39 1 1 8),(oL 40 39),(oN 41 (.callv (.t 38) [(.t 40)])),(oN 42 (.un .not (.t 41)))] [6,8,33,36,38,39,40,41]) (.cond (.t 42) (.ret) (.skip))) (.seq (.region [ (oK 6 0)] [42]) (.region [ (oM 43 7),(oC 44 .add 43 1),(oM 7 44)] [43,44]))) (.seq (.region [ (oC 46 .eql 33 1),(oM 45 46)] [33,36,46]) (.cond (.t 45) (.seq (.seq (.region [ (oF 47 2 1 8),(oL 48 47),(oE 49 48),(oC 50 .eql 49 1),(oM 51 50),(oG 52 51 true (.fldaddr 1 1 (.t 8))),(oG 53 51 true (.load false 1 (.t 52))),(oG 54 51 true (.bin .neq (.t 53) (.c (.int .i64 (-1))))),(oN 55 (.pick (.t 51) (.t 54) (.c (.bool false))))] [7,45,47,48,49,50,51,52,53,54]) (.cond (.t 55) (.seq (.region [ (oF 56 2 1 8),(oL 57 56),(oN 58 (.idx 1 (.t 57) (.c (.int .i64 0)))),(oL 59 58),(oM 7 59)] [8,55,56,57,58,59]) (.exit 1)) (.skip))) (.seq (.region [ (oM 61 5),(oF 62 2 1 8),(oL 63 62),(oE 64 63),(oN 65 (.call zb4 [(.t 61),(.t 64)])),(oM 60 65),(oT 66 0 60),(oT 67 1 60),(oM 9 66),(oM 10 67)] [7,55,60,61,62,63,64,65,66,67]) (.seq (.seq (.region [ (oM 68 10)] [10]) (.cond (.t 68) (.region [ (oK 6 0)] [68]) (.skip))) (.region [ (oF 69 2 1 8),(oL 70 69),(oM 71 9),(oI 72 1 70 71),(oL 73 72),(oM 7 73)] [8,9,68,69,70,71,72,73])))) (.skip))))))))))))
def zgS:ACode:=.seq (.region [ (oL 11 1),(oN 12 (.build [.nilsl,.int .i64 0] [(0,1,(.t 11))])),(oN 13 (.box (.t 12))),(oM 5 13)] [1,11,12,13]) (.seq (.region [ (oK 6 0)] []) (.seq (.region [ (oK 7 0)] []) (.block 0 (.loop zeH))))
def zlr:List ARet:=[]
theorem zlD:z8 Tryz.prog zbU (qRo [])=some (zgS.strip,zlr,74):=by kernel_rfl
def zmj:ACode:=.seq (.region [ (oN 4 (.rbox (.t 0))),(oN 5 (.rbox (.t 1))),(oN 8 (.mknil 1)),(oK 9 0)] [0,1,8,9]) (.seq (.seq (.region [ (oA 13 5 4),(oA 14 2 5),(oN 15 (.call zeW [(.t 13),(.t 14)])),(oM 10 15)] [5,13,14,15]) (.seq (.region [ (oM 16 10),(oC 17 .neq 16 0)] [16]) (.cond (.t 17) (.seq (.region [ (oM 18 10),(oN 8 (.mknil 1)),(oM 9 18)] [2,3,4,10,17,18]) (.ret)) (.skip)))) (.seq (.seq (.region [ (oM 19 3),(oC 20 .gtr 19 65536)] [8,9,10,17,19]) (.cond (.t 20) (.seq (.region [ (oN 8 (.mknil 1)),(oK 9 6)] [2,3,4,20]) (.ret)) (.skip))) (.seq (.region [ (oN 11 (.alloc [.int .i64 0])),⟨none,.store 1 (.t 11) (.c (.int .i64 0)),none⟩] [8,9,20]) (.seq (.region [ (oA 21 5 4),(oN 22 (.call zd3 [(.t 21)])),(oM 23 2),(oN 24 (.mkfn (.func zct) [(.t 11)])),(oN 25 (.call zfx [(.t 22),(.t 23),(.t 24)])),(oM 26 3),(oN 27 (.call zc5 [(.t 25),(.t 26)])),(oM 12 27)] [2,3,4,21,22,23,24,25,26,27]) (.seq (.seq (.region [ (oL 28 11),(oC 29 .neq 28 0)] [28]) (.cond (.t 29) (.seq (.draw ( .alt (oL 30 11) ( .alt (oN 8 (.mknil 1)) ( .step (oM 9 30) ( .done)) ( .stop)) ( .alt (oN 8 (.mknil 1)) ( .step (oL 30 11) ( .step (oM 9 30) ( .done))) ( .stop))) [11,12,29,30]) (.ret)) (.skip))) (.seq (.region [ (oM 31 12),(oM 8 31),(oK 9 0)] [11,12,29,31]) (.ret)))))))
def zdS:List ARet:=[.tmp 8,.tmp 9]
theorem zq7:z8 Tryz.prog zfl (qRo [4,5])=some (zmj.strip,zdS,32):=by kernel_rfl
def zjX:ACode:=.region [ ⟨none,.store 1 (.t 0) (.c (.int .i64 15)),none⟩] [0]
def zjV:List ARet:=[]
theorem zoO:z8 Tryz.prog zct (qRo [])=some (zjX.strip,zjV,1):=by kernel_rfl
def hd2 (gs n:Nat) (a1 a2 a3:AV) (stc:List (List AV)) (R:AH):AH:=(0,.row 4 [[.own 1 0 gs 0 n,a1,a2,a3]] 0)::(1,.row 3 stc gs)::R
structure RestOk (N:Nat) (R:AH):Prop where
 two:2≤N
 num:∀r o,R.look r=some o→2≤r∧r < N
theorem RestOk.none {N:Nat} {R:AH} (h:RestOk N R) {x:Nat} (hx:N≤x):R.look x=none:=by
 cases hl:R.look x with
 | none=>rfl
 | some o=>have:=(h.num _ _ hl).2;omega
theorem zT {T:AH} {N:Nat} {x:AObj}:(T.put N x).look N=some x:=by rw[AH.look_put,if_pos rfl]
theorem zu {a:Nat × AObj} {A B:AH} (h:∀r o,A.look r=some o→B.look r=some o):∀r o,AH.look (a::A) r=some o→AH.look (a::B) r=some o:=by
 intro r o;obtain⟨j,x⟩:=a;simp only[AH.look];cases Nat.beq j r
 · exact h r o
 · exact id
theorem zgH {H:AH} {nx gs n:Nat} {a1 a2 a3:AV} {stc:List (List AV)} (h0:H.get 0 0=some (.row 4 [[.own 1 0 gs 0 n,a1,a2,a3]] 0)) (h1:H.get 1 0=some (.row 3 stc gs)) (hn:n≤stc.length) (hb:n≤1000000):zdh Tryz.prog zap [.ptr 0 0 0 0 0] H nx (.int .i64 n):=by
 have hB:=hBig
 have hp:zr Tryz.prog zap [.iptr 4 fun j=>[AV.sl 3 n fun _ _=>.undef,.undef,.undef,.undef].getD j .undef] (·=.int .i64 n):=by
  refine fn_x zmc rfl ?_;unfold zhf
  (repeat first|simp(disch:=try exact dis1) only[evD,Nat.reduceBEq,Nat.reduceAdd,Nat.reduceLeDiff,lenR,zhk]|with_reducible first|intro _|refine aJ ?_)
  exact⟨_,.int _ _ _,rfl⟩
 refine zV (D:=allR) hp (.cons (.frzp _ 0 0 0 0 0 4 4 _ _ trivial h0 (by simp) (by simp) fun j hj=>?_) .nil) (.inl rfl)
 match j with
 | 0=>exact .frz _ 1 0 gs 0 n 3 stc _ trivial h1 (by omega) (by omega) (fun i j _ _=>.undef _ _)
 | 1=>exact .undef _ _
 | 2=>exact .undef _ _
 | 3=>exact .undef _ _
 | j+4=>omega
theorem zjr (gs n:Nat) (a1 a2 a3:AV) (stc:List (List AV)) (R:AH) (N:Nat) (k b:Int) (v:AV) (hn:n=stc.length) (hR:RestOk N R) (hl:n≤1000000) (hv:v.solid=true) :
  zak Tryz.prog zau [.ptr 0 0 0 0 0,.agg [.int .i64 k,.int .i64 b,v]] (hd2 gs n a1 a2 a3 stc R) N
  (fun x H nx=>N≤nx∧x=.int .i64 n∧H=hd2 (gs+1) (n+1) a1 a2 a3 (stc++[[.int .i64 k,.int .i64 b,v]]) R):=by
 subst hn;refine zan (fn_x zmZ rfl ?_);unfold zh9 hd2;have hB:=hBig;have h2:=hR.two;have n0:(0 == N)=false:=beq_false_of_ne (by omega);have n1:(1 == N)=false:=beq_false_of_ne (by omega);have m0:(0 == N+1)=false:=beq_false_of_ne (by omega);have m1:(1 == N+1)=false:=beq_false_of_ne (by omega);have tN:R.look N=none:=hR.none (Wa _)
 have tN1:∀o,(R.put N o).look (N+1)=none:=fun o=>by rw[AH.look_put,if_neg (by omega)];exact hR.none (by omega)
 have tN2:∀o o',((R.put N o).put (N+1) o').look N=some o:=fun o o'=>by rw[AH.look_put,if_neg (by omega),zT]
 have e1:(stc++[[AV.int .i64 k,.int .i64 b,v]]).length=stc.length+1:=by simp
 have ktr:stc.take stc.length=stc:=Wx
 (repeat first|simp(disch:=try exact dis1) only[evD,Nat.reduceBEq,Nat.reduceAdd,Nat.reduceLeDiff,hv,n0,n1,m0,m1,tN,tN1,tN2,zK,zT,ktr,zhQ]|with_reducible first|intro _|refine aJ ?_)
 have fin:zsd N (fun x H nx=>N≤nx∧x=.int .i64 stc.length∧H=(0,.row 4 [[.own 1 0 (gs+1) 0 (stc.length+1),a1,a2,a3]] 0)::(1,.row 3 (stc++[[.int .i64 k,.int .i64 b,v]]) (gs+1))::R)
   (.int .i64 (((stc.length+1:Nat):Int) - 1)) ((0,.row 4 [[.own 1 0 (gs+1) 0 (stc.length+1),a1,a2,a3]] 0)::(1,.row 3 (stc++[[.int .i64 k,.int .i64 b,v]]) (gs+1))::(R.put N (.row 3 [[.int .i64 k,.int .i64 b,v]] 0)).put (N+1) (.row 3 [[.int .i64 k,.int .i64 b,v]] 0)) (N+1+1):=by
  refine⟨.int .i64 stc.length,_,N+1+1,Ent.forget (by omega) (Wa _) ?_ (fun i=>.inr ?_),by omega,rfl,rfl⟩
  · exact zu (zu (fun x o h=>by
    have:=hR.num x o h;rw[AH.look_put,if_neg (by omega),AH.look_put,if_neg (by omega)]
    exact h))
  ·
   have:(((stc.length+1:Nat):Int) - 1)=(stc.length:Int):=by omega
   rw[this]
 refine⟨⟨by omega,fun _=>fin⟩,⟨by omega,fun _=>fin⟩,by omega,fun _=>fin⟩
structure PSt where
 kind:Int
 block:Int
 to:Option (List Int)
structure PC where
 st:List PSt
 lp:List (Int × List Int)
 lab:List (Int × Int)
 got:List (Int × Int)
structure Gn where
 gs:Nat
 gl:Nat
 s2:List (List AV)
 gt:Nat→Nat
 tl:Nat→List Int
 gx:Nat→Nat
 xl:Nat→List (Int × AV)
 gb:Nat→Nat
 bl:Nat→List Int
def toV (gt:Nat→Nat) (k:Nat):Option (List Int)→AV
 | none=>.nilsl
 | some l=>.own 5 (k+1) (gt k) 0 l.length
def cS (gt:Nat→Nat) (k:Nat) (s:PSt):List AV:=[.int .i64 s.kind,.int .i64 s.block,toV gt k s.to]
def stC (gt:Nat→Nat) (l:List PSt):List (List AV):=l.mapIdx (cS gt)
def cX (p:Int × AV):List AV:=[.int .i64 p.1,p.2]
def lpC (gx:Nat→Nat) (n:Nat):List (List AV):=(List.range n).map fun d=>[.ptr 6 (d+1) (gx d) 0 0]
def cMp (i:Nat) (e:Int × Int):List AV:=[.int .i64 e.1,.int .i64 e.2,.int .i64 i]
def mpC (l:List (Int × Int)):List (List AV):=[.int .i64 l.length,.undef,.undef]::l.mapIdx cMp
def cH (M:Nat) (p:PC) (γ:Gn) (T:AH):AH :=
 (0,.row 4 [[.own 1 0 γ.gs 0 p.st.length,.own 2 0 γ.gl 0 p.lp.length,.mp 3 0,.mp 4 0]] 0)::(1,.row 3 (stC γ.gt p.st) γ.gs)::(2,.row 1 (lpC γ.gx p.lp.length++γ.s2) γ.gl)::(3,.row 3 (mpC p.lab) 0)::(4,.row 3 (mpC p.got) 0) ::
  (5,.fam 1 (fi cI M γ.tl γ.gt))::(6,.fam 2 (fi cX M γ.xl γ.gx))::(7,.fam 1 (fi cI M γ.bl γ.gb))::T
structure OkC (p:PC) (γ:Gn):Prop where
 to:∀k (h:k < p.st.length) l,p.st[k].to=some l→γ.tl k=l
 lp:∀d (h:d < p.lp.length),γ.xl d=[(p.lp[d].1,if p.lp[d].2=[] then .nilsl else .own 7 (d+1) (γ.gb d) 0 p.lp[d].2.length)]∧(p.lp[d].2≠[]→γ.bl d=p.lp[d].2)
 s2:zmw 8 γ.s2
 xl:∀d,∀x∈γ.xl d,x.2.lt0 8=true
structure TailOk (N:Nat) (T:AH):Prop where
 eight:8≤N
 num:∀r o,T.look r=some o→8≤r∧r < N
 low:zjz N T
theorem zmA {n r sz g:Nat} {els:List (List AV)} (hr:r < n) (he:zmw n els):∀ {T:AH},zjz n T→zjz n (T.put r (.row sz els g))
 | [],_=>⟨⟨hr,he⟩,trivial⟩
 |
  (j,.row s e g0)::t,h=>by
  simp only[AH.put];cases Nat.beq j r
  · exact⟨h.1,zmA hr he h.2⟩
  · exact⟨⟨hr,he⟩,h.2⟩
 |
  (j,.fam s ins)::t,h=>by
  simp only[AH.put];cases Nat.beq j r
  · exact⟨h.1,zmA hr he h.2⟩
  · exact⟨⟨hr,he⟩,h.2⟩
theorem zj9 {n m:Nat} (h:n≤m) {els:List (List AV)} (he:zmw n els):zmw m els:=fun c hc=>by
 have:=he c hc;rw[List.all_eq_true] at this ⊢;intro a ha;have h1:=this a ha
 cases a<;>simp only[AV.lt0,Nat.blt_eq] at h1 ⊢<;>first|rfl|omega|cases h1
theorem zil {n m:Nat} (h:n≤m):∀ {T:AH},zjz n T→zjz m T
 | [],_=>trivial
 | (_,.row ..)::_,ht=>⟨⟨WX ht.1.1 h,zj9 h ht.1.2⟩,zil h ht.2⟩
 | (_,.fam ..)::_,ht=>⟨⟨WX ht.1.1 h,fun p hp=>zj9 h (ht.1.2 p hp)⟩,zil h ht.2⟩
theorem TailOk.none {N:Nat} {R:AH} (h:TailOk N R) {x:Nat} (hx:N≤x):R.look x=none:=by
 cases hl:R.look x with
 | none=>rfl
 | some o=>have:=(h.num _ _ hl).2;omega
theorem TailOk.put {N:Nat} {R:AH} (h:TailOk N R) (sz:Nat) (els:List (List AV)) (he:zmw (N+1) els) (g:Nat:=0):TailOk (N+1) (R.put N (.row sz els g)):=by
 refine⟨by have:=h.eight;omega,fun r o' hr=>?_,zmA (by omega) he (zil (by omega) h.low)⟩;rw[AH.look_put] at hr;split at hr
 · rename_i e;subst e;exact⟨h.eight,by omega⟩
 · have:=h.num _ _ hr;omega
theorem TailOk.up {N N':Nat} {R:AH} (h:TailOk N R) (hN:N≤N'):TailOk N' R:=⟨Wn h.eight hN,fun r o hr=>by have:=h.num r o hr;omega,zil hN h.low⟩
theorem zcx {gt:Nat→Nat} {l:List PSt}:(stC gt l).length=l.length:=by simp[stC]
theorem zrH {gt:Nat→Nat} {l:List PSt} {s:PSt}:stC gt (l++[s])=stC gt l++[cS gt l.length s]:=by simp[stC,WY]
theorem zrk {gt:Nat→Nat} {l:List PSt} {k:Nat} (h:k < l.length):(stC gt l).getD k []=cS gt k l[k]:=by simp[stC,Wp,h]
theorem stC_gt {gt gt':Nat→Nat} {l:List PSt} (h:∀k,k < l.length→gt' k=gt k):stC gt' l=stC gt l:=by
 apply Wq;intro i;simp only[stC,Wr]
 cases hi:l[i]? with
 | none=>rfl
 |
  some s =>
  have:=(Ws.1 hi).1;simp only[We,cS,toV]
  cases s.to with
  | none=>rfl
  | some l=>simp only[h i this]
theorem zvr {gt:Nat→Nat} {l:List PSt} {v:Nat}:stC (updF gt l.length v) l=stC gt l:=stC_gt fun k hk=>zdD (by omega)
def addP (p:PC) (s:PSt):PC:={ p with st:=p.st++[s] }
def zaM (p:PC) (v:Int):PC:=addP p ⟨1,0,some [v]⟩
theorem zjQ {M:Nat} {p:PC} {γ:Gn} {T:AH} {x:Nat} (hx:8≤x):(cH M p γ T).look x=T.look x:=by unfold cH;simp only[AH.look,zQ (show 0≠x by omega),zQ (show 1≠x by omega),zQ (show 2≠x by omega),zQ (show 3≠x by omega),zQ (show 4≠x by omega),zQ (show 5≠x by omega),zQ (show 6≠x by omega),zQ (show 7≠x by omega),cond_false]
def znA (M:Nat) (p:PC) (γ:Gn) (T:AH):AH:=(2,.row 1 (lpC γ.gx p.lp.length++γ.s2) γ.gl)::(3,.row 3 (mpC p.lab) 0)::(4,.row 3 (mpC p.got) 0) ::
  (5,.fam 1 (fi cI M γ.tl γ.gt))::(6,.fam 2 (fi cX M γ.xl γ.gx))::(7,.fam 1 (fi cI M γ.bl γ.gb))::T
theorem zxN {M:Nat} {p:PC} {γ:Gn} {T:AH} {N:Nat} (hT:TailOk N T):RestOk N (znA M p γ T):=by
 have h8:=hT.eight;refine⟨by omega,fun r o h=>?_⟩
 match r with
 | 0=>unfold znA at h;simp only[AH.look,zQ (show 2≠0 by omega),zQ (show 3≠0 by omega),zQ (show 4≠0 by omega),zQ (show 5≠0 by omega),zQ (show 6≠0 by omega),zQ (show 7≠0 by omega),cond_false] at h;have:=hT.num _ _ h;omega
 | 1=>unfold znA at h;simp only[AH.look,zQ (show 2≠1 by omega),zQ (show 3≠1 by omega),zQ (show 4≠1 by omega),zQ (show 5≠1 by omega),zQ (show 6≠1 by omega),zQ (show 7≠1 by omega),cond_false] at h;have:=hT.num _ _ h;omega
 | 2=>omega
 | 3=>omega
 | 4=>omega
 | 5=>omega
 | 6=>omega
 | 7=>omega
 |
  r+8 =>
  unfold znA at h;simp only[AH.look,zQ (show 2≠r+8 by omega),zQ (show 3≠r+8 by omega),zQ (show 4≠r+8 by omega),zQ (show 5≠r+8 by omega),zQ (show 6≠r+8 by omega),zQ (show 7≠r+8 by omega),cond_false] at h;have:=hT.num _ _ h;omega
def addG (γ:Gn):Gn:={ γ with gs:=γ.gs+1 }
theorem zc8 (M:Nat) (p:PC) (γ:Gn) (T:AH) (N:Nat) (k b:Int) (hok:OkC p γ) (hT:TailOk N T) (hl:p.st.length≤1000000) :
  zak Tryz.prog zau [.ptr 0 0 0 0 0,.agg [.int .i64 k,.int .i64 b,.nilsl]] (cH M p γ T) N
  (fun x H nx=>N≤nx∧x=.int .i64 p.st.length∧OkC (addP p ⟨k,b,none⟩) (addG γ)∧H=cH M (addP p ⟨k,b,none⟩) (addG γ) T):=by
 refine(zjr γ.gs p.st.length (.own 2 0 γ.gl 0 p.lp.length) (.mp 3 0) (.mp 4 0) (stC γ.gt p.st) (znA M p γ T) N k b .nilsl zcx.symm (zxN hT) hl rfl).mono fun x H nx h=>⟨h.1,h.2.1,⟨fun k' h' l e=>?_,hok.lp,hok.s2,hok.xl⟩,?_⟩
 ·
  simp only[addP] at h' e ⊢
  by_cases hk:k' < p.st.length
  · rw[Wy hk] at e;exact hok.to k' hk l e
  · rw[WZ (by omega)] at e;simp at e
 · rw[h.2.2];unfold hd2 cH znA addP addG;simp only[zrH,Wf,Wg,cS,toV]
def zhR (γ:Gn) (k:Nat) (l:List Int):Gn:={ γ with gs:=γ.gs+1,gt:=updF γ.gt k (γ.gt k+1),tl:=updF γ.tl k l }
theorem OkC.step {p:PC} {γ:Gn} (hok:OkC p γ) (k b:Int) (l:List Int):OkC (addP p ⟨k,b,some l⟩) (zhR γ p.st.length l):=by
 refine⟨fun k' h' l' e=>?_,hok.lp,hok.s2,hok.xl⟩;simp only[addP,zhR] at h' e ⊢
 by_cases hk:k' < p.st.length
 · rw[Wy hk] at e;rw[zdD (by omega)];exact hok.to k' hk l' e
 ·
  have hk':k'=p.st.length:=by simp at h';omega
  subst hk';rw[WZ (by omega)] at e;simp only[Nat.sub_self,Wz,WE] at e;rw[zbo,e]
theorem zve {B nx M:Nat} {K K2:Kn} {p:PC} {γ:Gn} {T:AH} {N:Nat} {k b:Int} {l:List Int} (hB:B≤nx) (hT:TailOk N T) (hl:p.st.length < M) (hK:zqg (some N) 5 (p.st.length+1) (γ.gt p.st.length+1) K2 K) :
  Ent B K (hd2 (γ.gs+1) (p.st.length+1) (.own 2 0 γ.gl 0 p.lp.length) (.mp 3 0) (.mp 4 0) (stC γ.gt p.st++[[.int .i64 k,.int .i64 b,.own N 0 0 0 l.length]]) (znA M p γ (T.put N (.row 1 (l.map cI) 0)))) nx K2 (cH M (addP p ⟨k,b,some l⟩) (zhR γ p.st.length l) T) nx:=by
 have h8:=hT.eight;refine Ent.adoptF (c:=cI) (F:=5) (k:=p.st.length) (m:=M) (sz:=1) (ll:=γ.tl) (gs:=γ.gt) (l:=l) (some N) hB hl rfl ?_ (by simp) ?_ hK
 · rintro x ⟨rfl⟩;refine⟨by omega,?_⟩;unfold hd2 znA;simp only[AH.look,zQ (show 0≠N by omega),zQ (show 1≠N by omega),zQ (show 2≠N by omega),zQ (show 3≠N by omega),zQ (show 4≠N by omega),zQ (show 5≠N by omega),zQ (show 6≠N by omega),zQ (show 7≠N by omega),cond_false];exact zT
 ·
  intro x o2 h
  match x with
  | 0=>cases h;exact⟨fun m e=>by cases e;omega,.inr ⟨by omega,_,rfl,by simp only[addP,zhR,Wf,Wg];exact .same _⟩⟩
  |
   1 =>
   cases h;refine⟨fun m e=>by cases e;omega,.inr ⟨by omega,_,rfl,?_⟩⟩;simp only[addP,zhR,zrH,zvr];refine .row _ _ _ _ (RowA.app (RowA.cons ?_ (RowA.refl _)) _);simp only[cS,toV,zbo];exact⟨.same _,.same _,.own _ _ _ rfl,trivial⟩
  | 2=>cases h;exact⟨fun m e=>by cases e;omega,.inr ⟨by omega,_,rfl,.same _⟩⟩
  | 3=>cases h;exact⟨fun m e=>by cases e;omega,.inr ⟨by omega,_,rfl,.same _⟩⟩
  | 4=>cases h;exact⟨fun m e=>by cases e;omega,.inr ⟨by omega,_,rfl,.same _⟩⟩
  | 5=>cases h;exact⟨fun m e=>by cases e;omega,.inl ⟨rfl,rfl⟩⟩
  | 6=>cases h;exact⟨fun m e=>by cases e;omega,.inr ⟨by omega,_,rfl,.same _⟩⟩
  | 7=>cases h;exact⟨fun m e=>by cases e;omega,.inr ⟨by omega,_,rfl,.same _⟩⟩
  |
   x+8 =>
   rw[zjQ (by omega)] at h;have hx:=hT.num _ _ h;refine⟨fun m e=>by cases e;omega,.inr ⟨by omega,o2,?_,.same _⟩⟩;unfold hd2 znA;simp only[AH.look,zQ (show 0≠x+8 by omega),zQ (show 1≠x+8 by omega),zQ (show 2≠x+8 by omega),zQ (show 3≠x+8 by omega),zQ (show 4≠x+8 by omega),zQ (show 5≠x+8 by omega),zQ (show 6≠x+8 by omega),zQ (show 7≠x+8 by omega),cond_false];rw[AH.look_put,if_neg (by omega)];exact h
theorem zpB {T:AH} {r:Nat} {a b:AObj}:(T.put r a).put r b=T.put r b:=by
 induction T with
 | nil=>simp[AH.put]
 |
  cons p t ih =>
  obtain⟨j,u⟩:=p;simp only[AH.put]
  cases hb:Nat.beq j r with
  | true=>simp[AH.put]
  | false=>simp only[cond_false,AH.put,hb,ih]
theorem ne8 {x:Nat} (h:8≤x):(0 == x)=false∧(1 == x)=false∧(2 == x)=false∧(3 == x)=false∧(4 == x)=false∧(5 == x)=false∧(6 == x)=false∧(7 == x)=false :=
 ⟨beq_false_of_ne (by omega),beq_false_of_ne (by omega),beq_false_of_ne (by omega),beq_false_of_ne (by omega),beq_false_of_ne (by omega),beq_false_of_ne (by omega),beq_false_of_ne (by omega),beq_false_of_ne (by omega)⟩
theorem zc4 (M:Nat) (p:PC) (γ:Gn) (T:AH) (N:Nat) (v:Int) (hok:OkC p γ) (hT:TailOk N T) (hl:p.st.length < M) (hM:M≤1000000) :
  zak Tryz.prog zz [.ptr 0 0 0 0 0,.int .i64 v] (cH M p γ T) N
  (fun x H nx=>N≤nx∧x=.int .i64 p.st.length∧OkC (zaM p v) (zhR γ p.st.length [v])∧H=cH M (zaM p v) (zhR γ p.st.length [v]) T):=by
 refine zan (fn_x zmb rfl ?_);unfold zhl;simp only[cH];have hB:=hBig;have h8:=hT.eight;obtain⟨n0,n1,n2,n3,n4,n5,n6,n7⟩:=ne8 hT.eight;have tN:T.look N=none:=hT.none (Wa _)
 (repeat first|simp(disch:=try exact dis1) only[evD,Nat.reduceBEq,Nat.reduceAdd,Nat.reduceLeDiff,n0,n1,n2,n3,n4,n5,n6,n7,tN,zK,zT]|with_reducible first|intro _|refine aJ ?_)
 refine(zjr γ.gs p.st.length (.own 2 0 γ.gl 0 p.lp.length) (.mp 3 0) (.mp 4 0) (stC γ.gt p.st) (znA M p γ (T.put N (.row 1 [[.int .i64 v]] 0))) (N+1) 1 0 (.own N 0 0 0 1) zcx.symm (zxN (hT.put 1 [[.int .i64 v]] (zhS (by simp[zA,AV.flat0])))) (by omega) rfl).mono ?_;rintro x H nx ⟨h1,rfl,rfl⟩
 (repeat first|simp(disch:=try exact dis1) only[evD,Nat.reduceBEq,Nat.reduceAdd,Nat.reduceLeDiff,zhm]|with_reducible first|intro _|refine aJ ?_)
 exact⟨.int .i64 p.st.length,_,nx,zve (l:=[v]) (by omega) hT hl ⟨.same _,trivial⟩,by omega,rfl,hok.step 1 0 [v],rfl⟩
def zeV (p:PC) (b:Int):PC:=addP (addP p ⟨0,b,none⟩) ⟨1,0,some [((p.st.length+2:Nat):Int),0]⟩
theorem zo8 (H:AH) (nx:Nat):zak Tryz.prog zbM [] H nx (fun v H' nx'=>v=.int .i64 (-1)∧H'=H∧nx'=nx):=by
 refine fn_x zkh rfl ?_;unfold zfH;have hB:=hBig
 (repeat first|simp(disch:=try exact dis1) only[evD,Nat.reduceBEq,Nat.reduceAdd,Nat.reduceLeDiff,zfD]|with_reducible first|intro _|refine aJ ?_)
theorem zov (M:Nat) (p:PC) (γ:Gn) (T:AH) (N rc:Nat) (b:Int) (c:Nat→AV) (hok:OkC p γ) (hT:TailOk N T) (hl:p.st.length+2≤M) (hM:M≤1000000) (hrc:T.look rc=some (.row 1 [[.ptr 0 0 0 0 0]] 0)) (hc:c 1=.int .i64 b) :
  zak Tryz.prog zbI [.ptr rc 0 0 0 0,.iptr 5 c] (cH M p γ T) N
  (fun x H nx=>N≤nx∧x=.int .i64 ((p.st.length+1:Nat):Int)∧∃γ',OkC (zeV p b) γ'∧γ'.gx=γ.gx∧H=cH M (zeV p b) γ' T):=by
 refine zan (fn_x zkg rfl ?_);unfold zfE;simp only[cH];have hB:=hBig;have h8:=hT.eight;obtain⟨r0,r1,r2,r3,r4,r5,r6,r7⟩:=ne8 (hT.num _ _ hrc).1;have tN:T.look N=none:=hT.none (Wa _)
 (repeat first|simp(disch:=try exact dis1) only[evD,Nat.reduceBEq,Nat.reduceAdd,Nat.reduceLeDiff,r0,r1,r2,r3,r4,r5,r6,r7,hrc,hc]|with_reducible first|intro _|refine aJ ?_)
 refine(zc8 M p γ T N 0 b hok hT (by omega)).mono ?_;rintro x H N1 ⟨hN1,rfl,hok1,rfl⟩;have hgx:(addG γ).gx=γ.gx:=rfl;generalize addG γ=γ1 at *;have hT1:=hT.up hN1;obtain⟨n0,n1,n2,n3,n4,n5,n6,n7⟩:=ne8 hT1.eight;have tN1:T.look N1=none:=hT1.none (Wa _);have hrl:=(hT.num _ _ hrc).2
 have hrc1:∀o,(T.put N1 o).look rc=some (.row 1 [[.ptr 0 0 0 0 0]] 0):=fun o=>by rw[AH.look_put,if_neg (by omega)];exact hrc
 unfold zeV
 have hlen:(addP p ⟨0,b,none⟩).st.length=p.st.length+1:=by simp[addP]
 generalize addP p ⟨0,b,none⟩=p1 at *
 have hl1:p1.st.length+1≤M:=by omega
 rw[show ((p.st.length+1:Nat):Int)=(p1.st.length:Int) by omega,show ((p.st.length+2:Nat):Int)=((p1.st.length+1:Nat):Int) by omega];clear hlen;simp only[cH]
 (repeat first|simp(disch:=try exact dis1) only[evD,Nat.reduceBEq,Nat.reduceAdd,Nat.reduceLeDiff,r0,r1,r2,r3,r4,r5,r6,r7,hrc,n0,n1,n2,n3,n4,n5,n6,n7,tN1,zK,zT]|with_reducible first|intro _|refine aJ ?_)
 refine(zjr γ1.gs p1.st.length (.own 2 0 γ1.gl 0 p1.lp.length) (.mp 3 0) (.mp 4 0) (stC γ1.gt p1.st) (znA M p1 γ1 (T.put N1 (.row 1 [[.int .i64 0],[.int .i64 0]] 0))) (N1+1) 1 0 (.own N1 0 0 0 2) zcx.symm (zxN (hT1.put 1 [[.int .i64 0],[.int .i64 0]] (zhS (by simp[zA,AV.flat0])))) (by omega) rfl).mono ?_;rintro x H N2 ⟨hN2,rfl,rfl⟩;simp only[hd2,znA]
 have hgk:(stC γ1.gt p1.st++[[AV.int .i64 1,.int .i64 0,.own N1 0 0 0 2]]).getD p1.st.length []=[.int .i64 1,.int .i64 0,.own N1 0 0 0 2]:=by simp[Wp,zcx]
 have e1:(stC γ1.gt p1.st++[[AV.int .i64 1,.int .i64 0,.own N1 0 0 0 2]]).length=p1.st.length+1:=by simp[zcx]
 (repeat first|simp(disch:=try exact dis1) only[evD,Nat.reduceBEq,Nat.reduceAdd,Nat.reduceLeDiff,r0,r1,r2,r3,r4,r5,r6,r7,hrc1,Wd,hgk,e1,n0,n1,n2,n3,n4,n5,n6,n7,zK,zT]|with_reducible first|intro _|refine aJ ?_)
 refine za4 (zgH (by rfl) (by rfl) (by simp[zcx]) (by omega)) ?_
 (repeat first|simp(disch:=try exact dis1) only[evD,Nat.reduceBEq,Nat.reduceAdd,Nat.reduceLeDiff,Wd,hgk,n0,n1,n2,n3,n4,n5,n6,n7,zK,zT,zpB,zf0]|with_reducible first|intro _|refine aJ ?_)
 exact⟨_,_,N2,zve (l:=[((p1.st.length+1:Nat):Int),0]) (by omega) hT1 (by omega) ⟨.same _,trivial⟩,by omega,rfl,_,hok1.step 1 0 _,hgx,rfl⟩
theorem zk5 {M:Nat} {p:PC} {γ:Gn} {T:AH} {N:Nat} (hok:OkC p γ) (hT:TailOk N T):zjz N (cH M p γ T):=by
 have h8:=hT.eight
 have b:∀ {k:Nat},k < 8→Nat.blt k N=true:=fun hk=>by rw[Nat.blt_eq];omega
 refine⟨⟨by omega,?_⟩,⟨by omega,?_⟩,⟨by omega,?_⟩,⟨by omega,?_⟩,⟨by omega,?_⟩,⟨by omega,?_⟩,⟨by omega,?_⟩,⟨by omega,?_⟩,hT.low⟩
 · intro c hc;rw[Wc.1 hc];simp only[WA,WB,AV.lt0,b (show 1 < 8 by omega),b (show 2 < 8 by omega),b (show 3 < 8 by omega),b (show 4 < 8 by omega),WN]
 ·
  intro c hc;unfold stC at hc;obtain⟨i,hi,rfl⟩:=Wt.1 hc;simp only[cS,toV]
  split<;>simp only[WA,WB,AV.lt0,b (show 5 < 8 by omega),WN]
 ·
  intro c hc
  rcases Wu.1 hc with hc|hc
  · obtain⟨d,_,rfl⟩:=Wh.1 hc;simp only[WA,WB,AV.lt0,b (show 6 < 8 by omega),WN]
  · exact zj9 h8 hok.s2 c hc
 ·
  intro c hc
  rcases WC.1 hc with rfl|hc
  · rfl
  · obtain⟨i,hi,rfl⟩:=Wt.1 hc;rfl
 ·
  intro c hc
  rcases WC.1 hc with rfl|hc
  · rfl
  · obtain⟨i,hi,rfl⟩:=Wt.1 hc;rfl
 ·
  intro p hp;obtain⟨i,_,rfl⟩:=Wh.1 hp
  exact zoJ fun _=>rfl
 · intro p hp;obtain⟨i,_,rfl⟩:=Wh.1 hp;intro c hc;obtain⟨x,hx,rfl⟩:=Wh.1 hc;have h1:zmw N [[x.2]]:=zj9 h8 (fun c hc=>by rw[Wc.1 hc,WA,WB,hok.xl i x hx];rfl);have h2:=h1 [x.2] (by simp);simp only[cX,WA,WB,Bool.and_true] at h2 ⊢;rw[h2];rfl
 ·
  intro p hp;obtain⟨i,_,rfl⟩:=Wh.1 hp
  exact zoJ fun _=>rfl
def setL (l:List (Int × Int)) (k v:Int):List (Int × Int):=match l.findIdx? (fun e=>decide (e.1=k)) with
 | some i=>l.set i (k,v)
 | none=>l++[(k,v)]
def setTo (p:PC) (k i:Nat) (v:Int):PC:={ p with st:=p.st.modify k fun s=>{ s with to:=s.to.map fun l=>l.set i v } }
def appTo (p:PC) (k:Nat) (v:Int):PC:={ p with st:=p.st.modify k fun s=>{ s with to:=s.to.map fun l=>l++[v] } }
def putAll (p:PC) (ks:List Int) (v:Int):PC:=ks.foldl (fun p k=>setTo p k.toNat 0 v) p
def topL (l:List (Int × List Int)):Int:=match l.getLast? with
 | some x=>x.1
 | none=>0
def brkL (l:List (Int × List Int)):List Int:=match l.getLast? with
 | some x=>x.2
 | none=>[]
def zkP (l:List (Int × List Int)) (k:Int):List (Int × List Int):=match l.getLast? with
 | some x=>l.dropLast++[(x.1,x.2++[k])]
 | none=>l
def zbu (p:PC) (top:Int):PC:={ p with lp:=p.lp++[(top,[])] }
def za3 (p:PC):PC:=addP p ⟨1,-1,some []⟩
def zea (q:PC) (top:Int):PC:=let q1:=zaM { q with lp:=q.lp.dropLast } top;putAll q1 (brkL q.lp) (q1.st.length:Int)
mutual
def zaR:Nd→PC→PC
 |
  .mk f _ l,p =>
  if f.kind=1 then zaO l p
  else if f.kind=2 then addP p ⟨0,f.block,none⟩
  else if f.kind=3∨f.kind=6 then
   let r:=brP p.st.length l (za3 p) []
   putAll r.1 r.2 (r.1.st.length:Int)
  else if f.kind=4 then zea (zaO l (zbu p p.st.length)) p.st.length
  else if f.kind=5 then
   let q:=zea (zaO l (zbu (zeV p f.block) p.st.length)) p.st.length
   setTo q (p.st.length+1) 1 (q.st.length:Int)
  else if f.kind=7 then { zaM p 0 with lp:=zkP p.lp p.st.length }
  else if f.kind=8 then zaM p (topL p.lp)
  else if f.kind=9 then { zaM p 0 with got:=setL p.got p.st.length f.label }
  else if f.kind=10 then { p with lab:=setL p.lab f.label p.st.length }
  else if f.kind=11∨f.kind=12 then addP p ⟨2,0,none⟩
  else p
def zaO:List Nd→PC→PC
 | [],p=>p
 | n::l,p=>zaO l (zaR n p)
def brP (at':Nat):List Nd→PC→List Int→PC × List Int
 | [],p,ends=>(p,ends)
 | n::l,p,ends=>let q:=zaR n (appTo p at' p.st.length);brP at' l (zaM q 0) (ends++[(q.st.length:Int)])
end
def zrG (l:List Nd) (p:PC):PC:=let r:=brP p.st.length l (za3 p) [];putAll r.1 r.2 (r.1.st.length:Int)
def zr3 (b:Option Int) (l:List Nd) (p:PC):PC:=match b with
 | none=>zea (zaO l (zbu p p.st.length)) p.st.length
 | some b=>let q:=zea (zaO l (zbu (zeV p b) p.st.length)) p.st.length;setTo q (p.st.length+1) 1 (q.st.length:Int)
theorem zc2 (f:NdF) (c:List Ex) (l:List Nd) (p:PC):zaR (.mk f c l) p =
  if f.kind=1 then zaO l p else if f.kind=2 then addP p ⟨0,f.block,none⟩ else if f.kind=3∨f.kind=6 then zrG l p else if f.kind=4 then zr3 none l p else if f.kind=5 then zr3 (some f.block) l p
  else if f.kind=7 then { zaM p 0 with lp:=zkP p.lp p.st.length } else if f.kind=8 then zaM p (topL p.lp) else if f.kind=9 then { zaM p 0 with got:=setL p.got p.st.length f.label }
  else if f.kind=10 then { p with lab:=setL p.lab f.label p.st.length } else if f.kind=11∨f.kind=12 then addP p ⟨2,0,none⟩ else p:=by
 rw[zaR];rfl
mutual
def zd5:Nd→Bool→Bool
 | .mk f _ l,b=>if (f.kind=7∨f.kind=8)∧b=false then true else zaY l (b||decide (f.kind=4)||decide (f.kind=5))
def zaY:List Nd→Bool→Bool
 | [],_=>false
 | e::l,b=>zd5 e b||zaY l b
end
def zkq (p:PC) (k n:Nat):Prop:=∃s l,p.st[k]? = some s∧s.to=some l∧n≤l.length
structure Keep (p q:PC):Prop where
 len:p.st.length≤q.st.length
 to:∀k n,zkq p k n→zkq q k n
theorem Keep.refl (p:PC):Keep p p:=⟨Wa _,fun _ _ h=>h⟩
theorem Keep.trans {p q r:PC} (h:Keep p q) (k:Keep q r):Keep p r:=⟨Wn h.len k.len,fun i n x=>k.to i n (h.to i n x)⟩
theorem Keep.of_st {p q:PC} (h:q.st=p.st):Keep p q:=⟨by rw[h];exact Wa _,fun k n x=>by unfold zkq at x ⊢;rw[h];exact x⟩
theorem zb3 (p:PC) (s:PSt):Keep p (addP p s):=by refine⟨by simp[addP],fun k n ⟨s',l,h1,h2,h3⟩=>⟨s',l,?_,h2,h3⟩⟩;simp only[addP];rw[W0 (Ws.1 h1).1];exact h1
theorem zj1 (p:PC) (k i:Nat) (v:Int):Keep p (setTo p k i v):=by
 refine⟨by simp[setTo],fun k' n ⟨s',l,h1,h2,h3⟩=>?_⟩;simp only[setTo,zkq,Wi]
 by_cases hk:k=k'
 · subst hk;refine⟨{ s' with to:=s'.to.map fun l=>l.set i v },l.set i v,?_,by simp[h2],by simpa using h3⟩;simp[h1]
 · exact⟨s',l,by simp[hk,h1],h2,h3⟩
theorem zj7 (p:PC) (k:Nat) (v:Int):Keep p (appTo p k v):=by
 refine⟨by simp[appTo],fun k' n ⟨s',l,h1,h2,h3⟩=>?_⟩;simp only[appTo,zkq,Wi]
 by_cases hk:k=k'
 · subst hk;refine⟨{ s' with to:=s'.to.map fun l=>l++[v] },l++[v],?_,by simp[h2],by simp;omega⟩;simp[h1]
 · exact⟨s',l,by simp[hk,h1],h2,h3⟩
theorem zeN:∀(ks:List Int) (p:PC) (v:Int),(putAll p ks v).st.length=p.st.length
 | [],p,v=>rfl
 |
  k::ks,p,v=>by
  unfold putAll;rw[List.foldl_cons];have:=zeN ks (setTo p k.toNat 0 v) v;unfold putAll at this;rw[this];simp[setTo]
theorem zjB:∀(ks:List Int) (p:PC) (v:Int),(putAll p ks v).lp=p.lp
 | [],p,v=>rfl
 |
  k::ks,p,v=>by
  unfold putAll;rw[List.foldl_cons];have:=zjB ks (setTo p k.toNat 0 v) v;unfold putAll at this;rw[this];rfl
theorem zco:∀(ks:List Int) (p:PC) (v:Int),Keep p (putAll p ks v)
 | [],p,v=>Keep.refl p
 |
  k::ks,p,v=>by
  have:=zco ks (setTo p k.toNat 0 v) v;unfold putAll at this ⊢;rw[List.foldl_cons];exact(zj1 p k.toNat 0 v).trans this
def LpOk (p:PC):Prop:=∀x∈p.lp,x.2.length≤p.st.length∧∀k∈x.2,0≤k∧zkq p k.toNat 1
theorem LpOk.keep {p q:PC} (h:LpOk p) (hk:Keep p q) (hl:q.lp=p.lp):LpOk q:=fun x hx=>by rw[hl] at hx;exact⟨Wn (h x hx).1 hk.len,fun k hk'=>⟨((h x hx).2 k hk').1,hk.to _ _ ((h x hx).2 k hk').2⟩⟩
theorem zmG (p:PC) (v:Int):zkq (zaM p v) p.st.length 1:=⟨⟨1,0,some [v]⟩,[v],by simp[zaM,addP],rfl,by simp⟩
theorem zz5 {l:List (Int × List Int)} (h:l≠[]):(topL l,brkL l)∈l:=by
 unfold topL brkL
 cases hl:l.getLast? with
 | none=>simp at hl;exact absurd hl h
 | some x=>exact W3 hl
def zfJ (a b:List (Int × List Int)):Prop:=b.length=a.length∧b.dropLast=a.dropLast∧topL b=topL a
theorem zfJ.refl (a:List (Int × List Int)):zfJ a a:=⟨rfl,rfl,rfl⟩
theorem zfJ.trans {a b c:List (Int × List Int)} (h:zfJ a b) (k:zfJ b c):zfJ a c:=⟨k.1.trans h.1,k.2.1.trans h.2.1,k.2.2.trans h.2.2⟩
theorem ziF (l:List (Int × List Int)) (k:Int):zfJ l (zkP l k):=by
 unfold zkP
 cases hl:l.getLast? with
 | none=>exact zfJ.refl _
 |
  some x =>
  have hne:l≠[]:=by rintro rfl;simp at hl
  refine⟨?_,by simp,?_⟩
  · have:=WO.2 hne;simp;omega
  · unfold topL;simp[hl]
theorem zeX:∀(ks:List Int) (p:PC) (v:Int),(putAll p ks v).lab=p.lab∧(putAll p ks v).got=p.got
 | [],p,v=>⟨rfl,rfl⟩
 |
  k::ks,p,v=>by
  unfold putAll;rw[List.foldl_cons];have:=zeX ks (setTo p k.toNat 0 v) v;unfold putAll at this;exact this
theorem zu9 (l:List (Int × Int)) (k v:Int):(setL l k v).length≤l.length+1:=by
 unfold setL
 split<;>simp
structure PostP (n:Nat) (p q:PC):Prop where
 keep:Keep p q
 len:q.st.length+q.lab.length≤p.st.length+p.lab.length+n
 got:q.got.length+p.st.length≤p.got.length+q.st.length
 lp:zfJ p.lp q.lp
 ok:LpOk p→LpOk q
theorem PostP.add (p:PC) (s:PSt):PostP 1 p (addP p s):=⟨zb3 p s,by simp only[addP,Wf,Wg];omega,by simp only[addP,Wf,Wg];omega,zfJ.refl _,fun h=>h.keep (zb3 p s) rfl⟩
theorem PostP.refl (p:PC):PostP 0 p p:=⟨Keep.refl p,by omega,by omega,zfJ.refl _,fun h=>h⟩
theorem PostP.trans {n m:Nat} {p q r:PC} (h:PostP n p q) (k:PostP m q r):PostP (n+m) p r:=⟨h.keep.trans k.keep,by have:=h.len;have:=k.len;omega,by have:=h.got;have:=k.got;omega,h.lp.trans k.lp,fun x=>k.ok (h.ok x)⟩
theorem PostP.mono {n m:Nat} {p q:PC} (h:PostP n p q) (hm:n≤m):PostP m p q:=⟨h.keep,by have:=h.len;omega,h.got,h.lp,h.ok⟩
theorem PostP.putAll (p:PC) (ks:List Int) (v:Int):PostP 0 p (putAll p ks v):=⟨zco ks p v,by rw[zeN,(zeX ks p v).1];omega,by rw[zeN,(zeX ks p v).2];omega,by rw[zjB];exact zfJ.refl _,fun h=>h.keep (zco ks p v) (zjB ks p v)⟩
theorem PostP.setTo (p:PC) (k i:Nat) (v:Int):PostP 0 p (setTo p k i v):=⟨zj1 p k i v,by simp[Go.Ab.setTo],by simp[Go.Ab.setTo],zfJ.refl _,fun h=>h.keep (zj1 p k i v) rfl⟩
theorem PostP.appTo (p:PC) (k:Nat) (v:Int):PostP 0 p (appTo p k v):=⟨zj7 p k v,by simp[Go.Ab.appTo],by simp[Go.Ab.appTo],zfJ.refl _,fun h=>h.keep (zj7 p k v) rfl⟩
theorem PostP.loop {n:Nat} {p q:PC} {top:Int} (h:PostP n (zbu p top) q):PostP (n+1) p (zea q top)∧{ q with lp:=q.lp.dropLast }.lp=p.lp∧q.lp≠[]:=by
 have hlp:q.lp.dropLast=p.lp:=by rw[h.lp.2.1];simp[zbu]
 have hne:q.lp≠[]:=by have:=h.lp.1;simp only[zbu,Wf,Wg] at this;intro e;rw[e] at this;simp at this
 have hk0:Keep p q:=⟨h.keep.len,fun k n x=>h.keep.to k n x⟩;refine⟨?_,hlp,hne⟩;unfold zea;simp only;rw[hlp];have hk1:Keep q { q with lp:=p.lp }:=Keep.of_st rfl;have h1:Keep p (zaM { q with lp:=p.lp } top):=(hk0.trans hk1).trans (zb3 _ _);refine⟨h1.trans (zco _ _ _),?_,?_,?_,fun ho=>?_⟩
 · rw[zeN,(zeX _ _ _).1];have:=h.len;simp only[zbu] at this;simp[zaM,addP];omega
 · rw[zeN,(zeX _ _ _).2];have:=h.got;simp only[zbu] at this;simp[zaM,addP];omega
 · rw[zjB];exact zfJ.refl _
 · exact ho.keep (h1.trans (zco _ _ _)) (zjB _ _ _)
theorem zrY {p:PC} (h:LpOk p) (t:Int):LpOk (zbu p t):=by
 intro x hx
 rcases Wu.1 hx with hx|hx
 · exact h x hx
 · rw[Wc.1 hx];exact⟨Wv _,fun k hk=>by cases hk⟩
mutual
theorem zcc:∀(n:Nd) (p:PC),PostP (4 * zaJ n - 1) p (zaR n p)
 |
  .mk f c l,p=>by
  have hs:zaJ (.mk f c l)=1+zaj l:=by rw[zaJ]
  rw[zaR,hs];split
  · exact(zbZ l p).mono (by omega)
  split
  · exact(PostP.add p _).mono (by omega)
  split
  · simp only;have h1:PostP 1 p (za3 p):=PostP.add p _;have h2:=zrr p.st.length l (za3 p) [];exact((h1.trans h2).trans (PostP.putAll _ _ _)).mono (by omega)
  split
  · exact(PostP.loop (zbZ l (zbu p p.st.length))).1.mono (by omega)
  split
  · simp only;have h1:PostP 1 p (addP p ⟨0,f.block,none⟩):=PostP.add p _;have h2:PostP 2 p (zeV p f.block):=h1.trans (PostP.add _ _);have h3:=(PostP.loop (zbZ l (zbu (zeV p f.block) p.st.length))).1;exact((h2.trans h3).trans (PostP.setTo _ _ _ _)).mono (by omega)
  split
  ·
   have h1:PostP 1 p (zaM p 0):=PostP.add p _;refine⟨⟨h1.keep.len,h1.keep.to⟩,by have:=h1.len;simp only at this ⊢;omega,h1.got,ziF _ _,fun h x hx=>?_⟩;have hl:LpOk (zaM p 0):=h1.ok h;simp only at hx ⊢;unfold zkP at hx
   cases hg:p.lp.getLast? with
   | none=>rw[hg] at hx;exact hl x hx
   |
    some y =>
    rw[hg] at hx
    rcases Wu.1 hx with hx|hx
    · exact hl x (List.dropLast_subset _ hx)
    ·
     rw[Wc.1 hx];have hy:=h y (W3 hg)
     have e:(zaM p 0).st.length=p.st.length+1:=by simp[zaM,addP]
     refine⟨by simp only[Wf,Wg,e];have:=hy.1;omega,fun k hk=>?_⟩
     rcases Wu.1 hk with hk|hk
     · exact⟨(hy.2 k hk).1,h1.keep.to _ _ (hy.2 k hk).2⟩
     · rw[Wc.1 hk];exact⟨by omega,by rw[Wd];exact zmG p 0⟩
  split
  · exact(PostP.add p _).mono (by omega)
  split
  · have h1:PostP 1 p (zaM p 0):=PostP.add p _;exact⟨⟨h1.keep.len,h1.keep.to⟩,by have:=h1.len;simp only at this ⊢;omega,by have:=zu9 p.got p.st.length f.label;simp only[zaM,addP,Wf,Wg] at this ⊢;omega,h1.lp,h1.ok⟩
  split
  · exact⟨Keep.of_st rfl,by have:=zu9 p.lab f.label p.st.length;simp only;omega,by simp,zfJ.refl _,fun h=>h.keep (Keep.of_st rfl) rfl⟩
  split
  · exact(PostP.add p _).mono (by omega)
  · exact(PostP.refl p).mono (by omega)
theorem zbZ:∀(l:List Nd) (p:PC),PostP (4 * zaj l) p (zaO l p)
 | [],p=>by rw[zaO];exact PostP.refl p
 |
  n::l,p=>by
  rw[zaO,zaj];exact((zcc n p).trans (zbZ l (zaR n p))).mono (by omega)
theorem zrr (at':Nat):∀(l:List Nd) (p:PC) (ends:List Int),PostP (4 * zaj l) p (brP at' l p ends).1
 | [],p,ends=>by rw[brP];exact PostP.refl p
 |
  n::l,p,ends=>by
  rw[brP,zaj];have h1:=(PostP.appTo p at' p.st.length).trans (zcc n (appTo p at' p.st.length));have h2:=h1.trans (PostP.add (zaR n (appTo p at' p.st.length)) ⟨1,0,some [0]⟩)
  have hs:1≤zaJ n:=by obtain⟨f,c,m⟩:=n;rw[zaJ];omega
  exact(h2.trans (zrr at' l (zaM (zaR n (appTo p at' p.st.length)) 0) _)).mono (by omega)
end
theorem zvE {k:Int}:∀(l:List (Int × Int)) (o i:Nat),zgX (.int .i64 k) (l.mapIdx fun j e=>cMp (j+o) e) i=some ((l.findIdx? fun e=>decide (e.1=k)).map fun j=>(i+j,.int .i64 (l.getD j (0,0)).2))
 | [],o,i=>rfl
 |
  e::l,o,i=>by
  rw[W5,List.findIdx?_cons]
  by_cases h:e.1=k
  · subst h;simp only[cMp,zgX,zuf,if_true,decide_true,We,Nat.add_zero,WP]
  ·
   have ih:=zvE (k:=k) l (o+1) (i+1)
   have e1:zgX (.int .i64 k) (cMp (0+o) e::l.mapIdx fun j e=>cMp (j+1+o) e) i=zgX (.int .i64 k) (l.mapIdx fun j e=>cMp (j+1+o) e) (i+1):=by simp only[cMp,zgX,zuf,if_true,decide_eq_false (fun x=>h (Eq.symm x))]
   rw[e1]
   have e2:(l.mapIdx fun j e=>cMp (j+1+o) e)=l.mapIdx fun j e=>cMp (j+(o+1)) e:=by
    congr 1
    funext j e
    rw[show j+1+o=j+(o+1) by omega]
   rw[e2,ih,if_neg (by simpa using h)]
   cases l.findIdx? fun e=>decide (e.1=k) with
   | none=>rfl
   |
    some j =>
    simp only[We,WQ];rw[show i+1+j=i+(j+1) by omega]
theorem ztj {k:Int} (l:List (Int × Int)):zgX (.int .i64 k) (l.mapIdx cMp) 0=some ((l.findIdx? fun e=>decide (e.1=k)).map fun j=>(j,.int .i64 (l.getD j (0,0)).2)):=by have h:=zvE (k:=k) l 0 0;simp only[WR,Nat.add_zero] at h;exact h
theorem zsI {l:List (Int × Int)} {k v:Int} {r:Nat} {H:AH} {nx:Nat} (hl:l.length≤1000000):zwh (some .i64) r 0 (.int .i64 k) (.int .i64 v) (some (.row 3 (mpC l) 0)) H nx=⟨True,True,.undef,H.set r 0 (.row 3 (mpC (setL l k v)) 0),nx⟩:=by
 unfold mpC zwh;simp only;rw[ztj];unfold setL
 cases hf:l.findIdx? fun e=>decide (e.1=k) with
 |
  none =>
  simp only[Option.map_none,msTo,zfA,true_and,ORes.mk.injEq];refine⟨by simp;omega,?_,trivial⟩
  congr 1
  simp[WY,cMp]
 |
  some j =>
  simp only[We,msTo,zfA,true_and,ORes.mk.injEq];have hj:j < l.length:=(W6.1 hf).1;refine⟨?_,trivial⟩
  congr 1
  simp only[List.length_set,AObj.row.injEq,List.cons.injEq,true_and,and_true];apply Wq;intro i;simp only[WS,Wr,W7]
  by_cases hi:j=i
  · subst hi;simp[hj,cMp,Wp]
  · simp[hi]
theorem zl0 {T:AH} {N:Nat} {x:AObj} (h:T.look N=none):∀r o,T.look r=some o→(T.put N x).look r=some o:=by
 intro r o hr;rw[AH.look_put];split
 · rename_i e;rw[e,h] at hr;cases hr
 · exact hr
theorem zzx {M:Nat} {p:PC} {γ:Gn} {T T':AH} (h:∀r o,T.look r=some o→T'.look r=some o):∀r o,(cH M p γ T).look r=some o→(cH M p γ T').look r=some o :=
 zu (zu (zu (zu (zu (zu (zu (zu h)))))))
theorem zc6 {B nx M:Nat} {p:PC} {γ:Gn} {T:AH} {N:Nat} {o:AObj} {K:Kn} {v:AV} (hB:B≤nx) (hT:TailOk N T) (hv:K.get 0=v):Ent B K (cH M p γ (T.put N o)) nx [(0,v)] (cH M p γ T) nx :=
 Ent.forget hB (Wa _) (zzx (zl0 (hT.none (Wa _)))) (fun i=>by
  cases i with
  | zero=>exact .inr hv.symm
  | succ i=>exact .inl rfl)
theorem TailOk.put1 {N x:Nat} {T:AH} (hT:TailOk N T) (h:N < x):∀o:AObj,(T.put N o).look x=Option.none:=fun o=>by rw[AH.look_put,if_neg (by omega)];exact hT.none (by omega)
theorem TailOk.put2 {N x y:Nat} {T:AH} (hT:TailOk N T) (h:N < y) (h2:y < x):∀o o':AObj,((T.put N o).put y o').look x=Option.none:=fun o o'=>by rw[AH.look_put,if_neg (by omega),AH.look_put,if_neg (by omega)];exact hT.none (by omega)
theorem zoF {β:Type} {f:Nat→β} {k:Nat}:updF f k (f k)=f:=by
 funext i
 unfold updF;split
 · rename_i h;rw[h]
 · rfl
theorem zyf {M n:Nat} {xl:Nat→List (Int × AV)} {gx:Nat→Nat} {t:Int} {x:AV}:(fi cX M xl gx).set n ([[.int .i64 t,x]],gx n)=fi cX M (updF xl n [(t,x)]) gx:=by have h:=zxp (c:=cX) (n:=M) (k:=n) (g:=gx n) (ll:=xl) (gs:=gx) (l:=[(t,x)]);rw[zoF] at h;exact h
theorem zzp {M n g:Nat} {bl:Nat→List Int} {gb:Nat→Nat} {l:List Int} {k:Int}:(fi cI M bl gb).set n (l.map cI++[[.int .i64 k]],g)=fi cI M (updF bl n (l++[k])) (updF gb n g):=by rw[←zxp,WD,WU]
theorem zwe {l:List (Int × List Int)} {k:Int} {n:Nat} (hn:l.length=n+1):zkP l k=l.set n (l[n].1,l[n].2++[k]):=by
 unfold zkP;rw[WF,show l.length - 1=n by omega,Wj (by omega)];simp only;apply Wq;intro i
 have e:l.length - 1=n:=by omega
 rw[WS,WG,W8]
 by_cases hi:n=i
 · subst hi;rw[if_neg (show ¬n < l.length - 1 by omega),if_pos rfl,if_pos (show n < l.length by omega),e];simp
 ·
  rw[if_neg hi]
  by_cases h2:i < n
  · rw[if_pos (show i < l.length - 1 by omega),List.getElem?_dropLast,if_pos (show i < l.length - 1 by omega)]
  · rw[if_neg (show ¬i < l.length - 1 by omega),W9 (by simp;omega),W9 (by omega)]
def brkP (p:PC):PC:={ zaM p 0 with lp:=zkP p.lp p.st.length }
def brkG (γ:Gn) (k n:Nat) (top:Int) (l:List Int):Gn:={ zhR γ k [0] with xl:=updF γ.xl n [(top,.own 7 (n+1) (γ.gb n+1) 0 (l.length+1))],bl:=updF γ.bl n (l++[(k:Int)]),gb:=updF γ.gb n (γ.gb n+1) }
theorem zBS {p:PC} {γ:Gn} {n:Nat} (hok:OkC (zaM p 0) (zhR γ p.st.length [0])) (hn:p.lp.length=n+1):OkC (brkP p) (brkG γ p.st.length n p.lp[n].1 p.lp[n].2):=by
 refine⟨hok.to,fun d hd=>?_,hok.s2,fun d x hx=>?_⟩
 rotate_left
 ·
  simp only[brkG] at hx
  by_cases hd:d=n
  · subst hd;rw[zbo] at hx;rw[Wc.1 hx];rfl
  · rw[zdD hd] at hx;exact hok.xl d x hx
 have hd':d < p.lp.length:=by have h:d < (zkP p.lp p.st.length).length:=hd;rw[(ziF _ _).1] at h;exact h
 have hl:(brkP p).lp=p.lp.set n (p.lp[n].1,p.lp[n].2++[(p.st.length:Int)]):=zwe hn
 have hg:(brkP p).lp[d]=(p.lp.set n (p.lp[n].1,p.lp[n].2++[(p.st.length:Int)]))[d]'(by simpa using hd'):=by simp only[hl]
 rw[hg,List.getElem_set]
 by_cases hdn:n=d
 · subst hdn;simp only[if_true,brkG,zbo];exact⟨by simp,by simp⟩
 · rw[if_neg hdn];have h:=hok.lp d hd';simp only[brkG,zdD (Ne.symm hdn)];exact h
theorem brk_H {M:Nat} {p:PC} {γ:Gn} {T:AH} {n:Nat} {top:Int} {l:List Int}:cH M (brkP p) (brkG γ p.st.length n top l) T =
  (0,.row 4 [[.own 1 0 (γ.gs+1) 0 (zaM p 0).st.length,.own 2 0 γ.gl 0 p.lp.length,.mp 3 0,.mp 4 0]] 0)::(1,.row 3 (stC (updF γ.gt p.st.length (γ.gt p.st.length+1)) (zaM p 0).st) (γ.gs+1))::(2,.row 1 (lpC γ.gx p.lp.length++γ.s2) γ.gl)::(3,.row 3 (mpC p.lab) 0)::(4,.row 3 (mpC p.got) 0) ::
  (5,.fam 1 (fi cI M (updF γ.tl p.st.length [0]) (updF γ.gt p.st.length (γ.gt p.st.length+1))))::(6,.fam 2 (fi cX M (updF γ.xl n [(top,.own 7 (n+1) (γ.gb n+1) 0 (l.length+1))]) γ.gx))::(7,.fam 1 (fi cI M (updF γ.bl n (l++[(p.st.length:Int)])) (updF γ.gb n (γ.gb n+1))))::T:=by
 unfold cH brkP brkG zhR;simp only[(ziF p.lp p.st.length).1];rfl
theorem zh6 {a0 a1 a2 a3 a4 a5 a6 a7:AObj} {T:AH} {x:Nat} (hx:8≤x):AH.look ((0,a0)::(1,a1)::(2,a2)::(3,a3)::(4,a4)::(5,a5)::(6,a6)::(7,a7)::T) x=T.look x:=by simp only[AH.look,zQ (show 0≠x by omega),zQ (show 1≠x by omega),zQ (show 2≠x by omega),zQ (show 3≠x by omega),zQ (show 4≠x by omega),zQ (show 5≠x by omega),zQ (show 6≠x by omega),zQ (show 7≠x by omega),cond_false]
theorem zxt {B nx M N N2 n:Nat} {a0 a1 a2 a3 a4 a5 o o':AObj} {K:Kn} {v:AV} {T:AH} {xl:Nat→List (Int × AV)} {gx gb:Nat→Nat} {bl:Nat→List Int} {top k:Int} (hB:B≤nx) (hT:TailOk N T) (hN:N < N2) (hn:n < M) (hv:K.get 0=v) (hx:xl n=[(top,.nilsl)]) :
  Ent B K ((0,a0)::(1,a1)::(2,a2)::(3,a3)::(4,a4)::(5,a5)::(6,.fam 2 (fi cX M (updF xl n [(top,.own (N2+1) 0 0 0 1)]) gx))::(7,.fam 1 (fi cI M bl gb))::((T.put N o).put N2 o').put (N2+1) (.row 1 [[.int .i64 k]] 0)) nx
   [(0,v)] ((0,a0)::(1,a1)::(2,a2)::(3,a3)::(4,a4)::(5,a5)::(6,.fam 2 (fi cX M (updF xl n [(top,.own 7 (n+1) (gb n+1) 0 1)]) gx))::(7,.fam 1 (fi cI M (updF bl n [k]) (updF gb n (gb n+1))))::T) nx:=by
 have h8:=hT.eight;refine Ent.adoptF (c:=cI) (F:=7) (k:=n) (m:=M) (sz:=1) (ll:=bl) (gs:=gb) (l:=[k]) (some (N2+1)) hB hn rfl ?_ (by simp) ?_ ⟨by rw[hv];exact .same _,trivial⟩
 · rintro x ⟨rfl⟩;refine⟨by omega,?_⟩;rw[zh6 (by omega)];exact zT
 ·
  intro x o2 h
  match x with
  | 0=>cases h;exact⟨fun m e=>by cases e;omega,.inr ⟨by omega,_,rfl,.same _⟩⟩
  | 1=>cases h;exact⟨fun m e=>by cases e;omega,.inr ⟨by omega,_,rfl,.same _⟩⟩
  | 2=>cases h;exact⟨fun m e=>by cases e;omega,.inr ⟨by omega,_,rfl,.same _⟩⟩
  | 3=>cases h;exact⟨fun m e=>by cases e;omega,.inr ⟨by omega,_,rfl,.same _⟩⟩
  | 4=>cases h;exact⟨fun m e=>by cases e;omega,.inr ⟨by omega,_,rfl,.same _⟩⟩
  | 5=>cases h;exact⟨fun m e=>by cases e;omega,.inr ⟨by omega,_,rfl,.same _⟩⟩
  |
   6 =>
   cases h;refine⟨fun m e=>by cases e;omega,.inr ⟨by omega,_,rfl,?_⟩⟩
   have hu:updF xl n [(top,.own 7 (n+1) (gb n+1) 0 1)]=updF (updF xl n [(top,.own (N2+1) 0 0 0 1)]) n [(top,.own 7 (n+1) (gb n+1) 0 1)]:=by
    funext i
    unfold updF
    split<;>rfl
   rw[hu];refine ObjA.updF ?_;rw[zbo];exact RowA.cons ⟨.same _,.own _ _ _ rfl,trivial⟩ (RowA.refl _)
  | 7=>cases h;exact⟨fun m e=>by cases e;omega,.inl ⟨rfl,rfl⟩⟩
  |
   x+8 =>
   rw[zh6 (by omega)] at h;have hx:=hT.num _ _ h;refine⟨fun m e=>by cases e;omega,.inr ⟨by omega,o2,?_,.same _⟩⟩;rw[zh6 (by omega),AH.look_put,if_neg (by omega),AH.look_put,if_neg (by omega),AH.look_put,if_neg (by omega)];exact h
theorem zAg {B nx N N2:Nat} {a0 a1 a2 a3 a4 a5 a6 a7 o o':AObj} {K:Kn} {v:AV} {T:AH} (hB:B≤nx) (hT:TailOk N T) (hN:N < N2) (hv:K.get 0=v) :
  Ent B K ((0,a0)::(1,a1)::(2,a2)::(3,a3)::(4,a4)::(5,a5)::(6,a6)::(7,a7)::(T.put N o).put N2 o') nx [(0,v)] ((0,a0)::(1,a1)::(2,a2)::(3,a3)::(4,a4)::(5,a5)::(6,a6)::(7,a7)::T) nx :=
 Ent.forget hB (Wa _) (zu (zu (zu (zu (zu (zu (zu (zu (fun r x h=>by
  have:=hT.num _ _ h;rw[AH.look_put,if_neg (by omega),AH.look_put,if_neg (by omega)]
  exact h)))))))))
  (fun i=>by
   cases i with
   | zero=>exact .inr hv.symm
   | succ i=>exact .inl rfl)
def zkn (n:Nat) (γ γ':Gn):Prop:=∀d,d < n→γ'.gx d=γ.gx d
theorem zkn.trans {n m:Nat} {a b c:Gn} (h:zkn n a b) (k:zkn m b c) (e:n≤m):zkn n a c:=fun d hd=>(k d (by omega)).trans (h d hd)
def zes (M:Nat) (e:Nd):Prop:=∀(p:PC) (γ:Gn) (T:AH) (N:Nat),OkC p γ→LpOk p→TailOk N T→p.st.length+p.lab.length+4 * zaJ e≤M→p.lp.length+zaJ e≤M→p.got.length≤p.st.length→zd5 e (!p.lp.isEmpty)=false →
 zak Tryz.prog zce [.ptr 0 0 0 0 0,.agg (encN e)] (cH M p γ T) N (fun _ H nx=>N≤nx∧∃γ',OkC (zaR e p) γ'∧zkn p.lp.length γ γ'∧H=cH M (zaR e p) γ' T)
def zrm (M:Nat) (l:List Nd):Prop:=∀(p:PC) (γ:Gn) (T:AH) (N:Nat),OkC p γ→LpOk p→TailOk N T→p.st.length+p.lab.length+4 * zaj l≤M→p.lp.length+zaj l≤M→p.got.length≤p.st.length→zaY l (!p.lp.isEmpty)=false →
 zak Tryz.prog zdB [.ptr 0 0 0 0 0,encL 5 encN l] (cH M p γ T) N (fun _ H nx=>N≤nx∧∃γ',OkC (zaO l p) γ'∧zkn p.lp.length γ γ'∧H=cH M (zaO l p) γ' T)
def BrOk (M:Nat) (l:List Nd):Prop:=∀(p:PC) (γ:Gn) (T:AH) (N:Nat),OkC p γ→LpOk p→TailOk N T→p.st.length+p.lab.length+4 * zaj l+1≤M→p.lp.length+zaj l≤M→p.got.length≤p.st.length→zaY l (!p.lp.isEmpty)=false →
 zak Tryz.prog zcR [.ptr 0 0 0 0 0,encL 5 encN l] (cH M p γ T) N (fun _ H nx=>N≤nx∧∃γ',OkC (zrG l p) γ'∧zkn p.lp.length γ γ'∧H=cH M (zrG l p) γ' T)
def zqZ (M:Nat) (l:List Nd):Prop:=∀(p:PC) (γ:Gn) (T:AH) (N:Nat) (b:Option Int) (fv:AV),OkC p γ→LpOk p→TailOk N T→p.st.length+p.lab.length+4 * zaj l+3≤M→p.lp.length+zaj l+1≤M→p.got.length≤p.st.length→zaY l true=false →
 (match b with|none=>fv=.fn (.func zbM) []|some b=>∃rc c,fv=.fn (.func zbI) [.ptr rc 0 0 0 0,.iptr 5 c]∧T.look rc=some (.row 1 [[.ptr 0 0 0 0 0]] 0)∧c 1=.int .i64 b) →
 zak Tryz.prog zc9 [.ptr 0 0 0 0 0,encL 5 encN l,fv] (cH M p γ T) N (fun _ H nx=>N≤nx∧∃γ',OkC (zr3 b l p) γ'∧zkn p.lp.length γ γ'∧H=cH M (zr3 b l p) γ' T)
theorem zc3 (f:NdF) (c:List Ex) (l:List Nd):encN (.mk f c l)=[.int .i64 f.kind,.int .i64 f.block,.int .i64 f.label,encL 5 encX c,encL 5 encN l]:=zeT f c l
theorem Qq {p q:Prop}(k:q)(h:Im q p:=by(repeat first|simp(disch:=try exact dis1) only[evD,Nat.reduceBEq,Nat.reduceAdd,Nat.reduceLeDiff,zN] | ((with_reducible apply Im.i);intro _) | ((with_reducible apply Im.a);omega));exact Im.r):p:=h k
theorem zCU (M:Nat) (hM:M≤1000000) (f:NdF) (c:List Ex) (l:List Nd) (hall:zrm M l) (hk:f.kind=1):zes M (.mk f c l):=by
 intro p γ T N hok hlp hT hl1 hl2 hgot hst;refine zan (fn_x zW rfl ?_);rw[zc2];rw[zaJ] at hl1 hl2;unfold zd5 at hst;obtain⟨kd,bl,lb⟩:=f;simp only at hst hk ⊢;unfold zR;have hB:=hBig;have h8:=hT.eight;obtain⟨n0,n1,n2,n3,n4,n5,n6,n7⟩:=ne8 hT.eight;have tN:T.look N=none:=hT.none (Wa _);have hT1:=hT.put 1 [[.ptr 0 0 0 0 0]] (fun c hc=>by rw[Wc.1 hc];simp[AV.lt0]);rw[zc3];simp only[cH]
 have hs:¬(kd=7∨kd=8)→zaY l (!p.lp.isEmpty||decide (kd=4)||decide (kd=5))=false:=fun h=>by rw[if_neg (fun e=>h e.1)] at hst;exact hst
 have hne:(kd=7∨kd=8)→p.lp≠[]:=fun h e=>by rw[e,if_pos ⟨h,rfl⟩] at hst;cases hst
 clear hst;rw[if_pos (show kd=1 by omega)]
 have hs':zaY l (!p.lp.isEmpty)=false:=by have:=hs (by omega);rwa [dF (by omega),dF (by omega),Wk,Wk] at this
 (repeat first|simp(disch:=try exact dis1) only[evD,Nat.reduceBEq,Nat.reduceAdd,Nat.reduceLeDiff,dT,dF,fldP,n0,n1,n2,n3,n4,n5,n6,n7,tN,zK,zT]|with_reducible first|intro _|refine aJ ?_)
 refine(hall p γ (T.put N (.row 1 [[.ptr 0 0 0 0 0]] 0)) (N+1) hok hlp hT1 (by omega) (by omega) (by omega) hs').mono ?_;rintro x H N2 ⟨hN2,γ2,ok2,sx,rfl⟩
 (refine Qq ?_;intros)
 exact⟨_,_,N2,zc6 (by omega) hT rfl,by omega,_,ok2,sx,rfl⟩
theorem zCG (M:Nat) (hM:M≤1000000) (f:NdF) (c:List Ex) (l:List Nd) (hk:f.kind=2):zes M (.mk f c l):=by
 intro p γ T N hok hlp hT hl1 hl2 hgot hst;refine zan (fn_x zW rfl ?_);rw[zc2];rw[zaJ] at hl1 hl2;unfold zd5 at hst;obtain⟨kd,bl,lb⟩:=f;simp only at hst hk ⊢;unfold zR;have hB:=hBig;have h8:=hT.eight;obtain⟨n0,n1,n2,n3,n4,n5,n6,n7⟩:=ne8 hT.eight;have tN:T.look N=none:=hT.none (Wa _);have hT1:=hT.put 1 [[.ptr 0 0 0 0 0]] (fun c hc=>by rw[Wc.1 hc];simp[AV.lt0]);rw[zc3];simp only[cH]
 have hs:¬(kd=7∨kd=8)→zaY l (!p.lp.isEmpty||decide (kd=4)||decide (kd=5))=false:=fun h=>by rw[if_neg (fun e=>h e.1)] at hst;exact hst
 have hne:(kd=7∨kd=8)→p.lp≠[]:=fun h e=>by rw[e,if_pos ⟨h,rfl⟩] at hst;cases hst
 clear hst;rw[if_neg (show ¬kd=1 by omega)];rw[if_pos (show kd=2 by omega)]
 (repeat first|simp(disch:=try exact dis1) only[evD,Nat.reduceBEq,Nat.reduceAdd,Nat.reduceLeDiff,dT,dF,fldP,n0,n1,n2,n3,n4,n5,n6,n7,tN,zK,zT]|with_reducible first|intro _|refine aJ ?_)
 refine(zc8 M p γ (T.put N (.row 1 [[.ptr 0 0 0 0 0]] 0)) (N+1) 0 bl hok hT1 (by omega)).mono ?_;rintro x H N2 ⟨hN2,rfl,ok2,rfl⟩
 (refine Qq ?_;intros)
 exact⟨_,_,N2,zc6 (by omega) hT rfl,by omega,_,ok2,fun _ _=>rfl,rfl⟩
theorem zA6 (M:Nat) (hM:M≤1000000) (f:NdF) (c:List Ex) (l:List Nd) (hk:f.kind=11):zes M (.mk f c l):=by
 intro p γ T N hok hlp hT hl1 hl2 hgot hst;refine zan (fn_x zW rfl ?_);rw[zc2];rw[zaJ] at hl1 hl2;unfold zd5 at hst;obtain⟨kd,bl,lb⟩:=f;simp only at hst hk ⊢;unfold zR;have hB:=hBig;have h8:=hT.eight;obtain⟨n0,n1,n2,n3,n4,n5,n6,n7⟩:=ne8 hT.eight;have tN:T.look N=none:=hT.none (Wa _);have hT1:=hT.put 1 [[.ptr 0 0 0 0 0]] (fun c hc=>by rw[Wc.1 hc];simp[AV.lt0]);rw[zc3];simp only[cH]
 have hs:¬(kd=7∨kd=8)→zaY l (!p.lp.isEmpty||decide (kd=4)||decide (kd=5))=false:=fun h=>by rw[if_neg (fun e=>h e.1)] at hst;exact hst
 have hne:(kd=7∨kd=8)→p.lp≠[]:=fun h e=>by rw[e,if_pos ⟨h,rfl⟩] at hst;cases hst
 clear hst;rw[if_neg (show ¬kd=1 by omega)];rw[if_neg (show ¬kd=2 by omega)];rw[if_neg (show ¬(kd=3∨kd=6) by omega)];rw[if_neg (show ¬kd=4 by omega)];rw[if_neg (show ¬kd=5 by omega)];rw[if_neg (show ¬kd=7 by omega)];rw[if_neg (show ¬kd=8 by omega)];rw[if_neg (show ¬kd=9 by omega)];rw[if_neg (show ¬kd=10 by omega)];rw[if_pos (show (kd=11∨kd=12) by omega)]
 (repeat first|simp(disch:=try exact dis1) only[evD,Nat.reduceBEq,Nat.reduceAdd,Nat.reduceLeDiff,dT,dF,fldP,n0,n1,n2,n3,n4,n5,n6,n7,tN,zK,zT]|with_reducible first|intro _|refine aJ ?_)
 refine(zc8 M p γ (T.put N (.row 1 [[.ptr 0 0 0 0 0]] 0)) (N+1) 2 0 hok hT1 (by omega)).mono ?_;rintro x H N2 ⟨hN2,rfl,ok2,rfl⟩
 (refine Qq ?_;intros)
 exact⟨_,_,N2,zc6 (by omega) hT rfl,by omega,_,ok2,fun _ _=>rfl,rfl⟩
theorem zzW (M:Nat) (hM:M≤1000000) (f:NdF) (c:List Ex) (l:List Nd) (hk:f.kind=12):zes M (.mk f c l):=by
 intro p γ T N hok hlp hT hl1 hl2 hgot hst;refine zan (fn_x zW rfl ?_);rw[zc2];rw[zaJ] at hl1 hl2;unfold zd5 at hst;obtain⟨kd,bl,lb⟩:=f;simp only at hst hk ⊢;unfold zR;have hB:=hBig;have h8:=hT.eight;obtain⟨n0,n1,n2,n3,n4,n5,n6,n7⟩:=ne8 hT.eight;have tN:T.look N=none:=hT.none (Wa _);have hT1:=hT.put 1 [[.ptr 0 0 0 0 0]] (fun c hc=>by rw[Wc.1 hc];simp[AV.lt0]);rw[zc3];simp only[cH]
 have hs:¬(kd=7∨kd=8)→zaY l (!p.lp.isEmpty||decide (kd=4)||decide (kd=5))=false:=fun h=>by rw[if_neg (fun e=>h e.1)] at hst;exact hst
 have hne:(kd=7∨kd=8)→p.lp≠[]:=fun h e=>by rw[e,if_pos ⟨h,rfl⟩] at hst;cases hst
 clear hst;rw[if_neg (show ¬kd=1 by omega)];rw[if_neg (show ¬kd=2 by omega)];rw[if_neg (show ¬(kd=3∨kd=6) by omega)];rw[if_neg (show ¬kd=4 by omega)];rw[if_neg (show ¬kd=5 by omega)];rw[if_neg (show ¬kd=7 by omega)];rw[if_neg (show ¬kd=8 by omega)];rw[if_neg (show ¬kd=9 by omega)];rw[if_neg (show ¬kd=10 by omega)];rw[if_pos (show (kd=11∨kd=12) by omega)]
 (repeat first|simp(disch:=try exact dis1) only[evD,Nat.reduceBEq,Nat.reduceAdd,Nat.reduceLeDiff,dT,dF,fldP,n0,n1,n2,n3,n4,n5,n6,n7,tN,zK,zT]|with_reducible first|intro _|refine aJ ?_)
 refine(zc8 M p γ (T.put N (.row 1 [[.ptr 0 0 0 0 0]] 0)) (N+1) 2 0 hok hT1 (by omega)).mono ?_;rintro x H N2 ⟨hN2,rfl,ok2,rfl⟩
 (refine Qq ?_;intros)
 exact⟨_,_,N2,zc6 (by omega) hT rfl,by omega,_,ok2,fun _ _=>rfl,rfl⟩
theorem zB1 (M:Nat) (hM:M≤1000000) (f:NdF) (c:List Ex) (l:List Nd) (hbr:BrOk M l) (hk:f.kind=3):zes M (.mk f c l):=by
 intro p γ T N hok hlp hT hl1 hl2 hgot hst;refine zan (fn_x zW rfl ?_);rw[zc2];rw[zaJ] at hl1 hl2;unfold zd5 at hst;obtain⟨kd,bl,lb⟩:=f;simp only at hst hk ⊢;unfold zR;have hB:=hBig;have h8:=hT.eight;obtain⟨n0,n1,n2,n3,n4,n5,n6,n7⟩:=ne8 hT.eight;have tN:T.look N=none:=hT.none (Wa _);have hT1:=hT.put 1 [[.ptr 0 0 0 0 0]] (fun c hc=>by rw[Wc.1 hc];simp[AV.lt0]);rw[zc3];simp only[cH]
 have hs:¬(kd=7∨kd=8)→zaY l (!p.lp.isEmpty||decide (kd=4)||decide (kd=5))=false:=fun h=>by rw[if_neg (fun e=>h e.1)] at hst;exact hst
 have hne:(kd=7∨kd=8)→p.lp≠[]:=fun h e=>by rw[e,if_pos ⟨h,rfl⟩] at hst;cases hst
 clear hst;rw[if_neg (show ¬kd=1 by omega)];rw[if_neg (show ¬kd=2 by omega)];rw[if_pos (show (kd=3∨kd=6) by omega)]
 have hs':zaY l (!p.lp.isEmpty)=false:=by have:=hs (by omega);rwa [dF (by omega),dF (by omega),Wk,Wk] at this
 (repeat first|simp(disch:=try exact dis1) only[evD,Nat.reduceBEq,Nat.reduceAdd,Nat.reduceLeDiff,dT,dF,fldP,n0,n1,n2,n3,n4,n5,n6,n7,tN,zK,zT]|with_reducible first|intro _|refine aJ ?_)
 refine(hbr p γ (T.put N (.row 1 [[.ptr 0 0 0 0 0]] 0)) (N+1) hok hlp hT1 (by omega) (by omega) (by omega) hs').mono ?_;rintro x H N2 ⟨hN2,γ2,ok2,sx,rfl⟩
 (refine Qq ?_;intros)
 exact⟨_,_,N2,zc6 (by omega) hT rfl,by omega,_,ok2,sx,rfl⟩
theorem zCk (M:Nat) (hM:M≤1000000) (f:NdF) (c:List Ex) (l:List Nd) (hbr:BrOk M l) (hk:f.kind=6):zes M (.mk f c l):=by
 intro p γ T N hok hlp hT hl1 hl2 hgot hst;refine zan (fn_x zW rfl ?_);rw[zc2];rw[zaJ] at hl1 hl2;unfold zd5 at hst;obtain⟨kd,bl,lb⟩:=f;simp only at hst hk ⊢;unfold zR;have hB:=hBig;have h8:=hT.eight;obtain⟨n0,n1,n2,n3,n4,n5,n6,n7⟩:=ne8 hT.eight;have tN:T.look N=none:=hT.none (Wa _);have hT1:=hT.put 1 [[.ptr 0 0 0 0 0]] (fun c hc=>by rw[Wc.1 hc];simp[AV.lt0]);rw[zc3];simp only[cH]
 have hs:¬(kd=7∨kd=8)→zaY l (!p.lp.isEmpty||decide (kd=4)||decide (kd=5))=false:=fun h=>by rw[if_neg (fun e=>h e.1)] at hst;exact hst
 have hne:(kd=7∨kd=8)→p.lp≠[]:=fun h e=>by rw[e,if_pos ⟨h,rfl⟩] at hst;cases hst
 clear hst;rw[if_neg (show ¬kd=1 by omega)];rw[if_neg (show ¬kd=2 by omega)];rw[if_pos (show (kd=3∨kd=6) by omega)]
 have hs':zaY l (!p.lp.isEmpty)=false:=by have:=hs (by omega);rwa [dF (by omega),dF (by omega),Wk,Wk] at this
 (repeat first|simp(disch:=try exact dis1) only[evD,Nat.reduceBEq,Nat.reduceAdd,Nat.reduceLeDiff,dT,dF,fldP,n0,n1,n2,n3,n4,n5,n6,n7,tN,zK,zT]|with_reducible first|intro _|refine aJ ?_)
 refine(hbr p γ (T.put N (.row 1 [[.ptr 0 0 0 0 0]] 0)) (N+1) hok hlp hT1 (by omega) (by omega) (by omega) hs').mono ?_;rintro x H N2 ⟨hN2,γ2,ok2,sx,rfl⟩
 (refine Qq ?_;intros)
 exact⟨_,_,N2,zc6 (by omega) hT rfl,by omega,_,ok2,sx,rfl⟩
theorem zCB (M:Nat) (hM:M≤1000000) (f:NdF) (c:List Ex) (l:List Nd) (hlo:zqZ M l) (hk:f.kind=4):zes M (.mk f c l):=by
 intro p γ T N hok hlp hT hl1 hl2 hgot hst;refine zan (fn_x zW rfl ?_);rw[zc2];rw[zaJ] at hl1 hl2;unfold zd5 at hst;obtain⟨kd,bl,lb⟩:=f;simp only at hst hk ⊢;unfold zR;have hB:=hBig;have h8:=hT.eight;obtain⟨n0,n1,n2,n3,n4,n5,n6,n7⟩:=ne8 hT.eight;have tN:T.look N=none:=hT.none (Wa _);have hT1:=hT.put 1 [[.ptr 0 0 0 0 0]] (fun c hc=>by rw[Wc.1 hc];simp[AV.lt0]);rw[zc3];simp only[cH]
 have hs:¬(kd=7∨kd=8)→zaY l (!p.lp.isEmpty||decide (kd=4)||decide (kd=5))=false:=fun h=>by rw[if_neg (fun e=>h e.1)] at hst;exact hst
 have hne:(kd=7∨kd=8)→p.lp≠[]:=fun h e=>by rw[e,if_pos ⟨h,rfl⟩] at hst;cases hst
 clear hst;rw[if_neg (show ¬kd=1 by omega)];rw[if_neg (show ¬kd=2 by omega)];rw[if_neg (show ¬(kd=3∨kd=6) by omega)];rw[if_pos (show kd=4 by omega)]
 have hs':zaY l true=false:=by have:=hs (by omega);rwa [dT hk,dF (by omega),Bool.or_true,Wk] at this
 (repeat first|simp(disch:=try exact dis1) only[evD,Nat.reduceBEq,Nat.reduceAdd,Nat.reduceLeDiff,dT,dF,fldP,n0,n1,n2,n3,n4,n5,n6,n7,tN,zK,zT]|with_reducible first|intro _|refine aJ ?_)
 refine(hlo p γ (T.put N (.row 1 [[.ptr 0 0 0 0 0]] 0)) (N+1) none _ hok hlp hT1 (by omega) (by omega) (by omega) hs' rfl).mono ?_;rintro x H N2 ⟨hN2,γ2,ok2,sx,rfl⟩
 (refine Qq ?_;intros)
 exact⟨_,_,N2,zc6 (by omega) hT rfl,by omega,_,ok2,sx,rfl⟩
theorem zCy (M:Nat) (hM:M≤1000000) (f:NdF) (c:List Ex) (l:List Nd) (hlo:zqZ M l) (hk:f.kind=5):zes M (.mk f c l):=by
 intro p γ T N hok hlp hT hl1 hl2 hgot hst;refine zan (fn_x zW rfl ?_);rw[zc2];rw[zaJ] at hl1 hl2;unfold zd5 at hst;obtain⟨kd,bl,lb⟩:=f;simp only at hst hk ⊢;unfold zR;have hB:=hBig;have h8:=hT.eight;obtain⟨n0,n1,n2,n3,n4,n5,n6,n7⟩:=ne8 hT.eight;have tN:T.look N=none:=hT.none (Wa _);have hT1:=hT.put 1 [[.ptr 0 0 0 0 0]] (fun c hc=>by rw[Wc.1 hc];simp[AV.lt0]);rw[zc3];simp only[cH]
 have hs:¬(kd=7∨kd=8)→zaY l (!p.lp.isEmpty||decide (kd=4)||decide (kd=5))=false:=fun h=>by rw[if_neg (fun e=>h e.1)] at hst;exact hst
 have hne:(kd=7∨kd=8)→p.lp≠[]:=fun h e=>by rw[e,if_pos ⟨h,rfl⟩] at hst;cases hst
 clear hst;rw[if_neg (show ¬kd=1 by omega)];rw[if_neg (show ¬kd=2 by omega)];rw[if_neg (show ¬(kd=3∨kd=6) by omega)];rw[if_neg (show ¬kd=4 by omega)];rw[if_pos (show kd=5 by omega)]
 have hs':zaY l true=false:=by have:=hs (by omega);rwa [dT hk,Bool.or_true] at this
 (repeat first|simp(disch:=try exact dis1) only[evD,Nat.reduceBEq,Nat.reduceAdd,Nat.reduceLeDiff,dT,dF,fldP,n0,n1,n2,n3,n4,n5,n6,n7,tN,zK,zT]|with_reducible first|intro _|refine aJ ?_)
 refine(hlo p γ (T.put N (.row 1 [[.ptr 0 0 0 0 0]] 0)) (N+1) (some bl) _ hok hlp hT1 (by omega) (by omega) (by omega) hs' ⟨_,_,rfl,zT,rfl⟩).mono ?_;rintro x H N2 ⟨hN2,γ2,ok2,sx,rfl⟩
 (refine Qq ?_;intros)
 exact⟨_,_,N2,zc6 (by omega) hT rfl,by omega,_,ok2,sx,rfl⟩
theorem zBD (M:Nat) (hM:M≤1000000) (f:NdF) (c:List Ex) (l:List Nd) (hk:f.kind=7):zes M (.mk f c l):=by
 intro p γ T N hok hlp hT hl1 hl2 hgot hst;refine zan (fn_x zW rfl ?_);rw[zc2];rw[zaJ] at hl1 hl2;unfold zd5 at hst;obtain⟨kd,bl,lb⟩:=f;simp only at hst hk ⊢;unfold zR;have hB:=hBig;have h8:=hT.eight;obtain⟨n0,n1,n2,n3,n4,n5,n6,n7⟩:=ne8 hT.eight;have tN:T.look N=none:=hT.none (Wa _);have hT1:=hT.put 1 [[.ptr 0 0 0 0 0]] (fun c hc=>by rw[Wc.1 hc];simp[AV.lt0]);rw[zc3];simp only[cH]
 have hs:¬(kd=7∨kd=8)→zaY l (!p.lp.isEmpty||decide (kd=4)||decide (kd=5))=false:=fun h=>by rw[if_neg (fun e=>h e.1)] at hst;exact hst
 have hne:(kd=7∨kd=8)→p.lp≠[]:=fun h e=>by rw[e,if_pos ⟨h,rfl⟩] at hst;cases hst
 clear hst;rw[if_neg (show ¬kd=1 by omega)];rw[if_neg (show ¬kd=2 by omega)];rw[if_neg (show ¬(kd=3∨kd=6) by omega)];rw[if_neg (show ¬kd=4 by omega)];rw[if_neg (show ¬kd=5 by omega)];rw[if_pos (show kd=7 by omega)];obtain⟨n,hn⟩:∃n,p.lp.length=n+1:=⟨p.lp.length - 1,by have:=WO.2 (hne (by omega));omega⟩
 have h6:(lpC γ.gx p.lp.length++γ.s2).getD n []=[.ptr 6 (n+1) (γ.gx n) 0 0]:=by rw[hn];simp[lpC,Wp,WG]
 have h6l:n < (lpC γ.gx p.lp.length++γ.s2).length:=by rw[hn];simp[lpC];omega
 have hfi:(fi cX M γ.xl γ.gx)[n]? = some ((γ.xl n).map cX,γ.gx n):=zkN (by omega);have hxl:=(hok.lp n (by omega)).1
 have e1:((p.lp.length:Int) - 1).toNat=n:=by omega
 have hp7:0 < p.lp.length:=by omega
 show wpX _ _ _ (retK _ (zsd N fun _ H nx=>N≤nx∧∃γ',OkC (brkP p) γ'∧zkn p.lp.length γ γ'∧H=cH M (brkP p) γ' T)) _ _ _
 by_cases hbk:p.lp[n].2=[]
 ·
  rw[if_pos hbk] at hxl;rw[hxl] at hfi
  (repeat first|simp(disch:=try exact dis1) only[evD,Nat.reduceBEq,Nat.reduceAdd,Nat.reduceLeDiff,dT,dF,fldP,n0,n1,n2,n3,n4,n5,n6,n7,tN,zK,zT,h6,h6l,hfi,e1,Wd]|with_reducible first|intro _|refine aJ ?_)
  (repeat' apply Wl)
  all_goals (refine(zc4 M p γ (T.put N (.row 1 [[.ptr 0 0 0 0 0]] 0)) (N+1) 0 hok hT1 (by omega) hM).mono ?_;rintro x H N2 ⟨hN2,rfl,ok2,rfl⟩;obtain⟨m0,m1,m2,m3,m4,m5,m6,m7⟩:=ne8 (show 8≤N2 by omega);obtain⟨q0,q1,q2,q3,q4,q5,q6,q7⟩:=ne8 (show 8≤N2+1 by omega);have t2:=hT.put1 (show N < N2 by omega);have t3:=hT.put2 (show N < N2 by omega) (show N2 < N2+1 by omega);simp only[cH,zhR];(repeat first|simp(disch:=try exact dis1) only[evD,Nat.reduceBEq,Nat.reduceAdd,Nat.reduceLeDiff,dT,dF,n0,n1,n2,n3,n4,n5,n6,n7,m0,m1,m2,m3,m4,m5,m6,m7,q0,q1,q2,q3,q4,q5,q6,q7,t2,t3,zK,zT,hfi,cX,zyf,zN]|with_reducible first|intro _|refine aJ ?_);(repeat' apply Wl))
  all_goals try omega
  all_goals (refine⟨.tup [],_,N2+1+1,?_,by omega,_,zBS ok2 hn,fun _ _=>rfl,rfl⟩;show Ent N _ _ _ _ (cH M (brkP p) (brkG γ p.st.length n p.lp[n].1 p.lp[n].2) T) _;rw[brk_H,hbk];exact zxt (by omega) hT (by omega) (by omega) rfl hxl)
 ·
  have hbl:=(hok.lp n (by omega)).2 hbk;have hfb:(fi cI M γ.bl γ.gb)[n]? = some ((γ.bl n).map cI,γ.gb n):=zkN (by omega);rw[hbl] at hfb;have hbl2:=(hlp _ (Wm (show n < p.lp.length by omega))).1;have htk:(p.lp[n].2.map cI).take p.lp[n].2.length=p.lp[n].2.map cI:=WH (by simp);rw[if_neg hbk] at hxl;rw[hxl] at hfi
  (repeat first|simp(disch:=try exact dis1) only[evD,Nat.reduceBEq,Nat.reduceAdd,Nat.reduceLeDiff,dT,dF,fldP,n0,n1,n2,n3,n4,n5,n6,n7,tN,zK,zT,h6,h6l,hfi,hfb,e1,Wd]|with_reducible first|intro _|refine aJ ?_)
  (repeat' apply Wl)
  all_goals (refine(zc4 M p γ (T.put N (.row 1 [[.ptr 0 0 0 0 0]] 0)) (N+1) 0 hok hT1 (by omega) hM).mono ?_;rintro x H N2 ⟨hN2,rfl,ok2,rfl⟩;obtain⟨m0,m1,m2,m3,m4,m5,m6,m7⟩:=ne8 (show 8≤N2 by omega);obtain⟨q0,q1,q2,q3,q4,q5,q6,q7⟩:=ne8 (show 8≤N2+1 by omega);have t2:=hT.put1 (show N < N2 by omega);have t3:=hT.put2 (show N < N2 by omega) (show N2 < N2+1 by omega);simp only[cH,zhR];(repeat first|simp(disch:=try exact dis1) only[evD,Nat.reduceBEq,Nat.reduceAdd,Nat.reduceLeDiff,dT,dF,n0,n1,n2,n3,n4,n5,n6,n7,m0,m1,m2,m3,m4,m5,m6,m7,q0,q1,q2,q3,q4,q5,q6,q7,t2,t3,zK,zT,hfi,hfb,htk,cX,zyf,zzp,zN]|with_reducible first|intro _|refine aJ ?_);(repeat' apply Wl))
  all_goals try omega
  all_goals (refine⟨.tup [],_,N2+1,?_,by omega,_,zBS ok2 hn,fun _ _=>rfl,rfl⟩;show Ent N _ _ _ _ (cH M (brkP p) (brkG γ p.st.length n p.lp[n].1 p.lp[n].2) T) _;rw[brk_H];exact zAg (by omega) hT (by omega) rfl)
theorem zDc (M:Nat) (hM:M≤1000000) (f:NdF) (c:List Ex) (l:List Nd) (hk:f.kind=8):zes M (.mk f c l):=by
 intro p γ T N hok hlp hT hl1 hl2 hgot hst;refine zan (fn_x zW rfl ?_);rw[zc2];rw[zaJ] at hl1 hl2;unfold zd5 at hst;obtain⟨kd,bl,lb⟩:=f;simp only at hst hk ⊢;unfold zR;have hB:=hBig;have h8:=hT.eight;obtain⟨n0,n1,n2,n3,n4,n5,n6,n7⟩:=ne8 hT.eight;have tN:T.look N=none:=hT.none (Wa _);have hT1:=hT.put 1 [[.ptr 0 0 0 0 0]] (fun c hc=>by rw[Wc.1 hc];simp[AV.lt0]);rw[zc3];simp only[cH]
 have hs:¬(kd=7∨kd=8)→zaY l (!p.lp.isEmpty||decide (kd=4)||decide (kd=5))=false:=fun h=>by rw[if_neg (fun e=>h e.1)] at hst;exact hst
 have hne:(kd=7∨kd=8)→p.lp≠[]:=fun h e=>by rw[e,if_pos ⟨h,rfl⟩] at hst;cases hst
 clear hst;rw[if_neg (show ¬kd=1 by omega)];rw[if_neg (show ¬kd=2 by omega)];rw[if_neg (show ¬(kd=3∨kd=6) by omega)];rw[if_neg (show ¬kd=4 by omega)];rw[if_neg (show ¬kd=5 by omega)];rw[if_neg (show ¬kd=7 by omega)];rw[if_pos (show kd=8 by omega)];obtain⟨n,hn⟩:∃n,p.lp.length=n+1:=⟨p.lp.length - 1,by have:=WO.2 (hne (by omega));omega⟩
 have h6:(lpC γ.gx p.lp.length++γ.s2).getD n []=[.ptr 6 (n+1) (γ.gx n) 0 0]:=by rw[hn];simp[lpC,Wp,WG]
 have h6l:n < (lpC γ.gx p.lp.length++γ.s2).length:=by rw[hn];simp[lpC];omega
 have hfi:(fi cX M γ.xl γ.gx)[n]? = some ((γ.xl n).map cX,γ.gx n):=zkN (by omega);have hxl:=(hok.lp n (by omega)).1
 have e1:((p.lp.length:Int) - 1).toNat=n:=by omega
 have hp7:0 < p.lp.length:=by omega
 have htop:p.lp[n].1=topL p.lp:=by unfold topL;rw[WF,show p.lp.length - 1=n by omega,Wj (by omega)]
 rw[htop] at hxl;rw[hxl] at hfi
 (repeat first|simp(disch:=try exact dis1) only[evD,Nat.reduceBEq,Nat.reduceAdd,Nat.reduceLeDiff,dT,dF,fldP,n0,n1,n2,n3,n4,n5,n6,n7,tN,zK,zT,h6,h6l,hfi,e1,Wd]|with_reducible first|intro _|refine aJ ?_)
 (repeat' apply Wl)
 all_goals try omega
 all_goals (refine(zc4 M p γ (T.put N (.row 1 [[.ptr 0 0 0 0 0]] 0)) (N+1) (topL p.lp) hok hT1 (by omega) hM).mono ?_;rintro x H N2 ⟨hN2,rfl,ok2,rfl⟩;(refine Qq ?_;intros);exact⟨_,_,N2,zc6 (by omega) hT rfl,by omega,_,ok2,fun _ _=>rfl,rfl⟩)
theorem zB9 (M:Nat) (hM:M≤1000000) (f:NdF) (c:List Ex) (l:List Nd) (hk:f.kind=9):zes M (.mk f c l):=by
 intro p γ T N hok hlp hT hl1 hl2 hgot hst;refine zan (fn_x zW rfl ?_);rw[zc2];rw[zaJ] at hl1 hl2;unfold zd5 at hst;obtain⟨kd,bl,lb⟩:=f;simp only at hst hk ⊢;unfold zR;have hB:=hBig;have h8:=hT.eight;obtain⟨n0,n1,n2,n3,n4,n5,n6,n7⟩:=ne8 hT.eight;have tN:T.look N=none:=hT.none (Wa _);have hT1:=hT.put 1 [[.ptr 0 0 0 0 0]] (fun c hc=>by rw[Wc.1 hc];simp[AV.lt0]);rw[zc3];simp only[cH]
 have hs:¬(kd=7∨kd=8)→zaY l (!p.lp.isEmpty||decide (kd=4)||decide (kd=5))=false:=fun h=>by rw[if_neg (fun e=>h e.1)] at hst;exact hst
 have hne:(kd=7∨kd=8)→p.lp≠[]:=fun h e=>by rw[e,if_pos ⟨h,rfl⟩] at hst;cases hst
 clear hst;rw[if_neg (show ¬kd=1 by omega)];rw[if_neg (show ¬kd=2 by omega)];rw[if_neg (show ¬(kd=3∨kd=6) by omega)];rw[if_neg (show ¬kd=4 by omega)];rw[if_neg (show ¬kd=5 by omega)];rw[if_neg (show ¬kd=7 by omega)];rw[if_neg (show ¬kd=8 by omega)];rw[if_pos (show kd=9 by omega)]
 have hg2:(zaM p 0).got.length≤1000000:=by have:(zaM p 0).got.length=p.got.length:=rfl;omega
 (repeat first|simp(disch:=try exact dis1) only[evD,Nat.reduceBEq,Nat.reduceAdd,Nat.reduceLeDiff,dT,dF,fldP,n0,n1,n2,n3,n4,n5,n6,n7,tN,zK,zT]|with_reducible first|intro _|refine aJ ?_)
 (repeat' apply Wl)
 all_goals (refine(zc4 M p γ (T.put N (.row 1 [[.ptr 0 0 0 0 0]] 0)) (N+1) 0 hok hT1 (by omega) hM).mono ?_;rintro x H N2 ⟨hN2,rfl,ok2,rfl⟩;simp only[cH];(repeat first|simp(disch:=try exact dis1) only[evD,Nat.reduceBEq,Nat.reduceAdd,Nat.reduceLeDiff,n0,n1,n2,n3,n4,n5,n6,n7,tN,zK,zT,zN,zsI hg2]|with_reducible first|intro _|refine aJ ?_);exact⟨_,_,N2,zc6 (p:={ zaM p 0 with got:=setL p.got p.st.length lb }) (by omega) hT rfl,by omega,_,⟨ok2.to,ok2.lp,ok2.s2,ok2.xl⟩,fun _ _=>rfl,rfl⟩)
theorem zAu (M:Nat) (hM:M≤1000000) (f:NdF) (c:List Ex) (l:List Nd) (hk:f.kind=10):zes M (.mk f c l):=by
 intro p γ T N hok hlp hT hl1 hl2 hgot hst;refine zan (fn_x zW rfl ?_);rw[zc2];rw[zaJ] at hl1 hl2;unfold zd5 at hst;obtain⟨kd,bl,lb⟩:=f;simp only at hst hk ⊢;unfold zR;have hB:=hBig;have h8:=hT.eight;obtain⟨n0,n1,n2,n3,n4,n5,n6,n7⟩:=ne8 hT.eight;have tN:T.look N=none:=hT.none (Wa _);have hT1:=hT.put 1 [[.ptr 0 0 0 0 0]] (fun c hc=>by rw[Wc.1 hc];simp[AV.lt0]);rw[zc3];simp only[cH]
 have hs:¬(kd=7∨kd=8)→zaY l (!p.lp.isEmpty||decide (kd=4)||decide (kd=5))=false:=fun h=>by rw[if_neg (fun e=>h e.1)] at hst;exact hst
 have hne:(kd=7∨kd=8)→p.lp≠[]:=fun h e=>by rw[e,if_pos ⟨h,rfl⟩] at hst;cases hst
 clear hst;rw[if_neg (show ¬kd=1 by omega)];rw[if_neg (show ¬kd=2 by omega)];rw[if_neg (show ¬(kd=3∨kd=6) by omega)];rw[if_neg (show ¬kd=4 by omega)];rw[if_neg (show ¬kd=5 by omega)];rw[if_neg (show ¬kd=7 by omega)];rw[if_neg (show ¬kd=8 by omega)];rw[if_neg (show ¬kd=9 by omega)];rw[if_pos (show kd=10 by omega)]
 (repeat first|simp(disch:=try exact dis1) only[evD,Nat.reduceBEq,Nat.reduceAdd,Nat.reduceLeDiff,dT,dF,fldP,n0,n1,n2,n3,n4,n5,n6,n7,tN,zK,zT]|with_reducible first|intro _|refine aJ ?_)
 (repeat' apply Wl)
 all_goals (refine za4 (zgH (by rfl) (by rfl) (by simp[zcx]) (by omega)) ?_;(repeat first|simp(disch:=try exact dis1) only[evD,Nat.reduceBEq,Nat.reduceAdd,Nat.reduceLeDiff,zN,zsI (show p.lab.length≤1000000 by omega)]|with_reducible first|intro _|refine aJ ?_);exact⟨_,_,N+1,zc6 (p:={ p with lab:=setL p.lab lb p.st.length }) (by omega) hT rfl,by omega,_,⟨hok.to,hok.lp,hok.s2,hok.xl⟩,fun _ _=>rfl,rfl⟩)
theorem zCg (M:Nat) (hM:M≤1000000) (f:NdF) (c:List Ex) (l:List Nd) (hk:f.kind < 1∨12 < f.kind):zes M (.mk f c l):=by
 intro p γ T N hok hlp hT hl1 hl2 hgot hst;refine zan (fn_x zW rfl ?_);rw[zc2];rw[zaJ] at hl1 hl2;unfold zd5 at hst;obtain⟨kd,bl,lb⟩:=f;simp only at hst hk ⊢;unfold zR;have hB:=hBig;have h8:=hT.eight;obtain⟨n0,n1,n2,n3,n4,n5,n6,n7⟩:=ne8 hT.eight;have tN:T.look N=none:=hT.none (Wa _);have hT1:=hT.put 1 [[.ptr 0 0 0 0 0]] (fun c hc=>by rw[Wc.1 hc];simp[AV.lt0]);rw[zc3];simp only[cH]
 have hs:¬(kd=7∨kd=8)→zaY l (!p.lp.isEmpty||decide (kd=4)||decide (kd=5))=false:=fun h=>by rw[if_neg (fun e=>h e.1)] at hst;exact hst
 have hne:(kd=7∨kd=8)→p.lp≠[]:=fun h e=>by rw[e,if_pos ⟨h,rfl⟩] at hst;cases hst
 clear hst;rw[if_neg (show ¬kd=1 by omega)];rw[if_neg (show ¬kd=2 by omega)];rw[if_neg (show ¬(kd=3∨kd=6) by omega)];rw[if_neg (show ¬kd=4 by omega)];rw[if_neg (show ¬kd=5 by omega)];rw[if_neg (show ¬kd=7 by omega)];rw[if_neg (show ¬kd=8 by omega)];rw[if_neg (show ¬kd=9 by omega)];rw[if_neg (show ¬kd=10 by omega)];rw[if_neg (show ¬(kd=11∨kd=12) by omega)]
 (repeat first|simp(disch:=try exact dis1) only[evD,Nat.reduceBEq,Nat.reduceAdd,Nat.reduceLeDiff,dT,dF,fldP,n0,n1,n2,n3,n4,n5,n6,n7,tN,zK,zT,zN]|with_reducible first|intro _|refine aJ ?_)
 exact⟨_,_,N+1,zc6 (by omega) hT rfl,by omega,_,hok,fun _ _=>rfl,rfl⟩
theorem zoM (M:Nat) (hM:M≤1000000) (f:NdF) (c:List Ex) (l:List Nd) (hall:zrm M l) (hbr:BrOk M l) (hlo:zqZ M l):zes M (.mk f c l):=by
 by_cases k1:f.kind=1
 · exact zCU M hM f c l hall k1
 by_cases k2:f.kind=2
 · exact zCG M hM f c l k2
 by_cases k3:f.kind=3
 · exact zB1 M hM f c l hbr k3
 by_cases k4:f.kind=4
 · exact zCB M hM f c l hlo k4
 by_cases k5:f.kind=5
 · exact zCy M hM f c l hlo k5
 by_cases k6:f.kind=6
 · exact zCk M hM f c l hbr k6
 by_cases k7:f.kind=7
 · exact zBD M hM f c l k7
 by_cases k8:f.kind=8
 · exact zDc M hM f c l k8
 by_cases k9:f.kind=9
 · exact zB9 M hM f c l k9
 by_cases k10:f.kind=10
 · exact zAu M hM f c l k10
 by_cases k11:f.kind=11
 · exact zA6 M hM f c l k11
 by_cases k12:f.kind=12
 · exact zzW M hM f c l k12
 exact zCg M hM f c l (by omega)
theorem zoE {l:List Nd} {p:PC} {i:Nat} (h:i < l.length):zaO (l.take (i+1)) p=zaR l[i] (zaO (l.take i) p):=by
 induction l generalizing p i with
 | nil=>simp at h
 |
  cons a l ih =>
  cases i with
  | zero=>simp only[Wo,WI,zaO,Wz]
  |
   succ i =>
   rw[Wo,Wo,zaO,zaO,WJ];exact ih (by simpa using h)
theorem zlE:∀ {l:List Nd} {i:Nat} (h:i < l.length),zaj (l.take i)+zaJ l[i]≤zaj l
 | [],i,h=>by simp at h
 |
  a::l,0,h=>by
  rw[zaj,WI,zaj,Wz];omega
 |
  a::l,i+1,h=>by
  have:=zlE (l:=l) (i:=i) (by simpa using h);rw[zaj,Wo,zaj,WJ];omega
theorem zly:∀ {l:List Nd} {b:Bool},zaY l b=false→∀e∈l,zd5 e b=false
 | [],_,_,e,he=>by cases he
 |
  a::l,b,h,e,he=>by
  rw[zaY,Bool.or_eq_false_iff] at h
  rcases WC.1 he with rfl|he
  · exact h.1
  · exact zly h.2 e he
theorem zo6 {α β:Type} {a:List α} {b:List β} (h:a.length=b.length):a.isEmpty=b.isEmpty:=by
 cases a<;>cases b<;>simp at h<;>rfl
theorem znQ (e:Nd):1≤zaJ e:=by obtain⟨f,c,m⟩:=e;rw[zaJ];omega
theorem zkC (M:Nat) (hM:M≤1000000) (l:List Nd) (hn:∀e∈l,zes M e):zrm M l:=by
 intro p γ T N hok hlp hT hl1 hl2 hgot hst;refine zan (fn_x zmB rfl ?_);unfold zig;have hB:=hBig;have h8:=hT.eight;obtain⟨n0,n1,n2,n3,n4,n5,n6,n7⟩:=ne8 hT.eight;have tN:T.look N=none:=hT.none (Wa _)
 (refine Qa ?_;intros)
 refine zq (fun s:Nat × Gn=>([(0,.ptr 0 0 0 0 0),(6,encL 5 encN l),(7,.int .i64 l.length),(8,.int .i64 s.1)],cH M (zaO (l.take s.1) p) s.2 T)) N (fun s=>s.1≤l.length∧OkC (zaO (l.take s.1) p) s.2∧zkn p.lp.length γ s.2) (fun s=>l.length - s.1) (0,γ) ⟨Wv _,hok,fun _ _=>rfl⟩ ?_ ?_
 · exact Ent.low (Wa _) (fun _ _ h=>h) (zk5 hok hT) (by refine⟨⟨rfl,?_⟩,⟨rfl,?_⟩,⟨rfl,?_⟩,⟨rfl,?_⟩,trivial⟩<;>simp[AV.lt1,AV.lt0,encL]<;>omega)
 ·
  rintro⟨i,γ1⟩ ⟨hi,hok1,sx1⟩ wf;simp only at hi hok1 sx1 ⊢;clear wf;unfold zfO;have hp:=zbZ (l.take i) p
  by_cases hl:i < l.length
  ·
   have hsz:=zlE hl;have hpos:=znQ l[i];have hlen:=hp.len;have hg2:=hp.got;have hlp2:=hp.lp.1;have hT1:=hT.put 5 [encN l[i]] (zhS (fun c hc=>by rw[Wc.1 hc];exact zd));simp only[cH]
   (repeat first|simp(disch:=try exact dis1) only[evD,Nat.reduceBEq,Nat.reduceAdd,Nat.reduceLeDiff,dT,dF,fldP,n0,n1,n2,n3,n4,n5,n6,n7,tN,zK,zT,zpB,zp hl,zb1,zbp]|with_reducible first|intro _|refine aJ ?_)
   have hs1:=zly hst l[i] (Wm hl);rw[zo6 hlp2.symm] at hs1;refine(hn l[i] (Wm hl) (zaO (l.take i) p) γ1 (T.put N (.row 5 [encN l[i]] 0)) (N+1) hok1 (hp.ok hlp) hT1 (by omega) (by omega) (by omega) hs1).mono ?_;rintro x H N2 ⟨hN2,γ2,ok2,sx2,rfl⟩
   (refine Qa ?_;intros)
   have ok3:OkC (zaO (l.take (i+1)) p) γ2:=by rw[zoE hl];exact ok2
   refine⟨(i+1,γ2),⟨hl,ok3,sx1.trans sx2 (by omega)⟩,by omega,Ent.low (Wa _) ?_ (zk5 ok3 hT) (by refine⟨⟨rfl,?_⟩,⟨rfl,?_⟩,⟨rfl,?_⟩,⟨rfl,?_⟩,trivial⟩<;>simp[AV.lt1,AV.lt0,encL]<;>omega)⟩;simp only;rw[zoE hl];exact zzx (zl0 tN)
  ·
   have hi2:i=l.length:=by omega
   subst hi2;rw[Wx] at hok1 ⊢
   (repeat first|simp(disch:=try exact dis1) only[evD,Nat.reduceBEq,Nat.reduceAdd,Nat.reduceLeDiff,dF,zif]|with_reducible first|intro _|refine aJ ?_)
   exact⟨_,_,N,Ent.low (Wa _) (fun _ _ h=>h) (zk5 hok1 hT) (K2:=[(0,.tup [])]) ⟨⟨rfl,rfl⟩,trivial⟩,by omega,γ1,hok1,sx1,rfl⟩
theorem zBC {at':Nat} {l:List Nd} {p:PC} {ends:List Int} {i:Nat} (h:i < l.length):brP at' (l.take (i+1)) p ends =
  (zaM (zaR l[i] (appTo (brP at' (l.take i) p ends).1 at' (brP at' (l.take i) p ends).1.st.length)) 0,(brP at' (l.take i) p ends).2++[((zaR l[i] (appTo (brP at' (l.take i) p ends).1 at' (brP at' (l.take i) p ends).1.st.length)).st.length:Int)]):=by
 induction l generalizing p i ends with
 | nil=>simp at h
 |
  cons a l ih =>
  cases i with
  | zero=>simp only[Wo,WI,brP,Wz]
  |
   succ i =>
   rw[Wo,Wo,brP,WJ];simp only[brP];exact ih (by simpa using h)
def tlen (p:PC) (k:Nat):Option Nat:=p.st[k]?.bind fun s=>s.to.map List.length
def zen (b:Nat) (p q:PC):Prop:=∀k,k < b→tlen q k=tlen p k
theorem zen.trans {b:Nat} {p q r:PC} (h:zen b p q) (k:zen b q r):zen b p r:=fun i hi=>(k i hi).trans (h i hi)
theorem zen.of_st {b:Nat} {p q:PC} (h:q.st=p.st):zen b p q:=fun k _=>by unfold tlen;rw[h]
theorem zbO {b:Nat} {p:PC} {s:PSt} (hb:b≤p.st.length):zen b p (addP p s):=fun k hk=>by unfold tlen addP;simp only;rw[W0 (by omega)]
theorem ziq {b:Nat} {p:PC} {k i:Nat} {v:Int}:zen b p (setTo p k i v):=fun k' _=>by
 unfold tlen setTo;simp only[Wi]
 cases p.st[k']? with
 | none=>rfl
 |
  some s =>
  simp only[Ww,We,WK]
  by_cases h:k=k'
  ·
   rw[if_pos h];simp only
   cases s.to with
   | none=>rfl
   | some l=>simp
  · rw[if_neg h]
theorem zuo {b:Nat} {p:PC} {k:Nat} {v:Int} (hb:b≤k):zen b p (appTo p k v):=fun k' hk=>by
 unfold tlen appTo;simp only[Wi]
 cases p.st[k']? with
 | none=>rfl
 |
  some s =>
  simp only[Ww,We,WK];rw[if_neg (by omega)]
theorem zfe {b:Nat}:∀ {ks:List Int} {p:PC} {v:Int},zen b p (putAll p ks v)
 | [],p,v=>fun _ _=>rfl
 |
  k::ks,p,v=>by
  unfold putAll;rw[List.foldl_cons];exact ziq.trans zfe
theorem zok {b:Nat} {p q:PC} {top t:Int} (hb:b≤q.st.length) (h:zen b (zbu p t) q):zen b p (zea q top):=by unfold zea;refine zen.trans (fun k hk=>h k hk) (zen.trans (zen.of_st (q:={ q with lp:=q.lp.dropLast }) rfl) (zen.trans (zbO (s:=⟨1,0,some [top]⟩) hb) zfe))
mutual
theorem zeL:∀(n:Nd) (p:PC) (b:Nat),b≤p.st.length→zen b p (zaR n p)
 |
  .mk f c l,p,b,hb=>by
  rw[zaR];split
  · exact zdM l p b hb
  split
  · exact zbO hb
  split
  · simp only;have h1:zen b p (za3 p):=zbO hb;exact(h1.trans (zty p.st.length l (za3 p) [] b hb (by simp[za3,addP];omega))).trans zfe
  split
  · exact zok (Wn hb (zbZ l (zbu p p.st.length)).keep.len) (zdM l (zbu p p.st.length) b hb)
  split
  ·
   simp only;have h1:zen b p (addP p ⟨0,f.block,none⟩):=zbO hb
   have e1:b≤(addP p ⟨0,f.block,none⟩).st.length:=by simp[addP];omega
   have h2:zen b p (zeV p f.block):=h1.trans (zbO e1)
   have e2:b≤(zeV p f.block).st.length:=by unfold zeV;simp[addP];omega
   exact(h2.trans (zok (Wn e2 (zbZ l (zbu (zeV p f.block) p.st.length)).keep.len) (zdM l (zbu (zeV p f.block) p.st.length) b e2))).trans ziq
  split
  · exact zen.trans (zbO hb) (zen.of_st rfl)
  split
  · exact zbO hb
  split
  · exact zen.trans (zbO hb) (zen.of_st rfl)
  split
  · exact zen.of_st rfl
  split
  · exact zbO hb
  · exact fun _ _=>rfl
theorem zdM:∀(l:List Nd) (p:PC) (b:Nat),b≤p.st.length→zen b p (zaO l p)
 | [],p,b,hb=>by rw[zaO];exact fun _ _=>rfl
 |
  n::l,p,b,hb=>by
  rw[zaO];exact(zeL n p b hb).trans (zdM l (zaR n p) b (Wn hb (zcc n p).keep.len))
theorem zty (at':Nat):∀(l:List Nd) (p:PC) (ends:List Int) (b:Nat),b≤at'→b≤p.st.length→zen b p (brP at' l p ends).1
 | [],p,ends,b,h1,h2=>by rw[brP];exact fun _ _=>rfl
 |
  n::l,p,ends,b,h1,h2=>by
  rw[brP]
  have e0:b≤(appTo p at' p.st.length).st.length:=by simp[appTo];omega
  have e1:=Wn e0 (zcc n (appTo p at' p.st.length)).keep.len;exact(((zuo h1).trans (zeL n _ b e0)).trans (zbO e1)).trans (zty at' l _ _ b h1 (by simp[zaM,addP];omega))
end
theorem znR {p:PC} {k n:Nat} {v:Int} (h:tlen p k=some n):tlen (appTo p k v) k=some (n+1):=by
 unfold tlen appTo at *;simp only[Wi]
 cases hs:p.st[k]? with
 | none=>rw[hs] at h;cases h
 |
  some s =>
  rw[hs] at h;simp only[WK] at h
  cases ht:s.to with
  | none=>rw[ht] at h;cases h
  |
   some l =>
   rw[ht] at h;cases h;simp[ht]
def setG (γ:Gn) (k i:Nat) (v:Int):Gn:={ γ with tl:=updF γ.tl k ((γ.tl k).set i v) }
theorem zyT {gt:Nat→Nat} {p:PC} {k i:Nat} {v:Int}:stC gt (setTo p k i v).st=stC gt p.st:=by
 apply Wq;intro j;simp only[stC,setTo,Wr,Wi]
 cases p.st[j]? with
 | none=>rfl
 |
  some s =>
  simp only[Ww,We];split
  ·
   unfold cS toV;simp only
   cases s.to with
   | none=>rfl
   | some l=>simp
  · rfl
theorem zlN {p:PC} {γ:Gn} (hok:OkC p γ) (k i:Nat) (v:Int):OkC (setTo p k i v) (setG γ k i v):=by
 refine⟨fun k' h' l e=>?_,hok.lp,hok.s2,hok.xl⟩
 have h2:k' < p.st.length:=by simpa [setTo] using h'
 simp only[setTo,setG] at e ⊢;rw[Waa] at e
 by_cases hk:k=k'
 · subst hk;rw[if_pos rfl] at e;simp only at e;obtain⟨l0,e1,rfl⟩:=Option.map_eq_some_iff.1 e;rw[zbo,hok.to k h2 l0 e1]
 · rw[if_neg hk] at e;rw[zdD (Ne.symm hk)];exact hok.to k' h2 l e
theorem zrd {M k i:Nat} {tl:Nat→List Int} {gt:Nat→Nat} {v:Int}:(fi cI M tl gt).set k (((tl k).map cI).set i [.int .i64 v],gt k)=fi cI M (updF tl k ((tl k).set i v)) gt:=by have h:=zxp (c:=cI) (n:=M) (k:=k) (g:=gt k) (ll:=tl) (gs:=gt) (l:=(tl k).set i v);rw[zoF] at h;rw[←h,List.map_set]
theorem zq9 {M:Nat} {p:PC} {γ:Gn} {T:AH} {k i:Nat} {v:Int}:cH M (setTo p k i v) (setG γ k i v) T =
  (0,.row 4 [[.own 1 0 γ.gs 0 p.st.length,.own 2 0 γ.gl 0 p.lp.length,.mp 3 0,.mp 4 0]] 0)::(1,.row 3 (stC γ.gt p.st) γ.gs)::(2,.row 1 (lpC γ.gx p.lp.length++γ.s2) γ.gl)::(3,.row 3 (mpC p.lab) 0)::(4,.row 3 (mpC p.got) 0) ::
  (5,.fam 1 (fi cI M (updF γ.tl k ((γ.tl k).set i v)) γ.gt))::(6,.fam 2 (fi cX M γ.xl γ.gx))::(7,.fam 1 (fi cI M γ.bl γ.gb))::T:=by
 unfold cH setG;simp only[zyT]
 have:(setTo p k i v).st.length=p.st.length:=by simp[setTo]
 rw[this];rfl
def appG (γ:Gn) (k:Nat) (l:List Int) (v:Int):Gn:={ γ with gt:=updF γ.gt k (γ.gt k+1),tl:=updF γ.tl k (l++[v]) }
theorem ztd {p:PC} {γ:Gn} (hok:OkC p γ) {k:Nat} {s:PSt} {l:List Int} (v:Int) (hs:p.st[k]? = some s) (ht:s.to=some l):OkC (appTo p k v) (appG γ k l v):=by
 refine⟨fun k' h' l' e=>?_,hok.lp,hok.s2,hok.xl⟩
 have h2:k' < p.st.length:=by simpa [appTo] using h'
 simp only[appTo,appG] at e ⊢;rw[Waa] at e
 by_cases hk:k=k'
 ·
  subst hk;rw[if_pos rfl] at e
  have hs':p.st[k]=s:=by rw[Wj h2] at hs;exact Option.some.inj hs
  simp only[hs',ht,We,WE] at e;rw[zbo,e]
 · rw[if_neg hk] at e;rw[zdD (Ne.symm hk)];exact hok.to k' h2 l' e
theorem zzi {γ:Gn} {p:PC} {k:Nat} {s:PSt} {l:List Int} {v:Int} (hs:p.st[k]? = some s) (ht:s.to=some l) :
  stC (updF γ.gt k (γ.gt k+1)) (appTo p k v).st=(stC γ.gt p.st).set k [.int .i64 s.kind,.int .i64 s.block,.own 5 (k+1) (γ.gt k+1) 0 (l.length+1)]:=by
 have hk:=(Ws.1 hs).1;apply Wq;intro j;rw[WS];simp only[stC,appTo,Wr,Wi,W7]
 by_cases hj:k=j
 · subst hj;rw[if_pos rfl,if_pos hk,hs];simp only[if_true,Ww,We,cS,toV,ht,zbo,Wf,Wg]
 ·
  rw[if_neg hj];simp only[hj,if_false]
  cases p.st[j]? with
  | none=>rfl
  |
   some x =>
   simp only[Ww,We,cS,toV]
   cases x.to with
   | none=>rfl
   | some y=>simp only[zdD (Ne.symm hj)]
theorem zB3 {M:Nat} {p:PC} {γ:Gn} {T:AH} {k:Nat} {s:PSt} {l:List Int} {v:Int} (hs:p.st[k]? = some s) (ht:s.to=some l):cH M (appTo p k v) (appG γ k l v) T =
  (0,.row 4 [[.own 1 0 γ.gs 0 p.st.length,.own 2 0 γ.gl 0 p.lp.length,.mp 3 0,.mp 4 0]] 0)::(1,.row 3 ((stC γ.gt p.st).set k [.int .i64 s.kind,.int .i64 s.block,.own 5 (k+1) (γ.gt k+1) 0 (l.length+1)]) γ.gs)::(2,.row 1 (lpC γ.gx p.lp.length++γ.s2) γ.gl)::(3,.row 3 (mpC p.lab) 0)::(4,.row 3 (mpC p.got) 0) ::
  (5,.fam 1 (fi cI M (updF γ.tl k (l++[v])) (updF γ.gt k (γ.gt k+1))))::(6,.fam 2 (fi cX M γ.xl γ.gx))::(7,.fam 1 (fi cI M γ.bl γ.gb))::T:=by
 unfold cH appG;simp only[zzi hs ht]
 have:(appTo p k v).st.length=p.st.length:=by simp[appTo]
 rw[this];rfl
def zp8 (γ:Gn) (k:Nat):Gn:={ γ with gt:=updF γ.gt k (γ.gt k+1),tl:=updF γ.tl k [] }
theorem zvj {p:PC} {γ:Gn} (k b:Int) (hok:OkC (addP p ⟨k,b,none⟩) γ):OkC (addP p ⟨k,b,some []⟩) (zp8 γ p.st.length):=by
 refine⟨fun k' h' l e=>?_,hok.lp,hok.s2,hok.xl⟩
 have h2:k' < p.st.length+1:=by simpa [addP] using h'
 simp only[addP,zp8] at e ⊢
 by_cases hk:k'=p.st.length
 · subst hk;simp at e;rw[zbo,e]
 · rw[Wy (by omega)] at e;rw[zdD hk];refine hok.to k' (by simp[addP];omega) l ?_;simp only[addP];rw[Wy (by omega)];exact e
theorem zyx {B nx M:Nat} {p:PC} {γ:Gn} {T:AH} {k b:Int} {K K2:Kn} (hB:B≤nx) (hl:p.st.length < M) (hT:∀r o,T.look r=some o→8≤r) (hK:zqg none 5 (p.st.length+1) (γ.gt p.st.length+1) K2 K) :
  Ent B K (cH M (addP p ⟨k,b,none⟩) γ T) nx K2 (cH M (addP p ⟨k,b,some []⟩) (zp8 γ p.st.length) T) nx:=by
 refine Ent.adoptF (c:=cI) (F:=5) (k:=p.st.length) (m:=M) (sz:=1) (ll:=γ.tl) (gs:=γ.gt) (l:=[]) none hB hl rfl (by simp) (fun _=>rfl) ?_ hK;intro x o2 h;refine⟨fun m e=>(by cases e),?_⟩
 match x with
 | 0=>cases h;exact .inr ⟨by omega,_,rfl,by simp only[addP,zp8,Wf,Wg];exact .same _⟩
 |
  1 =>
  cases h;refine .inr ⟨by omega,_,rfl,?_⟩;simp only[addP,zp8,zrH,zvr];refine .row _ _ _ _ (RowA.app (RowA.cons ?_ (RowA.refl _)) _);simp only[cS,toV,zbo];exact⟨.same _,.same _,.nil rfl,trivial⟩
 | 2=>cases h;exact .inr ⟨by omega,_,rfl,.same _⟩
 | 3=>cases h;exact .inr ⟨by omega,_,rfl,.same _⟩
 | 4=>cases h;exact .inr ⟨by omega,_,rfl,.same _⟩
 | 5=>cases h;exact .inl ⟨rfl,rfl⟩
 | 6=>cases h;exact .inr ⟨by omega,_,rfl,.same _⟩
 | 7=>cases h;exact .inr ⟨by omega,_,rfl,.same _⟩
 |
  x+8 =>
  rw[zjQ (by omega)] at h;exact .inr ⟨by omega,o2,by rw[zjQ (by omega)];exact h,.same _⟩
theorem zAX {p:PC} {k n:Nat} (h:tlen p k=some n):∃s l,p.st[k]? = some s∧s.to=some l∧l.length=n:=by
 unfold tlen at h
 cases hs:p.st[k]? with
 | none=>rw[hs] at h;cases h
 |
  some s =>
  rw[hs] at h;simp only[WK] at h
  cases ht:s.to with
  | none=>rw[ht] at h;cases h
  | some l=>rw[ht] at h;cases h;exact⟨s,l,rfl,ht,rfl⟩
theorem zl7:∀l:List Nd,l.length≤zaj l
 | []=>Wv _
 |
  e::l=>by
  have:=zl7 l;have:=znQ e;rw[zaj,Wab];omega
def zqI (p:PC) (ends:List Int):Prop:=∀k∈ends,0≤k∧zkq p k.toNat 1
theorem zqI.keep {p q:PC} {ends:List Int} (h:zqI p ends) (k:Keep p q):zqI q ends:=fun x hx=>⟨(h x hx).1,k.to _ _ (h x hx).2⟩
theorem zvb (at':Nat):∀(l:List Nd) (p:PC) (ends:List Int),zqI p ends→zqI (brP at' l p ends).1 (brP at' l p ends).2∧(brP at' l p ends).2.length=ends.length+l.length
 | [],p,ends,h=>by rw[brP];exact⟨h,by simp⟩
 |
  n::l,p,ends,h=>by
  rw[brP];have h1:Keep p (zaR n (appTo p at' p.st.length)):=(zj7 p at' p.st.length).trans (zcc n _).keep
  have h2:zqI (zaM (zaR n (appTo p at' p.st.length)) 0) (ends++[((zaR n (appTo p at' p.st.length)).st.length:Int)]):=fun k hk=>by
   rcases Wu.1 hk with hk|hk
   · exact(h.keep (h1.trans (zb3 _ _))) k hk
   · rw[Wc.1 hk];exact⟨by omega,by rw[Wd];exact zmG _ _⟩
  obtain⟨a,b⟩:=zvb at' l _ _ h2;refine⟨a,?_⟩;rw[b];simp;omega
theorem zvW (at':Nat):∀(l:List Nd) (p:PC) (ends:List Int) (n:Nat),at' < p.st.length→tlen p at'=some n→tlen (brP at' l p ends).1 at'=some (n+l.length)
 | [],p,ends,n,h1,h2=>by rw[brP];simpa using h2
 |
  e::l,p,ends,n,h1,h2=>by
  rw[brP]
  have e1:at' < (appTo p at' p.st.length).st.length:=by simpa [appTo] using h1
  have e2:=(zcc e (appTo p at' p.st.length)).keep.len
  have h3:tlen (zaM (zaR e (appTo p at' p.st.length)) 0) at'=some (n+1):=by rw[show tlen (zaM (zaR e (appTo p at' p.st.length)) 0) at'=tlen (zaR e (appTo p at' p.st.length)) at' from zbO (b:=at'+1) (by omega) at' (by omega),zeL e _ (at'+1) (by omega) at' (by omega)];exact znR h2
  have:=zvW at' l (zaM (zaR e (appTo p at' p.st.length)) 0) (ends++[((zaR e (appTo p at' p.st.length)).st.length:Int)]) (n+1) (by simp[zaM,addP];omega) h3;rw[this,Wab]
  congr 1
  omega
theorem zpA {q:PC} {ks:List Int} {v:Int} {j:Nat} (h:j < ks.length):putAll q (ks.take (j+1)) v=setTo (putAll q (ks.take j) v) ks[j].toNat 0 v:=by unfold putAll;rw[List.take_succ_eq_append_getElem h,List.foldl_append];rfl
theorem zyC {p:PC} {k n:Nat} (h:zkq p k n):∃(hk:k < p.st.length) (l:List Int),p.st[k].to=some l∧n≤l.length:=by obtain⟨s,l,h1,h2,h3⟩:=h;have hk:=(Ws.1 h1).1;refine⟨hk,l,?_,h3⟩;rw[Wj hk] at h1;rw[Option.some.inj h1];exact h2
theorem ziH {M:Nat} {p:PC} {γ:Gn} (hok:OkC p γ) {k n:Nat} (h:zkq p k n) (hM:p.st.length≤M):∃(hk:k < p.st.length) (l:List Int),γ.tl k=l∧n≤l.length∧(stC γ.gt p.st).getD k []=[.int .i64 p.st[k].kind,.int .i64 p.st[k].block,.own 5 (k+1) (γ.gt k) 0 l.length]∧(fi cI M γ.tl γ.gt)[k]? = some ((γ.tl k).map cI,γ.gt k):=by obtain⟨hk,l,h1,h2⟩:=zyC h;refine⟨hk,l,hok.to k hk l h1,h2,?_,zkN (by omega)⟩;rw[zrk hk,cS,h1,toV]
theorem zlC (
       M:Nat) (hM:M≤1000000) (l:List Nd) (hn:∀e∈l,zes M e):BrOk M l:=by
 intro p γ T N hok hlp hT hl1 hl2 hgot hst;refine zan (fn_x zjg rfl ?_);unfold zey zrG;have hB:=hBig;have h8:=hT.eight
 (refine Qa ?_;intros)
 refine(zc8 M p γ T N 1 (-1) hok hT (by omega)).mono ?_;rintro x H N1 ⟨hN1,rfl,ok1,rfl⟩
 have sx0:zkn p.lp.length γ (addG γ):=fun _ _=>rfl
 generalize addG γ=γ1 at *;have hT1:=hT.up hN1;obtain⟨n0,n1,n2,n3,n4,n5,n6,n7⟩:=ne8 hT1.eight;have tN:T.look N1=none:=hT1.none (Wa _);simp only[cH]
 (repeat first|simp(disch:=try exact dis1) only[evD,Nat.reduceBEq,Nat.reduceAdd,Nat.reduceLeDiff,n0,n1,n2,n3,n4,n5,n6,n7,tN]|with_reducible first|intro _|refine aJ ?_)
 have e0:brP p.st.length (l.take 0) (za3 p) []=(za3 p,[]):=by rw[WI,brP]
 have hlt:∀(g:Nat) (e:List Int),TailOk (N1+1) (T.put N1 (.row 1 (e.map cI) g)):=fun g e=>hT1.put 1 (e.map cI) (zoJ fun _=>rfl) g
 refine zq (fun s:Nat × Gn=>([(0,.ptr 0 0 0 0 0),(4,.int .i64 p.st.length),(5,.own N1 0 s.1 0 s.1),(13,encL 5 encN l),(14,.int .i64 l.length),(15,.int .i64 s.1)],cH M (brP p.st.length (l.take s.1) (za3 p) []).1 s.2 (T.put N1 (.row 1 ((brP p.st.length (l.take s.1) (za3 p) []).2.map cI) s.1)))) (N1+1)
  (fun s=>s.1≤l.length∧OkC (brP p.st.length (l.take s.1) (za3 p) []).1 s.2∧zkn p.lp.length γ s.2) (fun s=>l.length - s.1) (0,zp8 γ1 p.st.length) ⟨Wv _,?_,sx0⟩ ?_ ?_
 · rw[e0];exact zvj 1 (-1) ok1
 ·
  have ok2:=zvj 1 (-1) ok1;simp only[e0];refine Ent.trans (zyx (k:=1) (b := -1) (γ:=γ1) (K2:=[(0,.ptr 0 0 0 0 0),(4,.int .i64 p.st.length),(5,.own N1 0 0 0 0),(13,encL 5 encN l),(14,.int .i64 l.length),(15,.int .i64 0)]) (by omega) (by omega) (fun r o h=>((hlt 0 []).num r o h).1) ⟨.same _,.same _,.same _,.same _,.same _,.same _,trivial⟩) ?_;refine Ent.low (by omega) (fun _ _ h=>h) (zk5 ok2 (hlt 0 [])) ?_
  refine⟨⟨rfl,?_⟩,⟨rfl,?_⟩,⟨rfl,?_⟩,⟨rfl,?_⟩,⟨rfl,?_⟩,⟨rfl,?_⟩,trivial⟩<;>simp[AV.lt1,AV.lt0,encL]
 ·
  rintro⟨i,γ2⟩ ⟨hi,ok2,sx2⟩ wf;simp only at hi ok2 sx2 ⊢;clear wf;unfold zdv;have hs0:PostP 1 p (za3 p):=PostP.add p _;have hq:=hs0.trans (zrr p.st.length (l.take i) (za3 p) [])
  have hst0:(za3 p).st.length=p.st.length+1:=by simp[za3,addP]
  have htl:=zvW p.st.length (l.take i) (za3 p) [] 0 (by omega) (by unfold tlen za3 addP;simp);have hen:=zvb p.st.length (l.take i) (za3 p) [] (fun k hk=>by cases hk);rw[Wac,Nat.min_eq_left hi,WR] at htl;rw[Wac,Nat.min_eq_left hi,List.length_nil,WR] at hen
  by_cases hl:i < l.length
  ·
   have hbt:=zBC (at':=p.st.length) (p:=za3 p) (ends:=[]) hl;generalize brP p.st.length (l.take i) (za3 p) []=R at *;obtain⟨q,ends⟩:=R;simp only at hq htl hen ok2 hbt ⊢;obtain⟨s,lst,hs,hto,hll⟩:=zAX htl;have hat:=(Ws.1 hs).1;have hsz:=zlE hl;have hszl:=zl7 l;have hpos:=znQ l[i];have hlen:=hq.len;have hg2:=hq.got;have hlp2:=hq.lp.1;have hlk:=hq.keep.len
   have hstg:(stC γ2.gt q.st).getD p.st.length []=[.int .i64 s.kind,.int .i64 s.block,.own 5 (p.st.length+1) (γ2.gt p.st.length) 0 i]:=by
    have e:q.st[p.st.length]=s:=by rw[Wj hat] at hs;exact Option.some.inj hs
    rw[zrk hat,e,cS,hto,toV,hll]
   have htl2:γ2.tl p.st.length=lst:=ok2.to _ hat _ (by rw[Wj hat] at hs;rw[Option.some.inj hs];exact hto)
   have hfi:(fi cI M γ2.tl γ2.gt)[p.st.length]? = some (lst.map cI,γ2.gt p.st.length):=by rw[zkN (by omega),htl2]
   have htk:(lst.map cI).take i=lst.map cI:=WH (by simp;omega);have hslen:(stC γ2.gt q.st).length=q.st.length:=zcx;have hT2:=(hlt i ends).put 5 [encN l[i]] (zhS (fun c hc=>by rw[Wc.1 hc];exact zd));obtain⟨m0,m1,m2,m3,m4,m5,m6,m7⟩:=ne8 (show 8≤N1+1 by omega);obtain⟨v0,v1,v2,v3,v4,v5,v6,v7⟩:=ne8 (show 8≤N1+1+1 by omega);have t1:=hT1.put1 (show N1 < N1+1 by omega);have t2:=hT1.put2 (show N1 < N1+1 by omega) (show N1+1 < N1+1+1 by omega);simp only[cH]
   (repeat first|simp(disch:=try exact dis1) only[evD,Nat.reduceBEq,Nat.reduceAdd,Nat.reduceLeDiff,dT,dF,fldP,n0,n1,n2,n3,n4,n5,n6,n7,m0,m1,m2,m3,m4,m5,m6,m7,v0,v1,v2,v3,v4,v5,v6,v7,t1,t2,tN,zK,zT,zpB,zp hl,zb1,zbp,hstg,hfi,htk,hslen,Wd]|with_reducible first|intro _|refine aJ ?_)
   refine zgD (fun _:Unit=>([(0,.ptr 0 0 0 0 0),(4,.int .i64 p.st.length),(5,.own N1 0 i 0 i),(7,.ptr (N1+1) 0 0 0 0),(13,encL 5 encN l),(14,.int .i64 l.length),(15,.int .i64 i)],cH M (appTo q p.st.length q.st.length) (appG γ2 p.st.length lst q.st.length) ((T.put N1 (.row 1 (ends.map cI) i)).put (N1+1) (.row 5 [encN l[i]] 0)))) (N1+1+1) (fun _=>True) ?_ ?_
   ·
    (refine Qa ?_;intros)
    refine za4 (zgH (by rfl) (by rfl) (by simp[zcx]) (by omega)) ?_
    (repeat first|simp(disch:=try exact dis1) only[evD,Nat.reduceBEq,Nat.reduceAdd,Nat.reduceLeDiff,dT,dF,fldP,n0,n1,n2,n3,n4,n5,n6,n7,m0,m1,m2,m3,m4,m5,m6,m7,v0,v1,v2,v3,v4,v5,v6,v7,t1,t2,tN,zK,zT,zpB,zp hl,zb1,zbp,hstg,hfi,htk,hslen,Wd,zzp]|with_reducible first|intro _|refine aJ ?_)
    (repeat' apply Wl)
    all_goals try omega
    all_goals (refine⟨(),Ent.low (by omega) ?_ (zk5 (ztd ok2 _ hs hto) hT2) ?_⟩)
    all_goals first
     | (
       rw[zB3 hs hto,hll]
       exact zu (zu (zu (zu (zu (zu (zu (zu (fun x o h=>by
       have:=hT2.num x o h;rw[AH.look_put,if_neg (by omega)]
       exact h))))))))
       done)
     | (refine⟨⟨rfl,?_⟩,⟨rfl,?_⟩,⟨rfl,?_⟩,⟨rfl,?_⟩,⟨rfl,?_⟩,⟨rfl,?_⟩,⟨rfl,?_⟩,trivial⟩<;>simp[AV.lt1,AV.lt0,encL]<;>omega)
   ·
    rintro⟨⟩ _ wf;clear wf;simp only;unfold zdp;have ok3:=ztd ok2 (q.st.length:Int) hs hto;have hpa:=PostP.appTo q p.st.length q.st.length;have hlen3:=hpa.len;have hg3:=hpa.got;have hlp3:=hpa.lp.1;have hlq:LpOk (appTo q p.st.length q.st.length):=hpa.ok (hq.ok hlp);have hs1:=zly hst l[i] (Wm hl);rw[zo6 (hlp3.trans hlp2).symm] at hs1;have sx3:zkn p.lp.length γ (appG γ2 p.st.length lst q.st.length):=sx2
    have hst3:(appTo q p.st.length q.st.length).st.length=q.st.length:=by simp[appTo]
    generalize appTo q p.st.length q.st.length=q3 at *;generalize appG γ2 p.st.length lst q.st.length=γ3 at *;simp only[cH]
    (repeat first|simp(disch:=try exact dis1) only[evD,Nat.reduceBEq,Nat.reduceAdd,Nat.reduceLeDiff,dT,dF,fldP,n0,n1,n2,n3,n4,n5,n6,n7,m0,m1,m2,m3,m4,m5,m6,m7,t1,t2,tN,zK,zT,zpB,zp hl,zb1,zbp,Wd]|with_reducible first|intro _|refine aJ ?_)
    refine(hn l[i] (Wm hl) q3 γ3 ((T.put N1 (.row 1 (ends.map cI) i)).put (N1+1) (.row 5 [encN l[i]] 0)) (N1+1+1) ok3 hlq hT2 (by omega) (by omega) (by omega) hs1).mono ?_;rintro x H N3 ⟨hN3,γ4,ok4,sx4,rfl⟩
    (refine Qa ?_;intros)
    have hlp4:=(zcc l[i] q3).len;refine(zc4 M (zaR l[i] q3) γ4 ((T.put N1 (.row 1 (ends.map cI) i)).put (N1+1) (.row 5 [encN l[i]] 0)) N3 0 ok4 (hT2.up hN3) (by omega) hM).mono ?_;rintro x H N4 ⟨hN4,rfl,ok5,rfl⟩;obtain⟨w0,w1,w2,w3,w4,w5,w6,w7⟩:=ne8 (show 8≤N4 by omega);have y1:((T.put N1 (.row 1 (ends.map cI) i)).put (N1+1) (.row 5 [encN l[i]] 0)).look N4=none:=hT2.none (by omega)
    have y2:∀o,(((T.put N1 (.row 1 (ends.map cI) i)).put (N1+1) (.row 5 [encN l[i]] 0)).put N4 o).look N1=some (.row 1 (ends.map cI) i):=fun o=>by rw[AH.look_put,if_neg (by omega),AH.look_put,if_neg (by omega),zT]
    have hel:(ends.map cI).take i=ends.map cI:=WH (by simp;omega)
    have hell:(ends.map cI).length=i:=by simp;omega
    simp only[cH]
    (repeat first|simp(disch:=try exact dis1) only[evD,Nat.reduceBEq,Nat.reduceAdd,Nat.reduceLeDiff,dT,dF,n0,n1,n2,n3,n4,n5,n6,n7,w0,w1,w2,w3,w4,w5,w6,w7,y1,y2,zK,zT,hel,hell]|with_reducible first|intro _|refine aJ ?_)
    have ok6:OkC (brP p.st.length (l.take (i+1)) (za3 p) []).1 (zhR γ4 (zaR l[i] q3).st.length [0]):=by rw[hbt];exact ok5
    refine⟨(i+1,zhR γ4 (zaR l[i] q3).st.length [0]),⟨hl,ok6,sx3.trans sx4 (by omega)⟩,by omega,Ent.low (by omega) ?_ (zk5 ok6 (hlt _ _)) ?_⟩
    ·
     simp only;rw[hbt];simp only[WD,WL,WM,cH]
     exact zu (zu (zu (zu (zu (zu (zu (zu (fun x o h=>by
      rw[AH.look_put] at h ⊢
      by_cases hx:x=N1
      · rw[if_pos hx] at h ⊢;exact h
      ·
       rw[if_neg hx] at h ⊢;have:=hT1.num x o h;rw[AH.look_put,if_neg (by omega),AH.look_put,if_neg (by omega),AH.look_put,if_neg hx]
       exact h))))))))
    · refine⟨⟨rfl,?_⟩,⟨rfl,?_⟩,⟨rfl,?_⟩,⟨rfl,?_⟩,⟨rfl,?_⟩,⟨rfl,?_⟩,trivial⟩<;>simp[AV.lt1,AV.lt0,encL]
  ·
   have hi2:i=l.length:=by omega
   subst hi2;rw[Wx] at hq htl hen ok2 ⊢;generalize brP p.st.length l (za3 p) []=R at *;obtain⟨q,ends⟩:=R;simp only at hq htl hen ok2 ⊢;have hszl:=zl7 l;have hlen:=hq.len;simp only[cH]
   (refine Qk ?_;intros)
   unfold zdx
   (refine Qa ?_;intros)
   refine zq (fun s:Nat × Gn=>([(0,.ptr 0 0 0 0 0),(47,.own N1 0 l.length 0 l.length),(48,.int .i64 l.length),(49,.int .i64 s.1)],cH M (putAll q (ends.take s.1) q.st.length) s.2 (T.put N1 (.row 1 (ends.map cI) l.length)))) (N1+1)
    (fun s=>s.1≤l.length∧OkC (putAll q (ends.take s.1) q.st.length) s.2∧zkn p.lp.length γ s.2) (fun s=>l.length - s.1) (0,γ2) ⟨Wv _,ok2,sx2⟩ ?_ ?_
   ·
    refine Ent.low (by omega) (fun _ _ h=>h) (zk5 ok2 (hlt _ _)) ?_
    refine⟨⟨rfl,?_⟩,⟨rfl,?_⟩,⟨rfl,?_⟩,⟨rfl,?_⟩,trivial⟩<;>simp[AV.lt1,AV.lt0,encL]
   ·
    rintro⟨j,γ3⟩ ⟨hj,ok3,sx3⟩ wf;simp only at hj ok3 sx3 ⊢;clear wf;unfold zdw;have hkp:=zco (ends.take j) q q.st.length;have hkl:=zeN (ends.take j) q q.st.length
    by_cases hl:j < l.length
    ·
     have hje:j < ends.length:=by omega
     have hpt:=zpA (q:=q) (v:=q.st.length) hje;have hek:=hen.1 ends[j] (Wm hje);generalize putAll q (ends.take j) q.st.length=r at *;obtain⟨hk,lst,h1,h2,h3,h4⟩:=ziH (M:=M) ok3 (hkp.to _ _ hek.2) (by omega);have hge:(ends.map cI).getD j []=[.int .i64 ends[j]]:=zp (f:=cI) hje;have hnn:(ends[j].toNat:Int)=ends[j]:=Wad hek.1;generalize ends[j].toNat=k at *;rw[←hnn] at hge;clear hnn hek;have hslen:(stC γ3.gt r.st).length=r.st.length:=zcx
     have hell:(ends.map cI).length=l.length:=by simp;omega
     have htll:((γ3.tl k).map cI).length=lst.length:=by rw[WV,h1]
     simp only[cH]
     (repeat first|simp(disch:=try exact dis1) only[evD,Nat.reduceBEq,Nat.reduceAdd,Nat.reduceLeDiff,dT,dF,n0,n1,n2,n3,n4,n5,n6,n7,zK,zT,hge,hell,h3,h4,hslen,htll,Wd]|with_reducible first|intro _|refine aJ ?_)
     refine za4 (zgH (by rfl) (by rfl) (by simp[zcx]) (by omega)) ?_
     have hpos:0 < lst.length:=by omega
     (repeat first|simp(disch:=try exact dis1) only[evD,Nat.reduceBEq,Nat.reduceAdd,Nat.reduceLeDiff,dT,dF,n0,n1,n2,n3,n4,n5,n6,n7,zK,zT,hge,hell,h3,h4,hslen,htll,Wd,WW,zrd]|with_reducible first|intro _|refine aJ ?_)
     have ok4:=zlN ok3 k 0 (q.st.length:Int);refine⟨(j+1,setG γ3 k 0 q.st.length),⟨hl,by rw[hpt];exact ok4,sx3⟩,by omega,Ent.low (by omega) ?_ (zk5 (by rw[hpt];exact ok4) (hlt _ _)) ?_⟩
     · intro x o hx;have hx2:(cH M (putAll q (ends.take (j+1)) q.st.length) (setG γ3 k 0 q.st.length) (T.put N1 (.row 1 (ends.map cI) l.length))).look x=some o:=hx;rw[hpt,zq9] at hx2;rw[hkl];rw[hkl] at hx2;exact hx2
     · refine⟨⟨rfl,?_⟩,⟨rfl,?_⟩,⟨rfl,?_⟩,⟨rfl,?_⟩,trivial⟩<;>simp[AV.lt1,AV.lt0,encL]
    ·
     have hj2:j=ends.length:=by omega
     subst hj2;rw[Wx] at ok3 ⊢;simp only[cH]
     (repeat first|simp(disch:=try exact dis1) only[evD,Nat.reduceBEq,Nat.reduceAdd,Nat.reduceLeDiff,dF,zeF]|with_reducible first|intro _|refine aJ ?_)
     exact⟨_,_,N1+1,zc6 (p:=putAll q ends q.st.length) (by omega) hT1 rfl,by omega,γ3,ok3,sx3,rfl⟩
def zsa (γ:Gn) (n:Nat) (top:Int):Gn:={ γ with gl:=γ.gl+1,s2:=[],gx:=updF γ.gx n (γ.gx n+1),xl:=updF γ.xl n [(top,.nilsl)] }
theorem zCp {p:PC} {γ:Gn} (hok:OkC p γ) (top:Int):OkC (zbu p top) (zsa γ p.lp.length top):=by
 refine⟨hok.to,fun d hd=>?_,fun c hc=>(by cases hc),fun d x hx=>?_⟩
 ·
  have hd':d < p.lp.length+1:=by simpa [zbu] using hd
  have e:(zbu p top).lp[d]=(p.lp++[(top,[])])[d]'(by simpa using hd'):=rfl;rw[e];simp only[zsa]
  by_cases h:d=p.lp.length
  · subst h;rw[zbo];simp
  · rw[zdD h];simp only[Wy (show d < p.lp.length by omega)];exact hok.lp d (by omega)
 ·
  simp only[zsa] at hx
  by_cases h:d=p.lp.length
  · subst h;rw[zbo] at hx;rw[Wc.1 hx];rfl
  · rw[zdD h] at hx;exact hok.xl d x hx
theorem zvy {gx:Nat→Nat} {n g:Nat}:lpC (updF gx n g) (n+1)=lpC gx n++[[.ptr 6 (n+1) g 0 0]]:=by
 unfold lpC;rw[List.range_succ,WD,WU,zbo]
 congr 1
 refine List.map_congr_left fun d hd=>?_
 rw[zdD (by have:=List.mem_range.1 hd;omega)]
theorem zyB {gx:Nat→Nat} {n:Nat}:lpC gx (n+1)=lpC gx n++[[.ptr 6 (n+1) (gx n) 0 0]]:=by
 have:=zvy (gx:=gx) (n:=n) (g:=gx n)
 rwa [zoF] at this
theorem zAs {B nx M:Nat} {p:PC} {γ:Gn} {T:AH} {N N2:Nat} {top:Int} {o:AObj} {K K2:Kn} (hB:B≤nx) (hT:TailOk N T) (hN:N < N2) (hl:p.lp.length < M) (hK:zqg (some N) 6 (p.lp.length+1) (γ.gx p.lp.length+1) K2 K) :
  Ent B K ((0,.row 4 [[.own 1 0 γ.gs 0 p.st.length,.own 2 0 (γ.gl+1) 0 (p.lp.length+1),.mp 3 0,.mp 4 0]] 0)::(1,.row 3 (stC γ.gt p.st) γ.gs)::(2,.row 1 (lpC γ.gx p.lp.length++[[.ptr N 0 0 0 0]]) (γ.gl+1))::(3,.row 3 (mpC p.lab) 0)::(4,.row 3 (mpC p.got) 0) ::
   (5,.fam 1 (fi cI M γ.tl γ.gt))::(6,.fam 2 (fi cX M γ.xl γ.gx))::(7,.fam 1 (fi cI M γ.bl γ.gb))::(T.put N (.row 2 [[.int .i64 top,.nilsl]] 0)).put N2 o) nx K2 (cH M (zbu p top) (zsa γ p.lp.length top) T) nx:=by
 have h8:=hT.eight;refine Ent.adoptF (c:=cX) (F:=6) (k:=p.lp.length) (m:=M) (sz:=2) (ll:=γ.xl) (gs:=γ.gx) (l:=[(top,.nilsl)]) (some N) hB hl rfl ?_ (by simp) ?_ hK
 · rintro x ⟨rfl⟩;refine⟨by omega,?_⟩;rw[zh6 (by omega),AH.look_put,if_neg (by omega)];exact zT
 ·
  intro x o2 h
  match x with
  | 0=>cases h;exact⟨fun m e=>by cases e;omega,.inr ⟨by omega,_,rfl,by simp only[zbu,zsa,Wf,Wg];exact .same _⟩⟩
  | 1=>cases h;exact⟨fun m e=>by cases e;omega,.inr ⟨by omega,_,rfl,.same _⟩⟩
  |
   2 =>
   cases h;refine⟨fun m e=>by cases e;omega,.inr ⟨by omega,_,rfl,?_⟩⟩;simp only[zbu,zsa,Wf,Wg,zvy,List.append_nil];refine .row 1 (lpC γ.gx p.lp.length++[[.ptr N 0 0 0 0]]) _ _ (RowA.app (RowA.cons ?_ (RowA.refl _)) _);exact⟨.ptr _ _ _ rfl,trivial⟩
  | 3=>cases h;exact⟨fun m e=>by cases e;omega,.inr ⟨by omega,_,rfl,.same _⟩⟩
  | 4=>cases h;exact⟨fun m e=>by cases e;omega,.inr ⟨by omega,_,rfl,.same _⟩⟩
  | 5=>cases h;exact⟨fun m e=>by cases e;omega,.inr ⟨by omega,_,rfl,.same _⟩⟩
  | 6=>cases h;exact⟨fun m e=>by cases e;omega,.inl ⟨rfl,rfl⟩⟩
  | 7=>cases h;exact⟨fun m e=>by cases e;omega,.inr ⟨by omega,_,rfl,.same _⟩⟩
  |
   x+8 =>
   rw[zjQ (by omega)] at h;have hx:=hT.num _ _ h;refine⟨fun m e=>by cases e;omega,.inr ⟨by omega,o2,?_,.same _⟩⟩;rw[zh6 (by omega),AH.look_put,if_neg (by omega),AH.look_put,if_neg (by omega)];exact h
def befP (b:Option Int) (p:PC):PC:=match b with
 | none=>p
 | some b=>zeV p b
def zqs (b:Option Int) (p:PC):Int:=match b with
 | none => -1
 | some _=>((p.st.length+1:Nat):Int)
theorem zuS {M:Nat} {p:PC} {γ:Gn} {T:AH} {N:Nat} {b:Option Int} {fv:AV} {k:AV→AH→Nat→Prop} (hok:OkC p γ) (hT:TailOk N T) (hl:p.st.length+2≤M) (hM:M≤1000000)
  (hfv:match b with|none=>fv=.fn (.func zbM) []|some b=>∃rc c,fv=.fn (.func zbI) [.ptr rc 0 0 0 0,.iptr 5 c]∧T.look rc=some (.row 1 [[.ptr 0 0 0 0 0]] 0)∧c 1=.int .i64 b)
  (hk:∀γ' nx,N≤nx→OkC (befP b p) γ'→γ'.gx=γ.gx→k (.int .i64 (zqs b p)) (cH M (befP b p) γ' T) nx):zkO Tryz.prog fv [] (cH M p γ T) N k:=by
 cases b with
 |
  none =>
  simp only at hfv;subst hfv;refine⟨by kernel_rfl,(zo8 _ _).mono ?_⟩;rintro v H nx ⟨rfl,rfl,rfl⟩;exact hk γ _ (Wa _) hok rfl
 |
  some b =>
  obtain⟨rc,c,rfl,h1,h2⟩:=hfv;refine⟨by kernel_rfl,(zov M p γ T N rc b c hok hT hl hM h1 h2).mono ?_⟩;rintro v H nx ⟨h3,rfl,γ',h4,h5,rfl⟩;exact hk γ' nx h3 h4 h5
theorem zyV (b:Option Int) (l:List Nd) (p:PC):zr3 b l p=match b with
  | none=>zea (zaO l (zbu (befP b p) p.st.length)) p.st.length
  | some _=>setTo (zea (zaO l (zbu (befP b p) p.st.length)) p.st.length) (p.st.length+1) 1 ((zea (zaO l (zbu (befP b p) p.st.length)) p.st.length).st.length:Int):=by
 cases b<;>rfl
def popG (γ:Gn) (n:Nat):Gn:={ γ with s2:=[.ptr 6 (n+1) (γ.gx n) 0 0]::γ.s2 }
theorem pop_H {M:Nat} {q:PC} {γ:Gn} {T:AH} {n:Nat} (hn:q.lp.length=n+1):cH M { q with lp:=q.lp.dropLast } (popG γ n) T =
  (0,.row 4 [[.own 1 0 γ.gs 0 q.st.length,.own 2 0 γ.gl 0 n,.mp 3 0,.mp 4 0]] 0)::(1,.row 3 (stC γ.gt q.st) γ.gs)::(2,.row 1 (lpC γ.gx q.lp.length++γ.s2) γ.gl)::(3,.row 3 (mpC q.lab) 0)::(4,.row 3 (mpC q.got) 0) ::
   (5,.fam 1 (fi cI M γ.tl γ.gt))::(6,.fam 2 (fi cX M γ.xl γ.gx))::(7,.fam 1 (fi cI M γ.bl γ.gb))::T:=by
 unfold cH popG;simp only[W8,hn,Nat.add_sub_cancel,zyB,List.append_assoc,List.singleton_append]
theorem pop_ok {q:PC} {γ:Gn} {n:Nat} (hok:OkC q γ) (hn:q.lp.length=n+1):OkC { q with lp:=q.lp.dropLast } (popG γ n):=by
 refine⟨hok.to,fun d hd=>?_,fun c hc=>?_,hok.xl⟩
 ·
  have hd':d < n:=by simpa [hn] using hd
  have h:=hok.lp d (by omega)
  have e:({ q with lp:=q.lp.dropLast }:PC).lp[d]=q.lp[d]:=by simp[List.getElem_dropLast]
  rw[e];exact h
 ·
  rcases WC.1 hc with rfl|hc
  · rfl
  · exact hok.s2 c hc
theorem zAn {l:List (Int × List Int)} {n:Nat} (hn:l.length=n+1):topL l=l[n].1:=by unfold topL;rw[WF,show l.length - 1=n by omega,Wj (by omega)]
theorem zu2 {l:List (Int × List Int)} {n:Nat} (hn:l.length=n+1):brkL l=l[n].2:=by unfold brkL;rw[WF,show l.length - 1=n by omega,Wj (by omega)]
theorem zn5 (M:Nat) (hM:M≤1000000) (l:List Nd) (hall:zrm M l):zqZ M l:=by
 intro p γ T N b fv hok hlp hT hl1 hl2 hgot hst hfv;refine zan (fn_x zl3 rfl ?_);unfold zhz;have hB:=hBig;have h8:=hT.eight;obtain⟨n0,n1,n2,n3,n4,n5,n6,n7⟩:=ne8 hT.eight;have tN:T.look N=none:=hT.none (Wa _);simp only[cH]
 (refine Qa ?_;intros)
 refine zh (zgH (by rfl) (by rfl) (by simp[zcx]) (by omega)) ?_
 (repeat first|simp(disch:=try exact dis1) only[evD,Nat.reduceBEq,Nat.reduceAdd,Nat.reduceLeDiff,n0,n1,n2,n3,n4,n5,n6,n7,tN]|with_reducible first|intro _|refine aJ ?_)
 have hT1:=hT.put 2 [[.int .i64 p.st.length,.nilsl]] (zhS (by simp[zA,AV.flat0]));refine zuS (b:=b) hok hT1 (by omega) hM ?_ ?_
 ·
  cases b with
  | none=>exact hfv
  |
   some b =>
   obtain⟨rc,c,h1,h2,h3⟩:=hfv;refine⟨rc,c,h1,?_,h3⟩;rw[AH.look_put,if_neg (by have:=(hT.num _ _ h2).2;omega)];exact h2
 intro γ1 N2 hN2 ok1 gx1
 have hb1:PostP 2 p (befP b p):=by
  cases b with
  | none=>exact(PostP.refl p).mono (by omega)
  | some b=>exact(PostP.add p _).trans (PostP.add _ _)
 rw[zyV]
 have hlv:∀x,b=some x→zkq (befP b p) (p.st.length+1) 2:=fun x hx=>by subst hx;exact⟨⟨1,0,some [((p.st.length+2:Nat):Int),0]⟩,[((p.st.length+2:Nat):Int),0],by simp[befP,zeV,addP,WG],rfl,by simp⟩
 have hlen1:=hb1.len;have hgot1:=hb1.got;have hkl1:=hb1.keep.len;have hsl1:=hb1.lp.1;have hlp1:=hb1.ok hlp;generalize hp1:befP b p=p1 at *;obtain⟨m0,m1,m2,m3,m4,m5,m6,m7⟩:=ne8 (show 8≤N2 by omega);have t2:=hT.put1 (show N < N2 by omega)
 have htk:(lpC γ1.gx p1.lp.length++γ1.s2).take p1.lp.length=lpC γ1.gx p1.lp.length:=by rw[List.take_append_of_le_length (by simp[lpC])];exact WH (by simp[lpC])
 have hll:p1.lp.length≤(lpC γ1.gx p1.lp.length++γ1.s2).length:=by simp[lpC]
 simp only[cH]
 (repeat first|simp(disch:=try exact dis1) only[evD,Nat.reduceBEq,Nat.reduceAdd,Nat.reduceLeDiff,dT,dF,m0,m1,m2,m3,m4,m5,m6,m7,t2,zK,zT,htk,hll]|with_reducible first|intro _|refine aJ ?_)
 have hlT:TailOk N T:=hT;have okp:=zCp ok1 (p.st.length:Int)
 refine zph [(0,.ptr 0 0 0 0 0),(1,encL 5 encN l),(6,.ptr 6 (p1.lp.length+1) (γ1.gx p1.lp.length+1) 0 0),(7,.int .i64 (zqs b p))] (cH M (zbu p1 p.st.length) (zsa γ1 p1.lp.length p.st.length) T) N fun _=>⟨Ent.trans (zAs (K2:=[(0,.ptr 0 0 0 0 0),(1,encL 5 encN l),(6,.ptr 6 (p1.lp.length+1) (γ1.gx p1.lp.length+1) 0 0),(7,.int .i64 (zqs b p))]) (by omega) hT (by omega) (by omega) ⟨.same _,.same _,.ptr _ _ _ rfl,.same _,trivial⟩) (Ent.low (Wa _) (fun _ _ h=>h) (zk5 okp hT) ?_),?_⟩
 · refine⟨⟨rfl,?_⟩,⟨rfl,?_⟩,⟨rfl,?_⟩,⟨rfl,?_⟩,trivial⟩<;>simp[AV.lt1,AV.lt0,encL]<;>omega
 unfold zfm;simp only[cH]
 (refine Qa ?_;intros)
 have hpl:(zbu p1 p.st.length).lp.length=p1.lp.length+1:=by simp[zbu]
 have hne:(!(zbu p1 p.st.length).lp.isEmpty)=true:=by simp[zbu]
 have hps:(zbu p1 p.st.length).st.length=p1.st.length:=rfl;have hpb:(zbu p1 p.st.length).lab.length=p1.lab.length:=rfl;have hpg:(zbu p1 p.st.length).got.length=p1.got.length:=rfl;refine(hall (zbu p1 p.st.length) _ T N okp (zrY hlp1 _) hT (by omega) (by omega) (by omega) (by rw[hne];exact hst)).mono ?_;rintro x H N3 ⟨hN3,γ3,ok3,sx3,rfl⟩;have hq:=zbZ l (zbu p1 p.st.length);have hcl:=PostP.loop (top:=(p.st.length:Int)) hq;generalize hqd:zaO l (zbu p1 p.st.length)=q at *;have hgn:γ3.gx p1.lp.length=γ1.gx p1.lp.length+1:=(sx3 p1.lp.length (by omega)).trans zbo
 have hqn:q.lp.length=p1.lp.length+1:=by rw[hq.lp.1,hpl]
 obtain⟨hclp,hdrop,hqne⟩:=hcl;have hxl:=(ok3.lp p1.lp.length (by omega)).1;have hbl:=(ok3.lp p1.lp.length (by omega)).2
 have htop:q.lp[p1.lp.length].1=(p.st.length:Int):=by rw[←zAn hqn,hq.lp.2.2];simp[topL,zbu]
 rw[htop,←zu2 hqn] at hxl;rw[←zu2 hqn] at hbl;have hfi:(fi cX M γ3.xl γ3.gx)[p1.lp.length]? = some ((γ3.xl p1.lp.length).map cX,γ3.gx p1.lp.length):=zkN (by omega);rw[hxl,hgn] at hfi;have hbrk:=hq.ok (zrY hlp1 _) _ (zz5 hqne)
 have e1:((q.lp.length:Int) - 1).toNat=p1.lp.length:=by omega
 have e2:(0:Int)≤(q.lp.length:Int) - 1:=by omega
 simp only[cH]
 have e3:((q.lp.length:Int) - 1 - 0).toNat=p1.lp.length:=by omega
 (repeat first|simp(disch:=try exact dis1) only[evD,Nat.reduceBEq,Nat.reduceAdd,Nat.reduceLeDiff,dT,dF,hfi,e1,e2,e3,WW,cX,WL,WM]|with_reducible first|intro _|refine aJ ?_)
 rw[←pop_H hqn];have hqs:=hq.len;refine(zc4 M { q with lp:=q.lp.dropLast } (popG γ3 p1.lp.length) T N3 p.st.length (pop_ok ok3 hqn) (hT.up hN3) (by simp only;omega) hM).mono ?_;rintro x H N4 ⟨hN4,rfl,ok4,rfl⟩;have hcd:zea q p.st.length=putAll (zaM { q with lp:=q.lp.dropLast } p.st.length) (brkL q.lp) ((zaM { q with lp:=q.lp.dropLast } p.st.length).st.length:Int):=rfl;have kq:Keep q (zaM { q with lp:=q.lp.dropLast } p.st.length):=Keep.trans (Keep.of_st (q:={ q with lp:=q.lp.dropLast }) rfl) (zb3 _ _)
 have kql:(zaM { q with lp:=q.lp.dropLast } p.st.length).st.length=q.st.length+1:=by simp[zaM,addP]
 have sx4:zkn p.lp.length γ (zhR (popG γ3 p1.lp.length) q.st.length [(p.st.length:Int)]):=fun d hd=>by have h1:=sx3 d (by omega);show γ3.gx d=γ.gx d;rw[h1];simp only[zsa];rw[zdD (by omega),gx1]
 have h4x:(zhR (popG γ3 p1.lp.length) q.st.length [(p.st.length:Int)]).xl=γ3.xl:=rfl;have h4g:(zhR (popG γ3 p1.lp.length) q.st.length [(p.st.length:Int)]).gx=γ3.gx:=rfl;have h4b:(zhR (popG γ3 p1.lp.length) q.st.length [(p.st.length:Int)]).bl=γ3.bl:=rfl;have h4c:(zhR (popG γ3 p1.lp.length) q.st.length [(p.st.length:Int)]).gb=γ3.gb:=rfl;simp only at ok4 ⊢;generalize zhR (popG γ3 p1.lp.length) q.st.length [(p.st.length:Int)]=γ4 at *;rw[hcd] at hclp ⊢;rw[←h4x,←h4g] at hfi;generalize zaM { q with lp:=q.lp.dropLast } p.st.length=q1 at *;generalize hbk:brkL q.lp=brk at *;generalize hW:(if brk=[] then AV.nilsl else .own 7 (p1.lp.length+1) (γ3.gb p1.lp.length) 0 brk.length)=W at *;have hbrk1:brk.length≤q.st.length:=hbrk.1;have hbrk2:∀k∈brk,0≤k∧zkq q k.toNat 1:=hbrk.2;clear hbrk
 have hlenW:∀H nx,lenR W H nx=⟨True,True,.int .i64 brk.length,H,nx⟩:=fun H nx=>by
  rw[←hW];split
  · rename_i e;rw[e];rfl
  · have:(brk.length≤9223372036854775807)=True:=eq_true (by omega);simp only[lenR,this]
 simp only[cH]
 (repeat first|simp(disch:=try exact dis1) only[evD,Nat.reduceBEq,Nat.reduceAdd,Nat.reduceLeDiff,dT,dF,hfi,hlenW,cX,WL,WM]|with_reducible first|intro _|refine aJ ?_)
 have hWlt:W.lt1 N=true:=by
  rw[←hW];split
  · rfl
  · simp[AV.lt1,AV.lt0];omega
 refine zq (fun s:Nat × Gn=>([(0,.ptr 0 0 0 0 0),(7,.int .i64 (zqs b p)),(52,W),(53,.int .i64 brk.length),(54,.int .i64 s.1)],cH M (putAll q1 (brk.take s.1) q1.st.length) s.2 T)) N
  (fun s=>s.1≤brk.length∧OkC (putAll q1 (brk.take s.1) q1.st.length) s.2∧zkn p.lp.length γ s.2∧s.2.bl=γ3.bl∧s.2.gb=γ3.gb) (fun s=>brk.length - s.1) (0,γ4) ⟨Wv _,ok4,sx4,h4b,h4c⟩ ?_ ?_
 ·
  refine Ent.low (by omega) (fun _ _ h=>h) (zk5 ok4 hT) ?_
  refine⟨⟨rfl,?_⟩,⟨rfl,?_⟩,⟨rfl,hWlt⟩,⟨rfl,?_⟩,⟨rfl,?_⟩,trivial⟩<;>simp[AV.lt1,AV.lt0]
  omega
 ·
  rintro⟨j,γ5⟩ ⟨hj,ok5,sx5,h5b,h5c⟩ wf;simp only at hj ok5 sx5 h5b h5c ⊢;clear wf;unfold zfo;have hkp:=zco (brk.take j) q1 q1.st.length;have hkl:=zeN (brk.take j) q1 q1.st.length
  by_cases hl:j < brk.length
  ·
   have hne':brk≠[]:=fun e=>by rw[e] at hl;simp at hl
   rw[if_neg hne'] at hW;have hpt:=zpA (q:=q1) (v:=q1.st.length) hl;have hek:=hbrk2 brk[j] (Wm hl);generalize putAll q1 (brk.take j) q1.st.length=r at *;obtain⟨hk,lst,h1,h2,h3,h4⟩:=ziH (M:=M) ok5 (hkp.to _ _ (kq.to _ _ hek.2)) (by omega)
   have hfb:(fi cI M γ5.bl γ5.gb)[p1.lp.length]? = some (brk.map cI,γ5.gb p1.lp.length):=by rw[zkN (by omega),h5b,hbl hne']
   have hge:(brk.map cI).getD j []=[.int .i64 brk[j]]:=zp (f:=cI) hl;have hnn:(brk[j].toNat:Int)=brk[j]:=Wad hek.1;generalize brk[j].toNat=k at *;rw[←hnn] at hge;clear hnn hek;have hslen:(stC γ5.gt r.st).length=r.st.length:=zcx
   have hell:(brk.map cI).length=brk.length:=by simp
   have htll:((γ5.tl k).map cI).length=lst.length:=by rw[WV,h1]
   have hpos:0 < lst.length:=by omega
   rw[←hW,←h5c];simp only[cH]
   (repeat first|simp(disch:=try exact dis1) only[evD,Nat.reduceBEq,Nat.reduceAdd,Nat.reduceLeDiff,dT,dF,hge,hell,h3,h4,hfb,hslen,htll,Wd]|with_reducible first|intro _|refine aJ ?_)
   refine za4 (zgH (by rfl) (by rfl) (by simp[zcx]) (by omega)) ?_
   (repeat first|simp(disch:=try exact dis1) only[evD,Nat.reduceBEq,Nat.reduceAdd,Nat.reduceLeDiff,dT,dF,hge,hell,h3,h4,hfb,hslen,htll,Wd,WW,zrd]|with_reducible first|intro _|refine aJ ?_)
   have ok6:=zlN ok5 k 0 (q1.st.length:Int);refine⟨(j+1,setG γ5 k 0 q1.st.length),⟨hl,(by rw[hpt];exact ok6),sx5,h5b,rfl⟩,by omega,Ent.low (by omega) ?_ (zk5 (by rw[hpt];exact ok6) hT) ?_⟩
   · intro x o hx;have hx2:(cH M (putAll q1 (brk.take (j+1)) q1.st.length) (setG γ5 k 0 q1.st.length) T).look x=some o:=hx;rw[hpt,zq9] at hx2;rw[hkl];rw[hkl] at hx2;exact hx2
   · refine⟨⟨rfl,?_⟩,⟨rfl,?_⟩,⟨rfl,?_⟩,⟨rfl,?_⟩,⟨rfl,?_⟩,trivial⟩<;>simp[AV.lt1,AV.lt0]<;>omega
  ·
   have hj2:j=brk.length:=by omega
   subst hj2;rw[Wx] at ok5 hkp hkl ⊢;simp only[cH]
   (refine Qk ?_;intros)
   unfold zfa
   cases b with
   |
    none =>
    simp only[zqs]
    (repeat first|simp(disch:=try exact dis1) only[evD,Nat.reduceBEq,Nat.reduceAdd,Nat.reduceLeDiff,dF,zdU]|with_reducible first|intro _|refine aJ ?_)
    exact⟨_,_,N,Ent.low (Wa _) (fun _ _ h=>h) (zk5 ok5 hT) (K2:=[(0,.tup [])]) ⟨⟨rfl,rfl⟩,trivial⟩,by omega,γ5,ok5,sx5,rfl⟩
   |
    some b0 =>
    have hlv2:=hclp.keep.to _ _ (hlv b0 rfl);have hlen2:=hclp.len;generalize putAll q1 brk q1.st.length=r at *;obtain⟨hk,lst,h1,h2,h3,h4⟩:=ziH (M:=M) ok5 hlv2 (by omega);have hslen:(stC γ5.gt r.st).length=r.st.length:=zcx
    have htll:((γ5.tl (p.st.length+1)).map cI).length=lst.length:=by rw[WV,h1]
    have hpos:1 < lst.length:=by omega
    have hki:(((p.st.length+1:Nat):Int)).toNat=p.st.length+1:=Wd _;simp only[zqs]
    (repeat first|simp(disch:=try exact dis1) only[evD,Nat.reduceBEq,Nat.reduceAdd,Nat.reduceLeDiff,dT,dF,h3,h4,hslen,htll,hki,Wd]|with_reducible first|intro _|refine aJ ?_)
    refine za4 (zgH (by rfl) (by rfl) (by simp[zcx]) (by omega)) ?_
    (repeat first|simp(disch:=try exact dis1) only[evD,Nat.reduceBEq,Nat.reduceAdd,Nat.reduceLeDiff,dT,dF,h3,h4,hslen,htll,Wd,Int.toNat_one,zrd,zdU]|with_reducible first|intro _|refine aJ ?_)
    have ok6:=zlN ok5 (p.st.length+1) 1 (r.st.length:Int);refine⟨.tup [],cH M (setTo r (p.st.length+1) 1 r.st.length) (setG γ5 (p.st.length+1) 1 r.st.length) T,N,Ent.low (Wa _) ?_ (zk5 ok6 hT) (K2:=[(0,.tup [])]) ⟨⟨rfl,rfl⟩,trivial⟩,by omega,_,ok6,sx5,rfl⟩;rw[zq9]
    exact fun _ _ h=>h
theorem zqn:∀ {l:List Nd} {e:Nd},e∈l→zaJ e≤zaj l
 | [],e,h=>by cases h
 |
  a::l,e,h=>by
  rw[zaj]
  rcases WC.1 h with rfl|h
  · omega
  · have:=zqn h;omega
theorem zq4 (M:Nat) (hM:M≤1000000):∀(k:Nat) (e:Nd),zaJ e≤k→zes M e:=by
 intro k
 induction k with
 | zero=>intro e h;have:=znQ e;omega
 |
  succ k ih =>
  rintro⟨f,c,l⟩ h;rw[zaJ] at h
  have hn:∀e∈l,zes M e:=fun e he=>ih e (by have:=zqn he;omega)
  exact zoM M hM f c l (zkC M hM l hn) (zlC M hM l hn) (zn5 M hM l (zkC M hM l hn))
theorem zsg {i:Nat} {sel:List Nat}:zs9 (.int .i64 i) (sel.map fun j:Nat=>[AV.int .i64 (j:Int)])=decide (i∈sel):=by
 unfold zs9;rw[Bool.eq_iff_iff,List.any_eq_true,decide_eq_true_eq];constructor
 ·
  rintro⟨s,hs1,hs2⟩;obtain⟨j,hj,rfl⟩:=Wh.1 hs1;simp only[decide_eq_true_eq] at hs2
  have:j=i:=by omega
  rw[←this];exact hj
 · intro h;exact⟨_,Wh.2 ⟨i,h,rfl⟩,by simp⟩
theorem zBZ {P:Program} {d:Option Nat} {rst:Rest} {drop:List Nat} {Q:QT} {K:Kn} {H:AH} {nx r rm qm:Nat} {since st:Int} {l:List (Int × Int)} {sel:List Nat}
  (hr:H.get r 0=some (.row 1 ([.mp rm qm]::[.int .i64 since]::[.int .i64 st]::sel.map fun i:Nat=>[.int .i64 (i:Int)]) 0)) (hm:H.get rm qm=some (.row 3 (mpC l) 0))
  (h1:since≤st) (h2:since=l.length)
  (h4:(∀i,i < l.length→i∈sel)→zaS P rst drop Q (setO K d (.tup [.bool false])) H nx)
  (h5:∀i (hi:i < l.length),i∉sel→zaS P rst drop Q (setO K d (.tup [.bool true,.int .i64 l[i].1,.int .i64 l[i].2])) (H.set r 0 (.row 1 ([.mp rm qm]::[.int .i64 since]::[.int .i64 l.length]::(sel++[i]).map fun i:Nat=>[.int .i64 (i:Int)]) 0)) nx) :
  zBg P (.it r) d rst drop Q K H nx:=by
 have mem:∀e,e∈zuT (sel.map fun i:Nat=>[.int .i64 (i:Int)]) (l.mapIdx cMp)↔∃i,∃hi:i < l.length,e=cMp i l[i]∧i∉sel:=fun e=>by
  unfold zuT;rw[List.mem_filter];constructor
  ·
   rintro⟨he,hb⟩;obtain⟨i,hi,rfl⟩:=Wt.1 he;refine⟨i,hi,rfl,?_⟩;simp only[cMp,WQ,WP,zsg] at hb
   simpa using hb
  ·
   rintro⟨i,hi,rfl,hb⟩;refine⟨Wt.2 ⟨i,hi,rfl⟩,?_⟩;simp only[cMp,WQ,WP,zsg]
   simpa using hb
 unfold zBg zkY;simp only;rw[hr];simp only;rw[hm];unfold mpC;simp only;refine⟨⟨trivial,trivial,trivial,trivial,h1,fun e he=>?_,fun s hs'=>?_⟩,fun hn=>h4 fun i hi=>?_,fun e he=>?_⟩
 · obtain⟨i,hi,rfl⟩:=Wt.1 he;exact⟨i,rfl,by omega⟩
 · obtain⟨i,_,rfl⟩:=Wh.1 hs';exact⟨i,rfl⟩
 ·
  refine Classical.byContradiction fun hc=>?_
  have:=(mem (cMp i l[i])).2 ⟨i,hi,rfl,hc⟩;rw[hn] at this;cases this
 ·
  obtain⟨i,hi,rfl,hb⟩:=(mem e).1 he;have:=h5 i hi hb
  simpa [cMp,zy2] using this
theorem zBp {l:List (Int × Int)}:∀ {o i:Nat} (hi:i < l.length),zsx ((i+o:Nat):Int) (l.mapIdx fun j e=>cMp (j+o) e)=some (.int .i64 l[i].1,.int .i64 l[i].2):=by
 induction l with
 | nil=>intro o i hi;simp at hi
 |
  cons e l ih =>
  intro o i hi;rw[W5]
  cases i with
  |
   zero =>
   simp only[cMp,zsx,Wz,if_true]
  |
   succ i =>
   have h:=ih (o:=o+1) (i:=i) (by simpa using hi);simp only[cMp,zsx,WJ] at h ⊢;rw[if_neg (by omega)];rw[show ((i+1+o:Nat):Int)=((i+(o+1):Nat):Int) by omega];rw[←h]
   congr 1
   congr 1
   funext j e
   rw[show j+1+o=j+(o+1) by omega]
theorem zxO {l:List (Int × Int)} {i:Nat} (hi:i < l.length):zsx (i:Int) (l.mapIdx cMp)=some (.int .i64 l[i].1,.int .i64 l[i].2):=by
 have h:=zBp (o:=0) hi
 simpa using h
theorem zCS {H:AH} {nx r rm qm:Nat} {since:Int} {l:List (Int × Int)} {sel:List Nat} {i:Nat} (hr:H.get r 0=some (.row 1 ([.mp rm qm]::[.int .i64 since]::[.int .i64 l.length]::(sel++[i]).map fun i:Nat=>[.int .i64 (i:Int)]) 0))
  (hm:H.get rm qm=some (.row 3 (mpC l) 0)) (hi:i < l.length):xopR .ment [.it r] H nx=⟨True,True,.tup [.int .i64 l[i].1,.int .i64 l[i].2],H,nx⟩:=by
 show zrv (.it r) H nx=_;unfold zrv;simp only;rw[hr];simp only[WD,WL,WM,List.getLast?_append,List.getLast?_singleton,Option.some_or];rw[hm];unfold mpC;simp only[zxO hi];simp
def zoi (l:List (Int × Int)) (k:Int):Int:=match l.findIdx? (fun e=>decide (e.1=k)) with
 | some i=>(l.getD i (0,0)).2
 | none=>0
theorem zxV {l:List (Int × Int)} {k:Int} {H:AH} {nx:Nat}:zv4 (some .i64) false (.int .i64 0) (.int .i64 k) (some (.row 3 (mpC l) 0)) H nx=⟨True,(AV.int .i64 (zoi l k)).wf,.int .i64 (zoi l k),H,nx⟩:=by
 unfold mpC zv4;simp only;rw[ztj];unfold zoi
 cases hf:l.findIdx? fun e=>decide (e.1=k) with
 | none=>simp[mlTo,zfA,mgot,mval]
 | some j=>simp[mlTo,zfA,mgot,mval]
def zic (p:PC):Prop:=(p.got.map Prod.fst).Nodup∧∀e∈p.got,0≤e.1∧zkq p e.1.toNat 1
theorem zic.keep {p q:PC} (h:zic p) (k:Keep p q) (e:q.got=p.got):zic q:=by unfold zic;rw[e];exact⟨h.1,fun x hx=>⟨(h.2 x hx).1,k.to _ _ (h.2 x hx).2⟩⟩
theorem zBc {l:List (Int × Int)} {k v:Int} (h:∀e∈l,e.1≠k):setL l k v=l++[(k,v)]:=by unfold setL;rw[Wae.2 fun e he=>by simpa using h e he]
theorem zwk {p:PC} {lb:Int} (h:zic p):zic { zaM p 0 with got:=setL p.got p.st.length lb }:=by
 have hlt:∀e∈p.got,e.1≠(p.st.length:Int):=fun e he hk=>by obtain⟨h1,s,l,h2,_⟩:=h.2 e he;have:=(Ws.1 h2).1;omega
 unfold zic;simp only;rw[zBc hlt];refine⟨?_,fun e he=>?_⟩
 · rw[WD,WU,List.nodup_append];refine⟨h.1,by simp,fun a ha b hb=>?_⟩;obtain⟨e,he,rfl⟩:=Wh.1 ha;rw[Wc.1 hb];exact hlt e he
 ·
  rcases Wu.1 he with he|he
  · exact⟨(h.2 e he).1,(zb3 p ⟨1,0,some [0]⟩).to _ _ (h.2 e he).2⟩
  · rw[Wc.1 he];exact⟨Int.natCast_nonneg _,(zmG p 0:zkq (zaM p 0) ((p.st.length:Int)).toNat 1)⟩
theorem zox {q:PC} {top:Int} (h:zic q):zic (zea q top):=by have h1:Keep q { q with lp:=q.lp.dropLast }:=Keep.of_st rfl;have h2:Keep q (zaM { q with lp:=q.lp.dropLast } top):=h1.trans (zb3 _ _);exact h.keep (h2.trans (zco _ _ _)) ((zeX _ _ _).2)
mutual
theorem zoG:∀(n:Nd) (p:PC),zic p→zic (zaR n p)
 |
  .mk f c l,p,h=>by
  rw[zaR];split
  · exact zj6 l p h
  split
  · exact h.keep (zb3 p _) rfl
  split
  · simp only;have h1:zic (za3 p):=h.keep (zb3 p _) rfl;exact(zxF p.st.length l (za3 p) [] h1).keep (zco _ _ _) (zeX _ _ _).2
  split
  · exact zox (zj6 l (zbu p p.st.length) (h.keep (Keep.of_st rfl) rfl))
  split
  · simp only;have h1:zic (zeV p f.block):=h.keep ((zb3 p _).trans (zb3 _ _)) rfl;exact(zox (zj6 l (zbu (zeV p f.block) p.st.length) (h1.keep (Keep.of_st rfl) rfl))).keep (zj1 _ _ _ _) rfl
  split
  · exact h.keep ((zb3 p ⟨1,0,some [0]⟩).trans (Keep.of_st rfl)) rfl
  split
  · exact h.keep (zb3 p _) rfl
  split
  · exact zwk h
  split
  · exact h.keep (Keep.of_st rfl) rfl
  split
  · exact h.keep (zb3 p _) rfl
  · exact h
theorem zj6:∀(l:List Nd) (p:PC),zic p→zic (zaO l p)
 | [],p,h=>by rw[zaO];exact h
 |
  n::l,p,h=>by
  rw[zaO];exact zj6 l _ (zoG n p h)
theorem zxF (at':Nat):∀(l:List Nd) (p:PC) (ends:List Int),zic p→zic (brP at' l p ends).1
 | [],p,ends,h=>by rw[brP];exact h
 |
  n::l,p,ends,h=>by
  rw[brP];have h1:zic (appTo p at' p.st.length):=h.keep (zj7 p at' p.st.length) rfl;have h2:zic (zaM (zaR n (appTo p at' p.st.length)) 0):=(zoG n _ h1).keep (zb3 _ _) rfl;exact zxF at' l _ _ h2
end
def zlK (p:PC) (k:Nat):Int:=zoi p.lab (zoi p.got (k:Int))
def fixK (p:PC) (done:Nat→Bool):PC:={ p with st:=p.st.mapIdx fun k s=>if done k then { s with to:=s.to.map fun l=>l.set 0 (zlK p k) } else s }
theorem zyD {l:List (Int × Int)} (hn:(l.map Prod.fst).Nodup) {i:Nat} (hi:i < l.length):zoi l l[i].1=l[i].2:=by
 unfold zoi
 cases hf:l.findIdx? (fun e=>decide (e.1=l[i].1)) with
 |
  none =>
  have:=Wae.1 hf l[i] (Wm hi);simp at this
 |
  some j =>
  obtain⟨h1,h2,_⟩:=W6.1 hf;have h3:l[j].1=l[i].1:=of_decide_eq_true h2
  have h4:j=i:=by
   have h5:=List.pairwise_iff_getElem.1 hn
   refine Classical.byContradiction fun hne=>?_
   rcases Nat.lt_or_ge j i with hlt|hge
   · exact h5 j i (by simpa using h1) (by simpa using hi) hlt (by simpa using h3)
   · exact h5 i j (by simpa using hi) (by simpa using h1) (by omega) (by simpa using h3.symm)
  subst h4;simp[Wp,h1]
theorem zyJ {p:PC} {done:Nat→Bool} {k:Nat} (hk:done k=false):setTo (fixK p done) k 0 (zlK p k)=fixK p (fun j=>done j||(j == k)):=by
 unfold setTo fixK;simp only[PC.mk.injEq,and_true];apply Wq;intro j;simp only[Wi,Wr]
 cases p.st[j]? with
 | none=>rfl
 |
  some s =>
  simp only[Ww,We,WE]
  by_cases h:k=j
  · subst h;simp[hk]
  · rw[if_neg h];simp only[show (j == k)=false from by simpa using Ne.symm h,Wk]
theorem zAE {p:PC} {done:Nat→Bool}:Keep p (fixK p done):=by
 refine⟨by simp[fixK],fun k n ⟨s,l,h1,h2,h3⟩=>?_⟩;unfold zkq fixK;simp only[Wr,h1,We,WE]
 by_cases hd:done k=true
 · exact⟨_,l.set 0 (zlK p k),rfl,by simp[hd,h2],by simpa using h3⟩
 · exact⟨_,l,rfl,by simp[hd,h2],h3⟩
end Go.Ab
