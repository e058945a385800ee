/-
  Part 9 of the proof: how the calls of this program run, over values instead of memory, and what each function computes.
-/
import Derived.KernelRfl
import Derived.Test.YtdhlfajcofgpkaaGreatKh
set_option maxRecDepth 100000
set_option linter.unusedVariables false
set_option linter.unusedSimpArgs false
set_option linter.unnecessarySimpa false
set_option linter.unusedSectionVars false
open List renaming mem_cons→Wa,getD_eq_getElem?_getD→Wc,getElem?_eq_getElem→Wd,length_map→We,mem_singleton→Wf,replicate→Wg,map_cons→Wh,mem_cons_of_mem→Wi,mem_append→Wj,getElem?_map→Wk,length_cons→Wl,nodup_cons→Wm,map_append→Wn,length_append→Wo,length_singleton→Wp,pairwise_cons→Wq,drop_eq_getElem_cons→Wr,drop_of_length_le→Ws,nodup_append→Wt,length_take→Wv,append_nil→Ww,rel_of_pairwise_cons→Wx,sum_cons→Wz,map_nil→WA,eq_nil_of_length_eq_zero→WC,mem_iff_getElem→WE,filter_append→WF,take_add_one→WG,set_cons_zero→WH,take_length→WI,mem_flatMap→WJ
open Nat renaming le_refl→Wb,zero_le→Wy
open Prod.mk renaming injEq→Wu
open Array renaming getElem?_modify→WB
open Option renaming map_eq_some_iff→WD
namespace Go.Ab
open Go.RowKit Go.Proofs
def zlf:ACode:=.seq (.region [ Yas,(oN 4 (.rbox (.t 1))),(oN 6 (.mov (.c (.bool false))))] [0,1,6]) (.seq (.region [ (oA 9 3 3),(oM 10 2),(oN 11 (.call zm7 [(.t 9),(.t 10),(.c (.int .i64 200))])),(oN 7 (.alloc [.int .i64 0,.nilsl,.int .i64 0])),(oS 3 7 11)] [3,9,10,11]) (.seq (.seq (.region [ (oF 12 0 1 7),(oL 13 12),(oC 14 .eql 13 15)] [12,13]) (.cond (.t 14) (.seq (.region [ (oN 6 (.mov (.c (.bool true))))] [2,4,7,14]) (.ret)) (.skip))) (.seq (.region [ (oA 15 3 4),(oM 16 2),(oN 17 (.call zm7 [(.t 15),(.t 16),(.c (.int .i64 200))])),(oN 8 (.alloc [.int .i64 0,.nilsl,.int .i64 0])),(oS 3 8 17)] [2,4,6,14,15,16,17]) (.seq (.region [ (oF 18 0 1 7),(oL 19 18),(oF 20 0 1 8),(oL 21 20),(oB 22 .eql 19 21),(oM 23 22),(oG 24 23 true (.fldaddr 1 1 (.t 7))),(oG 25 23 true (.load false 1 (.t 24))),(oG 26 23 true (.fldaddr 1 1 (.t 8))),(oG 27 23 true (.load false 1 (.t 26))),(oG 28 23 true (.call ziv [(.t 25),(.t 27)])),(oN 29 (.pick (.t 23) (.t 28) (.c (.bool false)))),(oM 6 29)] [7,8,18,19,20,21,22,23,24,25,26,27,28,29]) (.ret)))))
def zhz:List ARet:=[.tmp 6]
theorem zri:zT Tryz.prog ziC (qRo [3,4])=some (zlf.strip,zhz,30):=by kernel_rfl
def zrr:ACode:=.seq (.region [ Yas,(oN 6 (.alloc [.int .i64 0,.nilsl,.int .i64 0]))] [0]) (.seq (.region [ (oA 10 3 3),(oM 11 1),(oM 12 2),(oN 13 (.call zlI [(.t 10),(.t 11),(.t 12)])),(oM 9 13),(oT 14 0 9),(oT 15 1 9),(oN 8 (.alloc [.int .i64 0,.nilsl,.int .i64 0])),(oM 7 14),(oS 3 8 15)] [1,2,3,7,9,10,11,12,13,14,15]) (.seq (.region [ (oA 16 3 8),(oS 3 6 16)] [8,16]) (.ret)))
def znD:List ARet:=[.cell 6 true 3]
theorem zyV:zT Tryz.prog zm7 (qRo [3])=some (zrr.strip,znD,17):=by kernel_rfl
def zkq:ACode:=.seq (.seq (.region [ (oM 22 8),(oX 23 22),(oF 24 17 1 23),(oL 25 24),(oN 26 (.un .not (.t 25)))] [22,23,24,25]) (.cond (.t 26) (.skip) (.exit 0))) (.block 1 (.seq (.seq (.region [ (oM 27 8),(oX 28 27),(oF 29 14 3 28),(oF 30 2 1 29),(oL 31 30),(oM 32 2),(oB 33 .geq 31 32)] [26,27,28,29,30,31,32]) (.cond (.t 33) (.seq (.region [ (oM 34 8),(oN 35 (.call z8 [(.t 34),(.c (.int .i64 15))]))] [2,33,34,35]) (.exit 0)) (.skip))) (.region [ (oM 36 8),(oN 37 (.call zet [(.t 36)]))] [33,36,37])))
def zf6:ACode:=.seq (.draw ( .step (oM 38 8) ( .step (oX 39 38) ( .step (oF 40 13 1 39) ( .step (oL 41 40) ( .step (oM 42 8) ( .step (oX 43 42) ( .step (oF 44 14 3 43) ( .step (oA 45 3 44) ( .step (oM 6 41) ( .alt (oS 3 7 45) ( .done) ( .stop))))))))))) [2,8,38,39,40,41,42,43,44,45]) (.ret)
def znW:ACode:=.seq (.region [ Yas,(oN 6 (.mknil 1)),(oN 7 (.alloc [.int .i64 0,.nilsl,.int .i64 0]))] [0,6]) (.seq (.region [ (oA 11 3 3),(oM 12 1),(oN 13 (.call zlR [(.t 11),(.t 12)])),(oM 10 13),(oT 14 0 10),(oT 15 1 10),(oM 8 14),(oM 9 15)] [1,3,10,11,12,13,14,15]) (.seq (.seq (.region [ (oM 16 9),(oC 17 .neq 16 0)] [16]) (.cond (.t 17) (.seq (.region [ (oM 18 9),(oN 19 (.build [.int .i64 0,.nilsl,.int .i64 0] [(0,1,(.t 18))])),(oN 6 (.mknil 1)),(oS 3 7 19)] [2,8,9,17,18,19]) (.ret)) (.skip))) (.seq (.seq (.region [ (oM 20 2),(oC 21 .gtr 20 65536)] [6,9,17,20]) (.cond (.t 21) (.region [ (oK 2 65536)] [21]) (.skip))) (.seq (.block 0 (.loop zkq)) (zf6)))))
def zgN:List ARet:=[.tmp 6,.cell 7 true 3]
theorem zu1:zT Tryz.prog zlI (qRo [3])=some (znW.strip,zgN,46):=by kernel_rfl
def zgX:List AOper:=[ (oA 29 3 2),(oN 30 (.callq ziP [])),(oA 31 3 7),(oM 32 1),(oA 33 3 2),(oF 34 2 1 2),(oL 35 34),(oN 36 (.callq zfY [(.t 33),(.t 35)])),(oN 37 (.build [.nilsl,.nilsl,.int .u32 0,.nilsl,.bool false,.nilsl,.nilsl,.nilsl,.int .i64 0,.int .i64 0,.int .i64 0,.int .i64 0,.nilsl,.nilsl,.int .i64 0,.nilsl,.int .i64 0,.bool false] [(0,3,(.t 29)),(3,1,(.t 30)),(4,3,(.t 31)),(7,1,(.t 32)),(9,1,(.t 36))])),(oN 38 (.box (.t 37))),(oM 9 38)]
def zlu:List (List Nat):=[[],[],[],[],[],[],[5],[4,6,1],[0,1,2,3,7],[8],[9,7,0,1,2,3,4,5,6,7,8,9]]
def zhZ:List Nat:=[9]
def zov:List (List Nat):=[[],[],[],[],[],[],[5],[1,4,5,6],[0,1,2,3,4,5,6,7],[0,1,2,3,4,5,6,7,8],[0,1,2,3,4,5,6,7,8,9]]
def znL:List (List Nat):=[[],[9]]
def zf5:Plan:=[(0,[],[]),(1,[],[]),(2,[],[]),(3,[],[]),(4,[],[]),(5,[],[]),(6,[],[]),(7,[],[]),(8,[],[]),(9,[],[9]),(10,[9],[9])]
def znT:ACode:=.seq (.region [ Yaj,(oN 4 (.mov (.c (.nilp)))),(oK 5 0)] [0,4,5]) (.seq (.region [ (oA 10 3 2),(oN 11 (.call zlH [(.t 10)])),(oM 6 11)] [10,11]) (.seq (.seq (.region [ (oM 12 6),(oC 13 .neq 12 0)] [12]) (.cond (.t 13) (.seq (.region [ (oM 14 6),(oN 4 (.mov (.c (.nilp)))),(oM 5 14)] [1,2,6,13,14]) (.ret)) (.skip))) (.seq (.seq (.region [ (oM 15 1),(oE 16 15),(oC 17 .gtr 16 4096)] [4,5,6,13,15,16]) (.cond (.t 17) (.seq (.region [ (oN 4 (.mov (.c (.nilp)))),(oK 5 6)] [1,2,17]) (.ret)) (.skip))) (.seq (.region [ (oF 19 1 1 2),(oL 20 19),(oN 21 (.call zqs [(.t 20)])),(oM 18 21),(oT 22 0 18),(oT 23 1 18),(oN 7 (.alloc [.bool false,.nilsl,.nilsl])),(oS 3 7 22),(oM 8 23)] [4,5,8,17,18,19,20,21,22,23]) (.seq (.region [ (oA 25 3 7),(oN 26 (.call ziH [(.t 25),(.c (.int .u32 983036)),(.c (.int .i64 4)),(.c (.int .u32 4294967295))])),(oM 24 26),(oT 27 0 24),(oT 28 1 24),(oS 3 7 27)] [24,25,26,27,28]) (.seq (.draw (ze4 zgX zlu 11 (Wg 11 false)) [1,2,7,29,30,31,32,33,34,35,36,37,38]) (.mark 0 (.seq (.region [ (oM 39 9),(oN 40 (.call zaa [(.t 39),(.c (.int .i64 0))]))] [39,40]) (.seq (.region [ (oM 41 9),(oM 4 41),(oK 5 0)] [9,41]) (.ret))))))))))
def zkh:List ARet:=[.tmp 4,.tmp 5]
theorem zuF:zT Tryz.prog zlR (qRo [2])=some (znT.strip,zkh,42):=by kernel_rfl
def zhM:ACode:=.seq (.region [ (oM 4 0),(oM 5 1),(oX 6 4),(oF 7 14 3 6),(oF 8 0 1 7),(oS 1 8 5)] [1,4,5,6,7,8]) (.region [ (oM 9 0),(oX 10 9),(oF 11 17 1 10),⟨none,.store 1 (.t 11) (.c (.bool true)),none⟩] [0,9,10,11])
def zhT:List ARet:=[]
theorem znk:zT Tryz.prog z8 (qRo [])=some (zhM.strip,zhT,12):=by kernel_rfl
def zdP:List AOper:=[ (oM 7 0),(oX 8 7),(oF 9 0 3 8),(oF 10 0 1 9),(oL 11 10),(oM 12 0),(oX 13 12),(oF 14 9 1 13),(oL 15 14),(oI 16 2 11 15),(oF 17 1 1 16),(oL 18 17),(oM 19 0),(oX 20 19),(oF 21 10 1 20),(oL 22 21),(oI 23 2 18 22),(oF 24 1 1 23),(oL 25 24),(oM 26 0),(oX 27 26),(oF 28 11 1 27),(oL 29 28),(oI 30 8 25 29),(oA 31 8 30),(oN 2 (.alloc [.int .i64 0,.int .i64 0,.int .i64 0,.int .i64 0,.int .i64 0,.int .u32 0,.nilsl,.nilsl])),(oS 8 2 31)]
def zhr:List (List Nat):=[[],[0],[1],[2],[3],[],[5],[6],[7],[4,8],[9],[10],[],[12],[13],[14],[11,15],[16],[17],[],[19],[20],[21],[18,22],[23],[],[25,24,0,1,2,3,4,5,6,7,8,9,10,11,12,13,14,15,16,17,18,19,20,21,22,23,24,25]]
def zd6:List Nat:=[25,26]
def zjm:List (List Nat):=[[],[0],[0,1],[0,1,2],[0,1,2,3],[],[5],[5,6],[5,6,7],[0,1,2,3,4,5,6,7,8],[0,1,2,3,4,5,6,7,8,9],[0,1,2,3,4,5,6,7,8,9,10],[],[12],[12,13],[12,13,14],[0,1,2,3,4,5,6,7,8,9,10,11,12,13,14,15],[0,1,2,3,4,5,6,7,8,9,10,11,12,13,14,15,16],[0,1,2,3,4,5,6,7,8,9,10,11,12,13,14,15,16,17],[],[19],[19,20],[19,20,21],[0,1,2,3,4,5,6,7,8,9,10,11,12,13,14,15,16,17,18,19,20,21,22],[0,1,2,3,4,5,6,7,8,9,10,11,12,13,14,15,16,17,18,19,20,21,22,23],[],[0,1,2,3,4,5,6,7,8,9,10,11,12,13,14,15,16,17,18,19,20,21,22,23,24,25]]
def zix:List (List Nat):=[[],[25],[25,26]]
def zdb:Plan:=[(0,[],[]),(1,[],[]),(2,[],[]),(3,[],[]),(4,[],[]),(4,[25],[25]),(5,[],[]),(6,[],[]),(7,[],[]),(8,[],[]),(8,[25],[25]),(9,[],[]),(9,[25],[25]),(10,[],[]),(11,[],[]),(11,[25],[25]),(12,[],[]),(13,[],[]),(14,[],[]),(15,[],[]),(15,[25],[25]),(16,[],[]),(16,[25],[25]),(17,[],[]),(18,[],[]),(18,[25],[25]),(19,[],[]),(20,[],[]),(21,[],[]),(22,[],[]),(22,[25],[25]),(23,[],[]),(23,[25],[25]),(24,[],[]),(24,[25],[25]),(25,[],[25]),(26,[25],[25,26])]
def zdK:List AOper:=[ (oM 93 0),(oX 94 93),(oF 95 4 3 94),(oA 96 3 95),(oM 97 3),(oN 98 (.idx 1 (.t 97) (.c (.int .i64 0)))),(oL 99 98),(oF 100 2 1 2),(oL 101 100),(oM 102 3),(oN 103 (.idx 1 (.t 102) (.c (.int .i64 1)))),(oL 104 103),(oN 105 (.callq ziH [(.t 96),(.t 99),(.t 101),(.t 104)])),(oM 92 105),(oT 106 0 92),(oT 107 1 92),(oN 5 (.alloc [.bool false,.nilsl,.nilsl])),(oS 3 5 106),(oM 6 107)]
def zhC:List (List Nat):=[[],[0],[1],[2],[],[4],[5],[],[7],[],[9],[10],[3,6,8,11],[12],[13],[13],[],[16,14,12,0,1,2,3,4,5,6,7,8,9,10,11,12,13,14,16],[15,17,0,1,2,3,4,5,6,7,8,9,10,11,12,13,14,15,16,17]]
def zeg:List Nat:=[16,17]
def zjn:List (List Nat):=[[],[0],[0,1],[0,1,2],[],[4],[4,5],[],[7],[],[9],[9,10],[0,1,2,3,4,5,6,7,8,9,10,11],[0,1,2,3,4,5,6,7,8,9,10,11,12],[0,1,2,3,4,5,6,7,8,9,10,11,12,13],[0,1,2,3,4,5,6,7,8,9,10,11,12,13],[],[0,1,2,3,4,5,6,7,8,9,10,11,12,13,14,16],[0,1,2,3,4,5,6,7,8,9,10,11,12,13,14,15,16,17]]
def zio:List (List Nat):=[[],[16],[16,17]]
def zdf:Plan:=[(0,[],[]),(1,[],[]),(2,[],[]),(3,[],[]),(3,[16],[16]),(4,[],[]),(5,[],[]),(5,[16],[16]),(6,[],[]),(6,[16],[16]),(7,[],[]),(8,[],[]),(8,[16],[16]),(9,[],[]),(10,[],[]),(10,[16],[16]),(11,[],[]),(11,[16],[16]),(12,[],[]),(12,[16],[16]),(13,[],[]),(14,[],[]),(15,[],[]),(16,[],[16]),(17,[16],[16,17]),(18,[16,17],[16,17])]
def zt:ACode:=(.seq (.region [ (oF 73 0 1 2),(oL 74 73)] [4,69,73]) (.block 0 (.seq (.region [ (oC 76 .eql 74 1),(oM 75 76)] [76]) (.cond (.t 75) (.draw ( .step (oM 77 0) ( .step (oM 78 0) ( .step (oX 79 78) ( .step (oF 80 3 1 79) ( .step (oA 81 1 80) ( .step (oF 82 1 1 2) ( .step (oL 83 82) ( .step (oM 84 3) ( .step (oN 85 (.idx 1 (.t 84) (.c (.int .i64 0)))) ( .step (oL 86 85) ( .step (oN 87 (.callq zm1 [(.t 81),(.t 83),(.t 86)])) ( .step (oX 88 77) ( .step (oF 89 3 1 88) ( .alt (oS 1 89 87) ( .done) ( .stop))))))))))))))) [0,2,3,74,75,77,78,79,80,81,82,83,84,85,86,87,88,89]) (.seq (.region [ (oC 91 .eql 74 2),(oM 90 91)] [75,91]) (.cond (.t 90) (.seq (.draw (ze4 zdK zhC 19 (Wg 19 false)) [2,3,74,90,92,93,94,95,96,97,98,99,100,101,102,103,104,105,106,107]) (.seq (.seq (.region [ (oM 108 6),(oC 109 .neq 108 0)] [108]) (.cond (.t 109) (.seq (.region [ (oM 110 0),(oM 111 6),(oN 112 (.call z8 [(.t 110),(.t 111)]))] [0,5,6,109,110,111,112]) (.ret)) (.skip))) (.region [ (oM 113 0),(oA 114 3 5),(oX 115 113),(oF 116 4 3 115),(oS 3 116 114)] [0,5,6,109,113,114,115,116]))) (.seq (.region [ (oC 118 .eql 74 3),(oM 117 118)] [90,118]) (.cond (.t 117) (.seq (.seq (.draw ( .step (oM 119 0) ( .step (oX 120 119) ( .step (oF 121 8 1 120) ( .step (oL 122 121) ( .step (oM 123 0) ( .step (oX 124 123) ( .step (oF 125 7 1 124) ( .step (oL 126 125) ( .step (oE 127 126) ( .step (oB 128 .geq 122 127) ( .done))))))))))) [3,74,117,119,120,121,122,123,124,125,126,127]) (.cond (.t 128) (.seq (.region [ (oM 129 0),(oN 130 (.call z8 [(.t 129),(.c (.int .i64 14))]))] [0,2,128,129,130]) (.ret)) (.skip))) (.seq (.draw ( .step (oM 131 0) ( .step (oM 132 0) ( .step (oX 133 132) ( .step (oF 134 3 1 133) ( .step (oA 135 1 134) ( .step (oF 136 1 1 2) ( .step (oL 137 136) ( .step (oM 138 0) ( .step (oX 139 138) ( .step (oF 140 7 1 139) ( .step (oL 141 140) ( .step (oM 142 0) ( .step (oX 143 142) ( .step (oF 144 8 1 143) ( .step (oL 145 144) ( .step (oI 146 1 141 145) ( .step (oL 147 146) ( .step (oN 148 (.callq zm1 [(.t 135),(.t 137),(.t 147)])) ( .step (oX 149 131) ( .step (oF 150 3 1 149) ( .alt (oS 1 150 148) ( .done) ( .stop)))))))))))))))))))))) [2,128,131,132,133,134,135,136,137,138,139,140,141,142,143,144,145,146,147,148,149,150]) (.region [ (oM 151 0),(oX 152 151),(oF 153 8 1 152),(oL 154 153),(oC 155 .add 154 1),(oX 156 151),(oF 157 8 1 156),(oS 1 157 155)] [0,151,152,153,154,155,156,157]))) (.seq (.region [ (oC 159 .eql 74 4),(oM 158 159)] [117,159]) (.cond (.t 158) (.draw ( .step (oM 160 0) ( .step (oM 161 0) ( .step (oX 162 161) ( .step (oF 163 14 3 162) ( .step (oF 164 1 1 163) ( .step (oM 166 3) ( .alt (oL 165 164) ( .alt (oN 167 (.idx 1 (.t 166) (.c (.int .i64 0)))) ( .alt (oL 168 167) ( .alt YaC ( .alt (oN 170 (.append 1 4 (.t 165) (.t 169))) ( .step (oX 171 160) ( .step (oF 172 14 3 171) ( .step (oF 173 1 1 172) ( .alt (oS 1 173 170) ( .done) ( .stop))))) ( .stop)) ( .stop)) ( .stop)) ( .stop)) ( .alt (oN 167 (.idx 1 (.t 166) (.c (.int .i64 0)))) ( .alt (oL 165 164) ( .alt (oL 168 167) ( .alt YaC ( .alt (oN 170 (.append 1 4 (.t 165) (.t 169))) ( .step (oX 171 160) ( .step (oF 172 14 3 171) ( .step (oF 173 1 1 172) ( .alt (oS 1 173 170) ( .done) ( .stop))))) ( .stop)) ( .stop)) ( .stop)) ( .alt (oL 168 167) ( .alt (oL 165 164) ( .alt YaC ( .alt (oN 170 (.append 1 4 (.t 165) (.t 169))) ( .step (oX 171 160) ( .step (oF 172 14 3 171) ( .step (oF 173 1 1 172) ( .alt (oS 1 173 170) ( .done) ( .stop))))) ( .stop)) ( .stop)) ( .alt YaC ( .step (oL 165 164) ( .alt (oN 170 (.append 1 4 (.t 165) (.t 169))) ( .step (oX 171 160) ( .step (oF 172 14 3 171) ( .step (oF 173 1 1 172) ( .alt (oS 1 173 170) ( .done) ( .stop))))) ( .stop))) ( .stop))) ( .stop))) ( .stop))))))))) [0,2,3,74,158,160,161,162,163,164,165,166,167,168,169,170,171,172,173]) (.seq (.region [ (oC 175 .eql 74 5),(oM 174 175)] [158,175]) (.cond (.t 174) (.region [ (oM 176 0),(oF 177 5 1 2),(oL 178 177),(oN 179 (.call zeI [(.t 176),(.t 178)]))] [0,2,3,74,174,176,177,178,179]) (.seq (.region [ (oC 181 .eql 74 6),(oM 180 181)] [174,181]) (.cond (.t 180) (.region [ (oM 182 0),(oF 183 3 1 2),(oL 184 183),(oN 185 (.call zaa [(.t 182),(.t 184)]))] [0,2,3,74,180,182,183,184,185]) (.seq (.region [ (oC 187 .eql 74 7),(oM 186 187)] [180,187]) (.cond (.t 186) (.seq (.region [ (oM 188 3),(oN 189 (.idx 1 (.t 188) (.c (.int .i64 0)))),(oL 190 189),(oN 191 (.bin .neq (.t 190) (.c (.int .u32 0))))] [3,74,186,188,189,190]) (.cond (.t 191) (.region [ (oM 192 0),(oF 193 3 1 2),(oL 194 193),(oN 195 (.call zaa [(.t 192),(.t 194)]))] [0,2,191,192,193,194,195]) (.region [ (oM 196 0),(oF 197 4 1 2),(oL 198 197),(oN 199 (.call zaa [(.t 196),(.t 198)]))] [0,2,191,196,197,198,199]))) (.seq (.region [ (oC 201 .eql 74 8),(oM 200 201)] [186,201]) (.cond (.t 200) (.seq (.seq (.draw ( .step (oM 202 3) ( .step (oN 203 (.idx 1 (.t 202) (.c (.int .i64 0)))) ( .step (oL 204 203) ( .step (oN 205 (.conv .i64 (.t 204))) ( .step (oF 206 7 1 2) ( .step (oL 207 206) ( .step (oE 208 207) ( .step (oB 209 .geq 205 208) ( .done))))))))) [74,200,202,203,204,205,206,207,208]) (.cond (.t 209) (.seq (.region [ (oM 210 0),(oN 211 (.call z8 [(.t 210),(.c (.int .i64 7))]))] [0,2,3,209,210,211]) (.ret)) (.skip))) (.draw ( .step (oM 212 0) ( .step (oF 213 7 1 2) ( .step (oM 215 3) ( .alt (oL 214 213) ( .alt (oN 216 (.idx 1 (.t 215) (.c (.int .i64 0)))) ( .alt (oL 217 216) ( .alt (oI 218 1 214 217) ( .step (oL 219 218) ( .alt (oN 220 (.call zaa [(.t 212),(.t 219)])) ( .done) ( .stop))) ( .stop)) ( .stop)) ( .stop)) ( .alt (oN 216 (.idx 1 (.t 215) (.c (.int .i64 0)))) ( .alt (oL 214 213) ( .alt (oL 217 216) ( .alt (oI 218 1 214 217) ( .step (oL 219 218) ( .alt (oN 220 (.call zaa [(.t 212),(.t 219)])) ( .done) ( .stop))) ( .stop)) ( .stop)) ( .alt (oL 217 216) ( .alt (oL 214 213) ( .alt (oI 218 1 214 217) ( .step (oL 219 218) ( .alt (oN 220 (.call zaa [(.t 212),(.t 219)])) ( .done) ( .stop))) ( .stop)) ( .stop)) ( .stop))) ( .stop)))))) [0,2,3,209,212,213,214,215,216,217,218,219,220])) (.seq (.region [ (oC 222 .eql 74 9),(oM 221 222)] [2,3,200,222]) (.cond (.t 221) (.region [ (oM 223 0),(oN 224 (.call zev [(.t 223)]))] [0,74,221,223,224]) (.seq (.region [ (oC 226 .eql 74 10),(oM 225 226)] [74,221,226]) (.cond (.t 225) (.region [ (oM 227 0),(oN 228 (.call z8 [(.t 227),(.c (.int .i64 0))]))] [0,225,227,228]) (.skip)))))))))))))))))))))))
def zcG:ACode:=(.seq (.seq (.region [ (oM 68 4),(oC 69 .neq 68 0)] [68]) (.cond (.t 69) (.seq (.region [ (oM 70 0),(oM 71 4),(oN 72 (.call z8 [(.t 70),(.t 71)]))] [0,2,3,4,69,70,71,72]) (.ret)) (.skip))) (zt))
def zcA:ACode:=(.seq (.seq (.region [ (oF 48 0 1 2),(oL 49 48),(oC 50 .eql 49 4),(oM 51 50),(oG 52 51 true (.mov (.t 0))),(oG 53 51 true (.xop .nilck [(.t 52)])),(oG 54 51 true (.fldaddr 14 3 (.t 53))),(oG 55 51 true (.fldaddr 1 1 (.t 54))),(oG 56 51 true (.load false 1 (.t 55))),(oG 57 51 true (.len (.t 56))),(oG 58 51 true (.bin .geq (.t 57) (.c (.int .i64 4096)))),(oN 59 (.pick (.t 51) (.t 58) (.c (.bool false))))] [48,49,50,51,52,53,54,55,56,57,58]) (.cond (.t 59) (.seq (.region [ (oM 60 0),(oN 61 (.call z8 [(.t 60),(.c (.int .i64 6))]))] [0,2,59,60,61]) (.ret)) (.skip))) (.seq (.region [ (oM 63 0),(oA 64 8 2),(oN 65 (.call zdB [(.t 63),(.t 64)])),(oM 62 65),(oT 66 0 62),(oT 67 1 62),(oM 3 66),(oM 4 67)] [59,62,63,64,65,66,67]) (zcG)))
def zg2:ACode:=.seq (.draw (ze4 zdP zhr 27 (Wg 27 false)) [7,8,9,10,11,12,13,14,15,16,17,18,19,20,21,22,23,24,25,26,27,28,29,30,31]) (.seq (.region [ (oM 32 0),(oX 33 32),(oF 34 11 1 33),(oL 35 34),(oC 36 .add 35 1),(oX 37 32),(oF 38 11 1 37),(oS 1 38 36)] [32,33,34,35,36,37,38]) (.seq (.region [ (oM 39 0),(oX 40 39),(oF 41 14 3 40),(oF 42 2 1 41),(oL 43 42),(oC 44 .add 43 1),(oX 45 39),(oF 46 14 3 45),(oF 47 2 1 46),(oS 1 47 44)] [39,40,41,42,43,44,45,46,47]) (zcA)))
def zo:List ARet:=[]
theorem zmG:zT Tryz.prog zet (qRoL [] [(34,[0,1,2,3,4,5,6,7,9,10,11,12,13,14,15,16,17,18,19,20,21,22,23,24,25,26,27,28,29,30,31,32,33,34,35,36,37,38,39,40,41,42,43,44,45,46,47,48,49,50,51,52,53,54,55,56,57,58,59,60,61,62,63,64,65,66,67,68,69,70,71,72,73,74,75,76,77,78,79,80,81,82,83,84,85,86,87,88,89,90,91,92,93,94,95,96,97,98,99,100,101,102,103,104,105,106,107,108,109,110,111,112,113,114,115,116,117,118,119,120,121,122,123,124,125,126,127,128,129,130,131,132,133,134,135,136,137,138,139,140,141,142,143,144,145,146,147,148,149])])=some (zg2.strip,zo,229):=by kernel_rfl
def zkd:ACode:=.seq (.seq (.region [ (oM 16 4),(oF 17 0 1 1),(oL 18 17),(oE 19 18),(oB 20 .lss 16 19)] [16,17,18,19]) (.cond (.t 20) (.skip) (.exit 0))) (.seq (.block 1 (.seq (.region [ (oF 23 0 1 1),(oL 24 23),(oM 25 4),(oI 26 2 24 25),(oA 27 2 26),(oN 28 (.call zdk [(.t 27)])),(oM 5 28)] [20,23,24,25,26,27,28]) (.seq (.seq (.region [ (oM 29 5),(oC 30 .neq 29 0)] [29]) (.cond (.t 30) (.seq (.region [ (oM 31 5),(oM 2 31)] [1,4,5,30,31]) (.ret)) (.skip))) (.seq (.draw ( .step (oA 32 3 1) ( .step (oF 33 0 1 1) ( .step (oL 34 33) ( .step (oM 35 4) ( .step (oI 36 2 34 35) ( .step (oF 37 0 1 36) ( .step (oL 38 37) ( .step (oN 39 (.callq zfY [(.t 32),(.t 38)])) ( .step (oM 40 4) ( .step (oB 41 .neq 39 40) ( .done))))))))))) [2,5,30,32,33,34,35,36,37,38,39,40]) (.cond (.t 41) (.seq (.region [ (oK 2 8)] [1,4,41]) (.ret)) (.skip)))))) (.region [ (oM 21 4),(oC 22 .add 21 1),(oM 4 22)] [2,21,22,41]))
def zju:ACode:=.seq (.seq (.region [ (oA 42 3 1),(oF 43 2 1 1),(oL 44 43),(oN 45 (.call zfY [(.t 42),(.t 44)])),(oC 46 .lss 45 0)] [1,4,42,43,44,45]) (.cond (.t 46) (.seq (.region [ (oK 2 17)] [46]) (.ret)) (.skip))) (.seq (.region [ (oK 2 0)] [46]) (.ret))
def znU:ACode:=.seq (.region [ Yaf,(oK 2 0)] [0,2]) (.seq (.region [ (oF 6 1 1 1),(oL 7 6),(oN 8 (.call zcL [(.t 7)])),(oM 3 8)] [6,7,8]) (.seq (.seq (.region [ (oM 9 3),(oC 10 .neq 9 0)] [9]) (.cond (.t 10) (.seq (.region [ (oM 11 3),(oM 2 11)] [1,3,10,11]) (.ret)) (.skip))) (.seq (.seq (.region [ (oF 12 0 1 1),(oL 13 12),(oE 14 13),(oC 15 .gtr 14 64)] [2,3,10,12,13,14]) (.cond (.t 15) (.seq (.region [ (oK 2 6)] [1,15]) (.ret)) (.skip))) (.seq (.seq (.region [ (oK 4 0)] [2,15]) (.block 0 (.loop zkd))) (zju)))))
def zdT:List ARet:=[.tmp 2]
theorem zt4:zT Tryz.prog zlH (qRo [1])=some (znU.strip,zdT,47):=by kernel_rfl
def zsy:ACode:=.seq (.region [ (oN 2 (.alloc [.bool false,.nilsl,.nilsl])),(oK 3 0)] [3]) (.seq (.region [ (oM 5 0),(oN 6 (.call zcL [(.t 5)])),(oM 4 6)] [5,6]) (.seq (.seq (.region [ (oM 7 4),(oC 8 .neq 7 0)] [7]) (.cond (.t 8) (.seq (.region [ (oN 9 (.build [.bool false,.nilsl,.nilsl] [])),(oM 10 4),(oS 3 2 9),(oM 3 10)] [0,4,8,9,10]) (.ret)) (.skip))) (.seq (.region [ (oM 11 0),(oN 12 (.call zdJ [(.t 11)])),(oN 13 (.build [.bool false,.nilsl,.nilsl] [(0,1,(.c (.bool true))),(1,1,(.t 12))])),(oS 3 2 13),(oK 3 0)] [0,4,8,11,12,13]) (.ret))))
def zrL:List ARet:=[.cell 2 true 3,.tmp 3]
theorem zyQ:zT Tryz.prog zqs (qRo [])=some (zsy.strip,zrL,14):=by kernel_rfl
def zgt:ACode:=.seq (.seq (.region [ (oM 44 11),(oM 45 2),(oB 46 .lss 44 45)] [44,45]) (.cond (.t 46) (.skip) (.exit 0))) (.seq (.block 1 (.seq (.region [ (oA 49 3 4),(oM 50 1),(oM 51 11),(oN 52 (.conv .u32 (.t 51))),(oB 53 .add 50 52),(oM 54 3),(oN 55 (.bin .rem (.t 54) (.c (.int .u32 256)))),(oN 56 (.conv .u8 (.t 55))),(oN 57 (.call zlQ [(.t 49),(.t 53),(.t 56)])),(oS 3 4 57)] [46,49,50,51,52,53,54,55,56,57]) (.region [ (oM 58 3),(oN 59 (.bin .quo (.t 58) (.c (.int .u32 256)))),(oM 3 59)] [58,59]))) (.region [ (oM 47 11),(oC 48 .add 47 1),(oM 11 48)] [47,48]))
def zgc:ACode:=.seq (.region [ (oA 60 3 4),(oS 3 8 60),(oK 9 0)] [1,2,3,4,11,60]) (.ret)
def zoj:ACode:=.seq (.region [ (oN 4 (.box (.t 0))),(oN 8 (.alloc [.bool false,.nilsl,.nilsl])),(oK 9 0)] [0,9]) (.seq (.seq (.region [ (oF 12 0 1 4),(oL 13 12),(oN 14 (.un .not (.t 13)))] [12,13]) (.cond (.t 14) (.seq (.region [ (oA 15 3 4),(oS 3 8 15),(oK 9 1)] [1,2,3,4,14,15]) (.ret)) (.skip))) (.seq (.seq (.region [ (oM 16 2),(oN 17 (.call zfO [(.t 16)])),(oN 18 (.un .not (.t 17)))] [9,14,16,17]) (.cond (.t 18) (.seq (.region [ (oA 19 3 4),(oS 3 8 19),(oK 9 2)] [1,2,3,4,18,19]) (.ret)) (.skip))) (.seq (.seq (.region [ (oA 20 3 4),(oM 21 1),(oN 22 (.call zkJ [(.t 20),(.t 21)])),(oM 23 2),(oB 24 .lss 22 23)] [9,18,20,21,22,23]) (.cond (.t 24) (.seq (.region [ (oA 25 3 4),(oS 3 8 25),(oK 9 11)] [1,2,3,4,24,25]) (.ret)) (.skip))) (.seq (.region [ (oA 26 3 4),(oM 27 1),(oN 28 (.call zeX [(.t 26),(.t 27)])),(oM 10 28)] [9,24,26,27,28]) (.seq (.seq (.region [ (oM 29 10),(oF 30 1 1 4),(oL 31 30),(oE 32 31),(oB 33 .lss 29 32),(oM 34 33),(oG 35 34 true (.fldaddr 1 1 (.t 4))),(oG 36 34 true (.load false 1 (.t 35))),(oG 37 34 true (.mov (.t 10))),(oG 38 34 true (.idx 5 (.t 36) (.t 37))),(oG 39 34 true (.fldaddr 3 1 (.t 38))),(oG 40 34 true (.load false 1 (.t 39))),(oG 41 34 true (.un .not (.t 40))),(oN 42 (.pick (.t 34) (.t 41) (.c (.bool false))))] [10,29,30,31,32,33,34,35,36,37,38,39,40,41]) (.cond (.t 42) (.seq (.region [ (oA 43 3 4),(oS 3 8 43),(oK 9 12)] [1,2,3,4,42,43]) (.ret)) (.skip))) (.seq (.seq (.region [ (oK 11 0)] [9,42]) (.block 0 (.loop zgt))) (zgc)))))))
def zdE:List ARet:=[.cell 8 true 3,.tmp 9]
theorem ztR:zT Tryz.prog ziH (qRo [])=some (zoj.strip,zdE,61):=by kernel_rfl
def zk7:ACode:=.seq (.region [ (oN 0 (.alloc [.nilsl]))] []) (.seq (.region [ (oN 2 (.mksl 1 4 [.int .u32 0] (.c (.int .i64 12)) (.c (.int .i64 12)))),(oM 1 2)] [2]) (.seq (.region [ (oM 3 1),(oN 4 (.idx 1 (.t 3) (.c (.int .i64 7)))),⟨none,.store 1 (.t 4) (.c (.int .u32 983036)),none⟩] [3,4]) (.seq (.region [ (oM 5 1),(oN 6 (.build [.nilsl] [(0,1,(.t 5))])),(oS 1 0 6)] [1,5,6]) (.ret))))
def zln:List ARet:=[.cell 0 true 1]
theorem zqZ:zT Tryz.prog ziP (qRo [])=some (zk7.strip,zln,7):=by kernel_rfl
def zkZ:ACode:=.seq (.seq (.region [ (oM 6 5),(oF 7 0 1 2),(oL 8 7),(oE 9 8),(oB 10 .lss 6 9)] [6,7,8,9]) (.cond (.t 10) (.skip) (.exit 0))) (.seq (.block 1 (.seq (.region [ (oF 13 0 1 2),(oL 14 13),(oM 15 5),(oI 16 2 14 15),(oF 17 0 1 16),(oL 18 17),(oM 19 1),(oB 20 .eql 18 19)] [10,13,14,15,16,17,18,19]) (.cond (.t 20) (.seq (.region [ (oM 21 5),(oM 4 21)] [1,2,5,20,21]) (.ret)) (.skip)))) (.region [ (oM 11 5),(oC 12 .add 11 1),(oM 5 12)] [4,11,12,20]))
def zlb:ACode:=.seq (.region [ (oK 4 (-1))] [1,2,5]) (.ret)
def zpP:ACode:=.seq (.region [ Yaj,(oK 4 0)] [0,4]) (.seq (.seq (.region [ (oK 5 0)] []) (.block 0 (.loop zkZ))) (zlb))
def zlt:List ARet:=[.tmp 4]
theorem zvT:zT Tryz.prog zfY (qRo [2])=some (zpP.strip,zlt,22):=by kernel_rfl
def zc8:List AOper:=[ (oM 11 0),(oM 12 0),(oX 13 12),(oF 14 13 1 13),(oL 15 14),(oM 16 0),(oX 17 16),(oF 18 0 3 17),(oF 19 0 1 18),(oL 20 19),(oM 21 0),(oX 22 21),(oF 23 9 1 22),(oL 24 23),(oI 25 2 20 24),(oF 26 1 1 25),(oL 27 26),(oM 28 1),(oI 29 2 27 28),(oF 30 0 1 29),(oL 31 30),(oN 32 (.buildSl 1 1 [.int .u32 0] [(0,(.t 31))])),(oN 33 (.append 1 4 (.t 15) (.t 32))),(oX 34 11),(oF 35 13 1 34),(oS 1 35 33)]
def zgL:List (List Nat):=[[],[],[1],[2],[3],[],[5],[6],[7],[8],[],[10],[11],[12],[9,13],[14],[15],[],[16,17],[18],[19],[20],[4,21],[0,0,1,2,3,4,5,6,7,8,9,10,11,12,13,14,15,16,17,18,19,20,21,22],[23,0,1,2,3,4,5,6,7,8,9,10,11,12,13,14,15,16,17,18,19,20,21,22],[24,22,22,0,1,2,3,4,5,6,7,8,9,10,11,12,13,14,15,16,17,18,19,20,21,22]]
def zdN:List Nat:=[21,22,25]
def ziA:List (List Nat):=[[],[],[1],[1,2],[1,2,3],[],[5],[5,6],[5,6,7],[5,6,7,8],[],[10],[10,11],[10,11,12],[5,6,7,8,9,10,11,12,13],[5,6,7,8,9,10,11,12,13,14],[5,6,7,8,9,10,11,12,13,14,15],[],[5,6,7,8,9,10,11,12,13,14,15,16,17],[5,6,7,8,9,10,11,12,13,14,15,16,17,18],[5,6,7,8,9,10,11,12,13,14,15,16,17,18,19],[5,6,7,8,9,10,11,12,13,14,15,16,17,18,19,20],[1,2,3,4,5,6,7,8,9,10,11,12,13,14,15,16,17,18,19,20,21],[0,1,2,3,4,5,6,7,8,9,10,11,12,13,14,15,16,17,18,19,20,21,22],[0,1,2,3,4,5,6,7,8,9,10,11,12,13,14,15,16,17,18,19,20,21,22,23],[0,1,2,3,4,5,6,7,8,9,10,11,12,13,14,15,16,17,18,19,20,21,22,23,24]]
def zhV:List (List Nat):=[[],[21],[21,22],[21,22,25]]
def zcX:Plan:=[(0,[],[]),(1,[],[]),(2,[],[]),(3,[],[]),(4,[],[]),(4,[21],[21]),(5,[],[]),(6,[],[]),(7,[],[]),(8,[],[]),(9,[],[]),(10,[],[]),(11,[],[]),(12,[],[]),(13,[],[]),(14,[],[]),(15,[],[]),(16,[],[]),(17,[],[]),(18,[],[]),(19,[],[]),(20,[],[]),(21,[],[21]),(22,[21],[21,22]),(23,[21,22],[21,22]),(24,[21,22],[21,22]),(25,[21,22],[21,22,25])]
def zgb:ACode:=.seq (.region [ (oM 4 0),(oM 5 1),(oX 6 4),(oF 7 10 1 6),(oS 1 7 5)] [4,5,6,7]) (.seq (.region [ (oM 8 0),(oX 9 8),(oF 10 11 1 9),⟨none,.store 1 (.t 10) (.c (.int .i64 0)),none⟩] [8,9,10]) (.draw (ze4 zc8 zgL 26 (Wg 26 false)) [0,1,11,12,13,14,15,16,17,18,19,20,21,22,23,24,25,26,27,28,29,30,31,32,33,34,35]))
def zgy:List ARet:=[]
theorem zlK:zT Tryz.prog zaa (qRo [])=some (zgb.strip,zgy,36):=by kernel_rfl
def zd3:ACode:=.seq (.seq (.region [ (oM 10 7),(oF 11 6 1 3),(oL 12 11),(oE 13 12),(oB 14 .lss 10 13)] [10,11,12,13]) (.cond (.t 14) (.skip) (.exit 0))) (.seq (.block 1 (.seq (.draw ( .step (oF 18 6 1 3) ( .step (oL 19 18) ( .step (oM 20 7) ( .step (oI 21 5 19 20) ( .step (oA 22 5 21) ( .step (oM 23 0) ( .step (oX 24 23) ( .step (oF 25 3 1 24) ( .step (oA 26 1 25) ( .step (oM 27 0) ( .step (oX 28 27) ( .step (oF 29 4 3 28) ( .step (oA 30 3 29) ( .step (oN 31 (.callq znf [(.t 22),(.t 26),(.t 30)])) ( .step (oM 17 31) ( .step (oT 32 0 17) ( .step (oT 33 1 17) ( .step (oM 8 32) ( .step (oM 9 33) ( .done)))))))))))))))))))) [14,17,18,19,20,21,22,23,24,25,26,27,28,29,30,31,32,33]) (.seq (.seq (.region [ (oM 34 9),(oC 35 .neq 34 0)] [34]) (.cond (.t 35) (.seq (.region [ (oM 36 9),(oN 4 (.mknil 1)),(oM 5 36)] [0,3,6,7,8,9,35,36]) (.ret)) (.skip))) (.region [ (oM 37 6),(oM 38 8),(oN 39 (.buildSl 1 1 [.int .u32 0] [(0,(.t 38))])),(oN 40 (.append 1 4 (.t 37) (.t 39))),(oM 6 40)] [4,5,8,9,35,37,38,39,40])))) (.region [ (oM 15 7),(oC 16 .add 15 1),(oM 7 16)] [15,16]))
def zdV:ACode:=.seq (.region [ (oM 41 6),(oM 4 41),(oK 5 0)] [0,3,6,7,41]) (.ret)
def zfF:ACode:=.seq (.region [ (oN 3 (.rbox (.t 1))),(oN 4 (.mknil 1)),(oK 5 0)] [1,4,5]) (.seq (.region [ (oN 6 (.mknil 1))] []) (.seq (.seq (.region [ (oK 7 0)] []) (.block 0 (.loop zd3))) (zdV)))
def zcZ:List ARet:=[.tmp 4,.tmp 5]
theorem zkR:zT Tryz.prog zdB (qRo [3])=some (zfF.strip,zcZ,42):=by kernel_rfl
def zmX:ACode:=.seq (.seq (.region [ (oM 12 7),(oE 13 12),(oM 14 1),(oB 15 .leq 13 14),(oM 16 15),(oG 17 16 true (.mov (.t 1))),(oG 18 16 true (.bin .lss (.t 17) (.c (.int .i64 1000000)))),(oN 19 (.pick (.t 16) (.t 18) (.c (.bool false))))] [12,13,14,15,16,17,18]) (.cond (.t 19) (.skip) (.exit 0))) (.block 1 (.region [ (oM 20 7),(oN 21 (.buildSl 1 1 [.int .u32 0] [(0,(.c (.int .u32 0)))])),(oN 22 (.append 1 4 (.t 20) (.t 21))),(oM 7 22)] [19,20,21,22]))
def zm3:ACode:=.seq (.seq (.region [ (oM 23 1),(oC 24 .geq 23 0),(oM 25 24),(oG 26 25 true (.mov (.t 1))),(oG 27 25 true (.mov (.t 7))),(oG 28 25 true (.len (.t 27))),(oG 29 25 true (.bin .lss (.t 26) (.t 28))),(oN 30 (.pick (.t 25) (.t 29) (.c (.bool false))))] [23,24,25,26,27,28,29]) (.cond (.t 30) (.region [ (oM 31 7),(oM 32 1),(oM 33 2),(oI 34 1 31 32),(oS 1 34 33)] [1,2,30,31,32,33,34]) (.skip))) (.seq (.region [ (oM 35 7),(oN 36 (.build [.nilsl] [(0,1,(.t 35))])),(oS 1 6 36)] [1,2,7,30,35,36]) (.ret))
def zrV:ACode:=.seq (.region [ Yas,(oN 6 (.alloc [.nilsl]))] [0]) (.seq (.region [ (oN 7 (.mknil 1))] []) (.seq (.region [ (oM 8 7),(oF 9 0 1 3),(oL 10 9),(oN 11 (.append 1 4 (.t 8) (.t 10))),(oM 7 11)] [3,8,9,10,11]) (.seq (.block 0 (.loop zmX)) (zm3))))
def zrv:List ARet:=[.cell 6 true 1]
theorem zza:zT Tryz.prog zm1 (qRo [3])=some (zrV.strip,zrv,37):=by kernel_rfl
def zci:ACode:=(.seq (.region [ (oM 56 0),(oN 57 (.buildSl 1 0 [.int .u32 0] [])),(oM 58 0),(oX 59 58),(oF 60 3 1 59),(oF 61 0 1 60),(oL 62 61),(oN 63 (.slice 1 (.t 62) none (some (.c (.int .i64 12))))),(oN 64 (.append 1 4 (.t 57) (.t 63))),(oN 65 (.build [.nilsl] [(0,1,(.t 64))])),(oX 66 56),(oF 67 3 1 66),(oS 1 67 65)] [56,57,58,59,60,61,62,63,64,65,66,67]) (.seq (.region [ (oM 68 0),(oM 69 4),(oX 70 68),(oF 71 9 1 70),(oS 1 71 69)] [4,68,69,70,71]) (.mark 0 (.region [ (oM 72 0),(oN 73 (.call zaa [(.t 72),(.c (.int .i64 0))]))] [0,72,73]))))
def zcF:ACode:=(.seq (.draw ( .step (oF 37 3 1 5) ( .step (oL 38 37) ( .step (oM 39 0) ( .step (oX 40 39) ( .step (oF 41 3 1 40) ( .step (oF 42 0 1 41) ( .step (oL 43 42) ( .alt (oN 44 (.append 1 4 (.t 38) (.t 43))) ( .step (oF 45 3 1 5) ( .alt (oS 1 45 44) ( .done) ( .stop))) ( .stop))))))))) [37,38,39,40,41,42,43,44,45]) (.seq (.draw ( .step (oM 46 0) ( .step (oM 47 0) ( .step (oX 48 47) ( .step (oF 49 12 1 48) ( .alt (oL 50 49) ( .alt (oA 51 4 5) ( .alt (oN 52 (.buildSl 4 1 [.int .i64 0,.int .i64 0,.int .i64 0,.nilsl] [(0,(.t 51))])) ( .alt (oN 53 (.append 4 48 (.t 50) (.t 52))) ( .step (oX 54 46) ( .step (oF 55 12 1 54) ( .alt (oS 1 55 53) ( .done) ( .stop)))) ( .stop)) ( .stop)) ( .stop)) ( .alt (oA 51 4 5) ( .alt (oL 50 49) ( .alt (oN 52 (.buildSl 4 1 [.int .i64 0,.int .i64 0,.int .i64 0,.nilsl] [(0,(.t 51))])) ( .alt (oN 53 (.append 4 48 (.t 50) (.t 52))) ( .step (oX 54 46) ( .step (oF 55 12 1 54) ( .alt (oS 1 55 53) ( .done) ( .stop)))) ( .stop)) ( .stop)) ( .alt (oN 52 (.buildSl 4 1 [.int .i64 0,.int .i64 0,.int .i64 0,.nilsl] [(0,(.t 51))])) ( .step (oL 50 49) ( .alt (oN 53 (.append 4 48 (.t 50) (.t 52))) ( .step (oX 54 46) ( .step (oF 55 12 1 54) ( .alt (oS 1 55 53) ( .done) ( .stop)))) ( .stop))) ( .stop))) ( .stop))))))) [5,46,47,48,49,50,51,52,53,54,55]) (zci)))
def zg3:ACode:=.seq (.region [ (oM 6 0),(oX 7 6),(oF 8 0 3 7),(oA 9 3 8),(oM 10 1),(oN 11 (.call zfY [(.t 9),(.t 10)])),(oM 4 11)] [1,6,7,8,9,10,11]) (.seq (.seq (.region [ (oM 12 4),(oC 13 .lss 12 0)] [12]) (.cond (.t 13) (.seq (.region [ (oM 14 0),(oN 15 (.call z8 [(.t 14),(.c (.int .i64 17))]))] [0,4,13,14,15]) (.ret)) (.skip))) (.seq (.seq (.region [ (oM 16 0),(oX 17 16),(oF 18 12 1 17),(oL 19 18),(oE 20 19),(oC 21 .geq 20 256)] [13,16,17,18,19,20]) (.cond (.t 21) (.seq (.region [ (oM 22 0),(oN 23 (.call z8 [(.t 22),(.c (.int .i64 20))]))] [0,4,21,22,23]) (.ret)) (.skip))) (.seq (.draw ( .step (oM 24 0) ( .step (oX 25 24) ( .step (oF 26 9 1 25) ( .step (oM 28 0) ( .step (oX 29 28) ( .step (oF 30 10 1 29) ( .step (oM 32 0) ( .step (oX 33 32) ( .step (oF 34 11 1 33) ( .alt (oL 27 26) ( .alt (oL 31 30) ( .alt (oL 35 34) ( .step Yak ( .alt Yal ( .alt Yam ( .done) ( .stop)) ( .stop))) ( .alt Yal ( .step (oL 35 34) ( .step Yak ( .alt Yam ( .done) ( .stop)))) ( .stop))) ( .alt (oL 35 34) ( .alt (oL 31 30) ( .step Yak ( .alt Yal ( .alt Yam ( .done) ( .stop)) ( .stop))) ( .alt Yal ( .step (oL 31 30) ( .step Yak ( .alt Yam ( .done) ( .stop)))) ( .stop))) ( .alt Yal ( .step (oL 31 30) ( .step (oL 35 34) ( .step Yak ( .alt Yam ( .done) ( .stop))))) ( .stop)))) ( .alt (oL 31 30) ( .alt (oL 27 26) ( .alt (oL 35 34) ( .step Yak ( .alt Yal ( .alt Yam ( .done) ( .stop)) ( .stop))) ( .alt Yal ( .step (oL 35 34) ( .step Yak ( .alt Yam ( .done) ( .stop)))) ( .stop))) ( .alt (oL 35 34) ( .alt (oL 27 26) ( .step Yak ( .alt Yal ( .alt Yam ( .done) ( .stop)) ( .stop))) ( .alt Yal ( .step (oL 27 26) ( .step Yak ( .alt Yam ( .done) ( .stop)))) ( .stop))) ( .alt Yal ( .step (oL 27 26) ( .step (oL 35 34) ( .step Yak ( .alt Yam ( .done) ( .stop))))) ( .stop)))) ( .alt (oL 35 34) ( .alt (oL 27 26) ( .alt (oL 31 30) ( .step Yak ( .alt Yal ( .alt Yam ( .done) ( .stop)) ( .stop))) ( .alt Yal ( .step (oL 31 30) ( .step Yak ( .alt Yam ( .done) ( .stop)))) ( .stop))) ( .alt (oL 31 30) ( .alt (oL 27 26) ( .step Yak ( .alt Yal ( .alt Yam ( .done) ( .stop)) ( .stop))) ( .alt Yal ( .step (oL 27 26) ( .step Yak ( .alt Yam ( .done) ( .stop)))) ( .stop))) ( .alt Yal ( .step (oL 27 26) ( .step (oL 31 30) ( .step Yak ( .alt Yam ( .done) ( .stop))))) ( .stop)))) ( .alt Yal ( .step (oL 27 26) ( .step (oL 31 30) ( .step (oL 35 34) ( .step Yak ( .alt Yam ( .done) ( .stop)))))) ( .stop)))))))))))))) [21,24,25,26,27,28,29,30,31,32,33,34,35,36]) (zcF))))
def zbb:List ARet:=[]
theorem zm2:zT Tryz.prog zeI (qRo [])=some (zg3.strip,zbb,74):=by kernel_rfl
def ze0:ACode:=.seq (.seq (.region [ (oM 32 4),(oC 33 .lss 32 12)] [32]) (.cond (.t 33) (.skip) (.exit 0))) (.seq (.block 1 (.draw ( .step (oF 36 3 1 3) ( .step (oL 37 36) ( .step (oM 38 4) ( .step (oM 39 0) ( .step (oX 40 39) ( .step (oF 41 3 1 40) ( .step (oF 42 0 1 41) ( .step (oL 43 42) ( .step (oM 44 4) ( .step (oI 45 1 43 44) ( .step (oL 46 45) ( .step (oI 47 1 37 38) ( .alt (oS 1 47 46) ( .done) ( .stop)))))))))))))) [33,36,37,38,39,40,41,42,43,44,45,46,47])) (.region [ (oM 34 4),(oC 35 .add 34 1),(oM 4 35)] [34,35]))
def zeY:ACode:=.seq (.region [ (oM 48 0),(oF 49 3 1 3),(oL 50 49),(oN 51 (.build [.nilsl] [(0,1,(.t 50))])),(oX 52 48),(oF 53 3 1 52),(oS 1 53 51)] [4,48,49,50,51,52,53]) (.seq (.region [ (oM 54 0),(oF 55 0 1 3),(oL 56 55),(oX 57 54),(oF 58 9 1 57),(oS 1 58 56)] [54,55,56,57,58]) (.seq (.region [ (oM 59 0),(oF 60 1 1 3),(oL 61 60),(oX 62 59),(oF 63 10 1 62),(oS 1 63 61)] [59,60,61,62,63]) (.region [ (oM 64 0),(oF 65 2 1 3),(oL 66 65),(oX 67 64),(oF 68 11 1 67),(oS 1 68 66)] [0,3,64,65,66,67,68])))
def zg4:ACode:=.seq (.region [ (oM 5 0),(oX 6 5),(oF 7 12 1 6),(oL 8 7),(oE 9 8),(oM 2 9)] [5,6,7,8,9]) (.seq (.seq (.region [ (oM 10 2),(oC 11 .eql 10 0)] [10]) (.cond (.t 11) (.seq (.region [ (oM 12 0),(oN 13 (.call z8 [(.t 12),(.c (.int .i64 0))]))] [0,2,11,12,13]) (.ret)) (.skip))) (.seq (.region [ (oM 14 0),(oX 15 14),(oF 16 12 1 15),(oL 17 16),(oM 18 2),(oC 19 .sub 18 1),(oI 20 4 17 19),(oA 21 4 20),(oN 3 (.alloc [.int .i64 0,.int .i64 0,.int .i64 0,.nilsl])),(oS 4 3 21)] [11,14,15,16,17,18,19,20,21]) (.seq (.region [ (oM 22 0),(oM 23 0),(oX 24 23),(oF 25 12 1 24),(oL 26 25),(oM 27 2),(oC 28 .sub 27 1),(oN 29 (.slice 4 (.t 26) none (some (.t 28)))),(oX 30 22),(oF 31 12 1 30),(oS 1 31 29)] [2,22,23,24,25,26,27,28,29,30,31]) (.seq (.seq (.region [ (oK 4 0)] []) (.block 0 (.loop ze0))) (zeY)))))
def zef:List ARet:=[]
theorem zmB:zT Tryz.prog zev (qRo [])=some (zg4.strip,zef,69):=by kernel_rfl
def zk0:ACode:=.seq (.region [ Yai] [2]) (.seq (.region [ (oM 3 0),(oC 4 .eql 3 1),(oM 5 4),(oG 6 5 false (.mov (.t 0))),(oG 7 5 false (.bin .eql (.t 6) (.c (.int .i64 2)))),(oN 8 (.pick (.t 5) (.c (.bool true)) (.t 7))),(oM 9 8),(oG 10 9 false (.mov (.t 0))),(oG 11 9 false (.bin .eql (.t 10) (.c (.int .i64 4)))),(oN 12 (.pick (.t 9) (.c (.bool true)) (.t 11))),(oM 2 12)] [0,3,4,5,6,7,8,9,10,11,12]) (.ret))
def zdi:List ARet:=[.tmp 2]
theorem zqW:zT Tryz.prog zfO (qRo [])=some (zk0.strip,zdi,13):=by kernel_rfl
def zo3:ACode:=.seq (.region [ Yaj,(oK 4 0)] [0,4]) (.seq (.region [ (oA 6 3 2),(oM 7 1),(oN 8 (.call zeX [(.t 6),(.t 7)])),(oM 5 8)] [6,7,8]) (.seq (.seq (.region [ (oM 9 5),(oC 10 .lss 9 0)] [9]) (.cond (.t 10) (.seq (.region [ (oK 4 0)] [1,2,5,10]) (.ret)) (.skip))) (.seq (.seq (.region [ (oM 11 5),(oF 12 1 1 2),(oL 13 12),(oE 14 13),(oB 15 .eql 11 14)] [4,10,11,12,13,14]) (.cond (.t 15) (.seq (.region [ (oM 16 1),(oN 17 (.bin .sub (.c (.int .u32 983040)) (.t 16))),(oN 18 (.conv .i64 (.t 17))),(oM 4 18)] [1,2,5,15,16,17,18]) (.ret)) (.skip))) (.seq (.draw ( .step (oF 19 1 1 2) ( .step (oL 20 19) ( .step (oM 21 5) ( .step (oI 22 5 20 21) ( .step (oF 23 2 1 22) ( .step (oL 24 23) ( .step (oE 25 24) ( .step (oM 26 1) ( .step (oF 27 1 1 2) ( .step (oL 28 27) ( .step (oM 29 5) ( .step (oI 30 5 28 29) ( .step (oF 31 1 1 30) ( .step (oL 32 31) ( .step (oB 33 .sub 26 32) ( .step (oN 34 (.conv .i64 (.t 33))) ( .step (oB 35 .sub 25 34) ( .step (oM 4 35) ( .done))))))))))))))))))) [1,2,5,15,19,20,21,22,23,24,25,26,27,28,29,30,31,32,33,34,35]) (.ret)))))
def ziw:List ARet:=[.tmp 4]
theorem zxi:zT Tryz.prog zkJ (qRo [2])=some (zo3.strip,ziw,36):=by kernel_rfl
def zmi:ACode:=.seq (.region [ Yaj,(oK 4 0)] [0,4]) (.seq (.seq (.region [ (oM 5 1),(oN 6 (.bin .geq (.t 5) (.c (.int .u32 978944)))),(oM 7 6),(oG 8 7 true (.mov (.t 1))),(oG 9 7 true (.bin .lss (.t 8) (.c (.int .u32 983040)))),(oN 10 (.pick (.t 7) (.t 9) (.c (.bool false))))] [5,6,7,8,9]) (.cond (.t 10) (.seq (.region [ (oF 11 1 1 2),(oL 12 11),(oE 13 12),(oM 4 13)] [1,2,10,11,12,13]) (.ret)) (.skip))) (.seq (.region [ (oF 14 1 1 2),(oL 15 14),(oM 16 1),(oN 17 (.call zkC [(.t 15),(.t 16)])),(oM 4 17)] [1,2,10,14,15,16,17]) (.ret)))
def zfW:List ARet:=[.tmp 4]
theorem zs8:zT Tryz.prog zeX (qRo [2])=some (zmi.strip,zfW,18):=by kernel_rfl
def zko:ACode:=.seq (.seq (.region [ (oM 9 7),(oF 10 2 1 3),(oL 11 10),(oE 12 11),(oB 13 .lss 9 12),(oM 14 13),(oG 15 14 true (.fldaddr 2 1 (.t 3))),(oG 16 14 true (.load false 1 (.t 15))),(oG 17 14 true (.mov (.t 7))),(oG 18 14 true (.idx 2 (.t 16) (.t 17))),(oG 19 14 true (.fldaddr 0 1 (.t 18))),(oG 20 14 true (.load false 1 (.t 19))),(oG 21 14 true (.mov (.t 1))),(oG 22 14 true (.bin .lss (.t 20) (.t 21))),(oN 23 (.pick (.t 14) (.t 22) (.c (.bool false))))] [9,10,11,12,13,14,15,16,17,18,19,20,21,22]) (.cond (.t 23) (.skip) (.exit 0))) (.block 1 (.region [ (oM 24 7),(oC 25 .add 24 1),(oM 7 25)] [23,24,25]))
def zgG:ACode:=.seq (.region [ (oN 26 (.buildSl 2 0 [.int .u32 0,.int .u8 0] [])),(oF 27 2 1 3),(oL 28 27),(oM 29 7),(oN 30 (.slice 2 (.t 28) none (some (.t 29)))),(oN 31 (.append 2 8 (.t 26) (.t 30))),(oM 8 31)] [26,27,28,29,30,31]) (.seq (.region [ (oM 32 8),(oM 33 1),(oM 34 2),(oN 35 (.build [.int .u32 0,.int .u8 0] [(0,1,(.t 33)),(1,1,(.t 34))])),(oN 36 (.buildSl 2 1 [.int .u32 0,.int .u8 0] [(0,(.t 35))])),(oN 37 (.append 2 8 (.t 32) (.t 36))),(oM 8 37)] [2,32,33,34,35,36,37]) (.seq (.seq (.region [ (oM 38 7),(oF 39 2 1 3),(oL 40 39),(oE 41 40),(oB 42 .lss 38 41),(oM 43 42),(oG 44 43 true (.fldaddr 2 1 (.t 3))),(oG 45 43 true (.load false 1 (.t 44))),(oG 46 43 true (.mov (.t 7))),(oG 47 43 true (.idx 2 (.t 45) (.t 46))),(oG 48 43 true (.fldaddr 0 1 (.t 47))),(oG 49 43 true (.load false 1 (.t 48))),(oG 50 43 true (.mov (.t 1))),(oG 51 43 true (.bin .eql (.t 49) (.t 50))),(oN 52 (.pick (.t 43) (.t 51) (.c (.bool false))))] [1,38,39,40,41,42,43,44,45,46,47,48,49,50,51]) (.cond (.t 52) (.region [ (oM 53 7),(oC 54 .add 53 1),(oM 7 54)] [52,53,54]) (.skip))) (.seq (.region [ (oM 55 8),(oF 56 2 1 3),(oL 57 56),(oM 58 7),(oN 59 (.slice 2 (.t 57) (some (.t 58)) none)),(oN 60 (.append 2 8 (.t 55) (.t 59))),(oF 61 2 1 3),(oS 1 61 60)] [7,8,52,55,56,57,58,59,60,61]) (.seq (.region [ (oA 62 3 3),(oS 3 6 62)] [3,62]) (.ret)))))
def zn2:ACode:=.seq (.region [ (oN 3 (.box (.t 0))),(oN 6 (.alloc [.bool false,.nilsl,.nilsl]))] [0]) (.seq (.region [ (oK 7 0)] []) (.seq (.block 0 (.loop zko)) (zgG)))
def zhb:List ARet:=[.cell 6 true 3]
theorem zuG:zT Tryz.prog zlQ (qRo [])=some (zn2.strip,zhb,63):=by kernel_rfl
def zqB:ACode:=.seq (.region [ Yas,(oN 4 (.rbox (.t 1))),(oN 5 (.rbox (.t 2))),Yao,(oK 7 0)] [0,1,2,6,7]) (.seq (.region [ (oA 9 5 3),(oN 10 (.call zd0 [(.t 9)])),(oM 8 10)] [9,10]) (.seq (.seq (.region [ (oM 11 8),(oC 12 .neq 11 0)] [11]) (.cond (.t 12) (.seq (.region [ (oM 13 8),Yao,(oM 7 13)] [3,4,5,8,12,13]) (.ret)) (.skip))) (.seq (.region [ (oA 14 5 3),(oA 15 1 4),(oA 16 3 5),(oN 17 (.call zhK [(.t 14),(.t 15),(.t 16)])),(oT 18 0 17),(oT 19 1 17),(oM 6 18),(oM 7 19)] [3,4,5,8,12,14,15,16,17,18,19]) (.ret))))
def zlL:List ARet:=[.tmp 6,.tmp 7]
theorem zxo:zT Tryz.prog znf (qRo [3,4,5])=some (zqB.strip,zlL,20):=by kernel_rfl
def zsc:ACode:=.seq (.region [ Yaf,(oK 2 0)] [0,2]) (.seq (.region [ (oF 4 1 1 1),(oL 5 4),(oN 6 (.conv .i64 (.t 5))),(oF 7 2 1 1),(oL 8 7),(oE 9 8),(oB 10 .add 6 9),(oM 3 10)] [1,4,5,6,7,8,9,10]) (.seq (.seq (.region [ (oM 11 3),(oC 12 .gtr 11 4294967295)] [11]) (.cond (.t 12) (.seq (.region [ (oK 2 4294967295)] [3,12]) (.ret)) (.skip))) (.seq (.region [ (oM 13 3),(oM 2 13)] [3,12,13]) (.ret))))
def znz:List ARet:=[.tmp 2]
theorem zzx:zT Tryz.prog zmV (qRo [1])=some (zsc.strip,znz,14):=by kernel_rfl
def zll:ACode:=.seq (.seq (.region [ (oM 6 5),(oM 7 0),(oE 8 7),(oB 9 .lss 6 8)] [6,7,8]) (.cond (.t 9) (.skip) (.exit 0))) (.seq (.block 1 (.seq (.region [ (oM 12 0),(oM 13 5),(oI 14 5 12 13),(oF 15 1 1 14),(oL 16 15),(oM 17 1),(oB 18 .leq 16 17),(oM 19 18),(oG 20 19 true (.mov (.t 1))),(oG 21 19 true (.conv .i64 (.t 20))),(oG 22 19 true (.mov (.t 0))),(oG 23 19 true (.mov (.t 5))),(oG 24 19 true (.idx 5 (.t 22) (.t 23))),(oG 25 19 true (.load true 5 (.t 24))),(oG 26 19 true (.call zmV [(.t 25)])),(oG 27 19 true (.bin .lss (.t 21) (.t 26))),(oN 28 (.pick (.t 19) (.t 27) (.c (.bool false))))] [9,12,13,14,15,16,17,18,19,20,21,22,23,24,25,26,27]) (.cond (.t 28) (.seq (.region [ (oM 29 5),(oM 4 29)] [0,1,5,28,29]) (.ret)) (.skip)))) (.region [ (oM 10 5),(oC 11 .add 10 1),(oM 5 11)] [4,10,11,28]))
def zlc:ACode:=.seq (.region [ (oK 4 (-1))] [0,1,5]) (.ret)
def zpA:ACode:=.seq (.region [ (oK 4 0)] [4]) (.seq (.seq (.region [ (oK 5 0)] []) (.block 0 (.loop zll))) (zlc))
def zl1:List ARet:=[.tmp 4]
theorem zw0:zT Tryz.prog zkC (qRo [])=some (zpA.strip,zl1,30):=by kernel_rfl
def zo2:ACode:=.seq (.region [ Yas,(oN 4 (.rbox (.t 1))),(oN 5 (.rbox (.t 2))),Yao,(oK 7 0)] [0,1,2,6,7]) (.seq (.seq (.region [ (oF 11 0 1 3),(oL 12 11),(oC 13 .eql 12 1)] [11,12]) (.cond (.t 13) (.seq (.region [ (oF 14 1 1 3),(oL 15 14),(oM 6 15),(oK 7 0)] [3,4,5,13,14,15]) (.ret)) (.skip))) (.seq (.seq (.region [ (oF 16 0 1 3),(oL 17 16),(oC 18 .eql 17 2)] [6,7,13,16,17]) (.cond (.t 18) (.seq (.region [ (oA 19 1 4),(oF 20 2 1 3),(oL 21 20),(oN 22 (.call zlx [(.t 19),(.t 21)])),(oM 6 22),(oK 7 0)] [3,4,5,18,19,20,21,22]) (.ret)) (.skip))) (.seq (.draw ( .step (oF 24 4 1 3) ( .step (oL 25 24) ( .step (oN 26 (.idx 5 (.t 25) (.c (.int .i64 0)))) ( .step (oA 27 5 26) ( .step (oA 28 1 4) ( .step (oA 29 3 5) ( .step (oN 30 (.callq zhK [(.t 27),(.t 28),(.t 29)])) ( .step (oM 23 30) ( .step (oT 31 0 23) ( .step (oT 32 1 23) ( .step (oM 8 31) ( .step (oM 9 32) ( .done))))))))))))) [6,7,18,23,24,25,26,27,28,29,30,31,32]) (.seq (.seq (.region [ (oM 33 9),(oC 34 .neq 33 0)] [33]) (.cond (.t 34) (.seq (.region [ (oM 35 9),Yao,(oM 7 35)] [3,4,5,8,9,34,35]) (.ret)) (.skip))) (.seq (.seq (.region [ (oF 36 0 1 3),(oL 37 36)] [6,7,9,34,36]) (.block 0 (.seq (.region [ (oC 39 .eql 37 16),(oM 38 39)] [39]) (.cond (.t 38) (.seq (.seq (.region [ (oM 40 8),(oN 41 (.bin .eql (.t 40) (.c (.int .u32 0))))] [3,4,5,8,37,38,40]) (.cond (.t 41) (.seq (.region [ (oN 6 (.mov (.c (.int .u32 1)))),(oK 7 0)] [41]) (.ret)) (.skip))) (.seq (.region [ Yao,(oK 7 0)] [41]) (.ret))) (.seq (.region [ (oC 43 .eql 37 17),(oM 42 43)] [38,43]) (.cond (.t 42) (.seq (.region [ (oM 44 8),(oN 45 (.bin .sub (.c (.int .u32 0)) (.t 44))),(oM 6 45),(oK 7 0)] [3,4,5,8,37,42,44,45]) (.ret)) (.seq (.region [ (oC 47 .eql 37 18),(oM 46 47)] [42,47]) (.cond (.t 46) (.seq (.region [ (oA 48 3 5),(oM 49 8),(oF 50 3 1 3),(oL 51 50),(oN 52 (.call znt [(.t 48),(.t 49),(.t 51)])),(oT 53 0 52),(oT 54 1 52),(oM 6 53),(oM 7 54)] [3,4,5,8,37,46,48,49,50,51,52,53,54]) (.ret)) (.seq (.region [ (oC 56 .eql 37 19),(oM 55 56)] [37,46,56]) (.cond (.t 55) (.seq (.region [ (oM 57 8),(oF 58 3 1 3),(oL 59 58),(oN 60 (.call zgS [(.t 57),(.t 59)])),(oM 6 60),(oK 7 0)] [3,4,5,8,55,57,58,59,60]) (.ret)) (.skip))))))))))) (.seq (.draw ( .step (oF 62 4 1 3) ( .step (oL 63 62) ( .step (oN 64 (.idx 5 (.t 63) (.c (.int .i64 1)))) ( .step (oA 65 5 64) ( .step (oA 66 1 4) ( .step (oA 67 3 5) ( .step (oN 68 (.callq zhK [(.t 65),(.t 66),(.t 67)])) ( .step (oM 61 68) ( .step (oT 69 0 61) ( .step (oT 70 1 61) ( .step (oM 10 69) ( .step (oM 9 70) ( .done))))))))))))) [4,5,6,7,55,61,62,63,64,65,66,67,68,69,70]) (.seq (.seq (.region [ (oM 71 9),(oC 72 .neq 71 0)] [71]) (.cond (.t 72) (.seq (.region [ (oM 73 9),Yao,(oM 7 73)] [3,8,9,10,72,73]) (.ret)) (.skip))) (.seq (.region [ (oF 74 0 1 3),(oL 75 74),(oM 76 8),(oM 77 10),(oN 78 (.call zih [(.t 75),(.t 76),(.t 77)])),(oT 79 0 78),(oT 80 1 78),(oM 6 79),(oM 7 80)] [3,8,9,10,72,74,75,76,77,78,79,80]) (.ret)))))))))
def zbx:List ARet:=[.tmp 6,.tmp 7]
theorem zwA:zT Tryz.prog zhK (qRo [3,4,5])=some (zo2.strip,zbx,81):=by kernel_rfl
def znY:ACode:=.seq (.region [ Yaj,Yau] [0,4]) (.seq (.seq (.region [ (oM 5 1),(oC 6 .lss 5 0),(oM 7 6),(oG 8 7 false (.mov (.t 1))),(oG 9 7 false (.fldaddr 0 1 (.t 2))),(oG 10 7 false (.load false 1 (.t 9))),(oG 11 7 false (.len (.t 10))),(oG 12 7 false (.bin .geq (.t 8) (.t 11))),(oN 13 (.pick (.t 7) (.c (.bool true)) (.t 12)))] [5,6,7,8,9,10,11,12]) (.cond (.t 13) (.seq (.region [ Yau] [1,2,13]) (.ret)) (.skip))) (.seq (.region [ (oF 14 0 1 2),(oL 15 14),(oM 16 1),(oI 17 1 15 16),(oL 18 17),(oM 4 18)] [1,2,13,14,15,16,17,18]) (.ret)))
def zhe:List ARet:=[.tmp 4]
theorem zu6:zT Tryz.prog zlx (qRo [2])=some (znY.strip,zhe,19):=by kernel_rfl
def zk8:ACode:=.seq (.seq (.region [ (oM 23 9),(oC 24 .geq 23 0)] [23]) (.cond (.t 24) (.skip) (.exit 0))) (.seq (.block 1 (.region [ (oM 27 8),(oN 28 (.bin .mul (.c (.int .u32 256)) (.t 27))),(oA 29 3 3),(oM 30 1),(oM 31 9),(oN 32 (.conv .u32 (.t 31))),(oB 33 .add 30 32),(oN 34 (.call ziJ [(.t 29),(.t 33)])),(oN 35 (.conv .u32 (.t 34))),(oB 36 .add 28 35),(oM 8 36)] [24,27,28,29,30,31,32,33,34,35,36])) (.region [ (oM 25 9),(oC 26 .sub 25 1),(oM 9 26)] [25,26]))
def zlk:ACode:=.seq (.region [ (oM 37 8),(oM 6 37),(oK 7 0)] [1,3,8,9,37]) (.ret)
def zqa:ACode:=.seq (.region [ Yas,Yao,(oK 7 0)] [0,6,7]) (.seq (.seq (.region [ (oF 10 0 1 3),(oL 11 10),(oN 12 (.un .not (.t 11)))] [10,11]) (.cond (.t 12) (.seq (.region [ Yao,(oK 7 1)] [1,2,3,12]) (.ret)) (.skip))) (.seq (.seq (.region [ (oM 13 2),(oN 14 (.call zfO [(.t 13)])),(oN 15 (.un .not (.t 14)))] [6,7,12,13,14]) (.cond (.t 15) (.seq (.region [ Yao,(oK 7 2)] [1,2,3,15]) (.ret)) (.skip))) (.seq (.seq (.region [ (oA 16 3 3),(oM 17 1),(oN 18 (.call zkJ [(.t 16),(.t 17)])),(oM 19 2),(oB 20 .lss 18 19)] [6,7,15,16,17,18,19]) (.cond (.t 20) (.seq (.region [ Yao,(oK 7 11)] [1,2,3,20]) (.ret)) (.skip))) (.seq (.region [ (oN 8 (.mov (.c (.int .u32 0))))] [6,7,20]) (.seq (.seq (.region [ (oM 21 2),(oC 22 .sub 21 1),(oM 9 22)] [2,21,22]) (.block 0 (.loop zk8))) (zlk))))))
def zia:List ARet:=[.tmp 6,.tmp 7]
theorem zxm:zT Tryz.prog znt (qRo [3])=some (zqa.strip,zia,38):=by kernel_rfl
def zcO:ACode:=.seq (.region [ Yau] [4]) (.seq (.region [ (oM 6 0),(oM 7 1),(oN 8 (.call zhA [(.t 6),(.t 7)])),(oM 5 8)] [0,6,7,8]) (.seq (.seq (.region [ (oM 9 1),(oC 10 .eql 9 1),(oM 11 10),(oG 12 11 true (.mov (.t 5))),(oG 13 11 true (.bin .geq (.t 12) (.c (.int .u32 128)))),(oN 14 (.pick (.t 11) (.t 13) (.c (.bool false))))] [9,10,11,12,13]) (.cond (.t 14) (.seq (.region [ (oM 15 5),(oN 16 (.bin .sub (.t 15) (.c (.int .u32 256)))),(oM 4 16)] [1,5,14,15,16]) (.ret)) (.skip))) (.seq (.seq (.region [ (oM 17 1),(oC 18 .eql 17 2),(oM 19 18),(oG 20 19 true (.mov (.t 5))),(oG 21 19 true (.bin .geq (.t 20) (.c (.int .u32 32768)))),(oN 22 (.pick (.t 19) (.t 21) (.c (.bool false))))] [1,4,14,17,18,19,20,21]) (.cond (.t 22) (.seq (.region [ (oM 23 5),(oN 24 (.bin .sub (.t 23) (.c (.int .u32 65536)))),(oM 4 24)] [5,22,23,24]) (.ret)) (.skip))) (.seq (.region [ (oM 25 5),(oM 4 25)] [5,22,25]) (.ret)))))
def zcQ:List ARet:=[.tmp 4]
theorem zd7:zT Tryz.prog zgS (qRo [])=some (zcO.strip,zcQ,26):=by kernel_rfl
def zdG:ACode:=.seq (.region [ Yao,(oK 7 0)] [6,7]) (.seq (.seq (.region [ (oM 8 0)] [0]) (.block 0 (.seq (.region [ (oC 10 .eql 8 3),(oM 9 10)] [10]) (.cond (.t 9) (.seq (.region [ (oM 11 1),(oM 12 2),(oB 13 .add 11 12),(oM 6 13),(oK 7 0)] [1,2,8,9,11,12,13]) (.ret)) (.seq (.region [ (oC 15 .eql 8 4),(oM 14 15)] [9,15]) (.cond (.t 14) (.seq (.region [ (oM 16 1),(oM 17 2),(oB 18 .sub 16 17),(oM 6 18),(oK 7 0)] [1,2,8,14,16,17,18]) (.ret)) (.seq (.region [ (oC 20 .eql 8 5),(oM 19 20)] [14,20]) (.cond (.t 19) (.seq (.region [ (oM 21 1),(oM 22 2),(oB 23 .mul 21 22),(oM 6 23),(oK 7 0)] [1,2,8,19,21,22,23]) (.ret)) (.seq (.region [ (oC 25 .eql 8 6),(oM 24 25)] [19,25]) (.cond (.t 24) (.seq (.region [ (oM 26 1),(oM 27 2),(oB 28 .and 26 27),(oM 6 28),(oK 7 0)] [1,2,8,24,26,27,28]) (.ret)) (.seq (.region [ (oC 30 .eql 8 7),(oM 29 30)] [24,30]) (.cond (.t 29) (.seq (.region [ (oM 31 1),(oM 32 2),(oB 33 .or 31 32),(oM 6 33),(oK 7 0)] [1,2,8,29,31,32,33]) (.ret)) (.seq (.region [ (oC 35 .eql 8 8),(oM 34 35)] [29,35]) (.cond (.t 34) (.seq (.region [ (oM 36 1),(oM 37 2),(oB 38 .xor 36 37),(oM 6 38),(oK 7 0)] [1,2,8,34,36,37,38]) (.ret)) (.seq (.region [ (oC 40 .eql 8 9),(oM 39 40)] [34,40]) (.cond (.t 39) (.seq (.region [ (oM 41 1),(oM 42 2),(oN 43 (.call zph [(.t 41),(.t 42)])),(oM 6 43),(oK 7 0)] [1,2,8,39,41,42,43]) (.ret)) (.seq (.region [ (oC 45 .eql 8 10),(oM 44 45)] [39,45]) (.cond (.t 44) (.seq (.region [ (oM 46 1),(oM 47 2),(oN 48 (.call zo8 [(.t 46),(.t 47)])),(oM 6 48),(oK 7 0)] [1,2,8,44,46,47,48]) (.ret)) (.seq (.region [ (oC 50 .eql 8 11),(oM 49 50)] [44,50]) (.cond (.t 49) (.seq (.region [ (oM 51 1),(oM 52 2),(oN 53 (.call zqg [(.t 51),(.t 52)])),(oM 6 53),(oK 7 0)] [1,2,8,49,51,52,53]) (.ret)) (.seq (.region [ (oC 55 .eql 8 12),(oM 54 55)] [49,55]) (.cond (.t 54) (.seq (.region [ (oM 56 1),(oM 57 2),(oB 58 .eql 56 57),(oN 59 (.call zdR [(.t 58)])),(oM 6 59),(oK 7 0)] [1,2,8,54,56,57,58,59]) (.ret)) (.seq (.region [ (oC 61 .eql 8 13),(oM 60 61)] [54,61]) (.cond (.t 60) (.seq (.region [ (oM 62 1),(oM 63 2),(oB 64 .neq 62 63),(oN 65 (.call zdR [(.t 64)])),(oM 6 65),(oK 7 0)] [1,2,8,60,62,63,64,65]) (.ret)) (.seq (.region [ (oC 67 .eql 8 14),(oM 66 67)] [60,67]) (.cond (.t 66) (.seq (.region [ (oM 68 1),(oN 69 (.conv .i32 (.t 68))),(oM 70 2),(oN 71 (.conv .i32 (.t 70))),(oB 72 .lss 69 71),(oN 73 (.call zdR [(.t 72)])),(oM 6 73),(oK 7 0)] [1,2,8,66,68,69,70,71,72,73]) (.ret)) (.seq (.region [ (oC 75 .eql 8 15),(oM 74 75)] [8,66,75]) (.cond (.t 74) (.seq (.region [ (oM 76 1),(oM 77 2),(oB 78 .lss 76 77),(oN 79 (.call zdR [(.t 78)])),(oM 6 79),(oK 7 0)] [1,2,74,76,77,78,79]) (.ret)) (.skip))))))))))))))))))))))))))))) (.seq (.region [ Yao,(oK 7 2)] [1,2,74]) (.ret)))
def zdI:List ARet:=[.tmp 6,.tmp 7]
theorem zeT:zT Tryz.prog zih (qRo [])=some (zdG.strip,zdI,80):=by kernel_rfl
def zhH:ACode:=.seq (.seq (.region [ (oM 6 5),(oF 7 2 1 2),(oL 8 7),(oE 9 8),(oB 10 .lss 6 9)] [6,7,8,9]) (.cond (.t 10) (.skip) (.exit 0))) (.seq (.block 1 (.seq (.region [ (oF 13 2 1 2),(oL 14 13),(oM 15 5),(oI 16 2 14 15),(oF 17 0 1 16),(oL 18 17),(oM 19 1),(oB 20 .eql 18 19)] [10,13,14,15,16,17,18,19]) (.cond (.t 20) (.seq (.region [ (oF 21 2 1 2),(oL 22 21),(oM 23 5),(oI 24 2 22 23),(oF 25 1 1 24),(oL 26 25),(oM 4 26)] [1,2,5,20,21,22,23,24,25,26]) (.ret)) (.skip)))) (.region [ (oM 11 5),(oC 12 .add 11 1),(oM 5 12)] [4,11,12,20]))
def zhW:ACode:=.seq (.region [ (oA 27 3 2),(oM 28 1),(oN 29 (.call ziM [(.t 27),(.t 28)])),(oM 4 29)] [1,2,5,27,28,29]) (.ret)
def zk6:ACode:=.seq (.region [ Yaj,(oN 4 (.mov (.c (.int .u8 0))))] [0,4]) (.seq (.seq (.region [ (oK 5 0)] []) (.block 0 (.loop zhH))) (zhW))
def zhB:List ARet:=[.tmp 4]
theorem zqU:zT Tryz.prog ziJ (qRo [2])=some (zk6.strip,zhB,30):=by kernel_rfl
def zjM:ACode:=.seq (.region [ Yau] [4]) (.seq (.seq (.region [ (oM 5 1)] [1]) (.block 0 (.seq (.region [ (oC 7 .eql 5 1),(oM 6 7)] [7]) (.cond (.t 6) (.seq (.region [ (oM 8 0),(oN 9 (.bin .rem (.t 8) (.c (.int .u32 256)))),(oM 4 9)] [0,5,6,8,9]) (.ret)) (.seq (.region [ (oC 11 .eql 5 2),(oM 10 11)] [5,6,11]) (.cond (.t 10) (.seq (.region [ (oM 12 0),(oN 13 (.bin .rem (.t 12) (.c (.int .u32 65536)))),(oM 4 13)] [0,10,12,13]) (.ret)) (.skip))))))) (.seq (.region [ (oM 14 0),(oM 4 14)] [0,10,14]) (.ret)))
def zec:List ARet:=[.tmp 4]
theorem zqc:zT Tryz.prog zhA (qRo [])=some (zjM.strip,zec,15):=by kernel_rfl
def zmw:ACode:=.seq (.seq (.region [ (oM 6 5),(oM 7 1),(oN 8 (.bin .rem (.t 7) (.c (.int .u32 32)))),(oB 9 .lss 6 8)] [6,7,8]) (.cond (.t 9) (.skip) (.exit 0))) (.seq (.block 1 (.region [ (oM 12 0),(oN 13 (.bin .mul (.t 12) (.c (.int .u32 2)))),(oM 0 13)] [9,12,13])) (.region [ (oM 10 5),(oN 11 (.bin .add (.t 10) (.c (.int .u32 1)))),(oM 5 11)] [10,11]))
def zmQ:ACode:=.seq (.region [ (oM 14 0),(oM 4 14)] [0,1,5,14]) (.ret)
def zrN:ACode:=.seq (.region [ Yau] [4]) (.seq (.seq (.region [ (oN 5 (.mov (.c (.int .u32 0))))] []) (.block 0 (.loop zmw))) (zmQ))
def zrK:List ARet:=[.tmp 4]
theorem zAg:zT Tryz.prog zph (qRo [])=some (zrN.strip,zrK,15):=by kernel_rfl
def zmR:ACode:=.seq (.seq (.region [ (oM 6 5),(oM 7 1),(oN 8 (.bin .rem (.t 7) (.c (.int .u32 32)))),(oB 9 .lss 6 8)] [6,7,8]) (.cond (.t 9) (.skip) (.exit 0))) (.seq (.block 1 (.region [ (oM 12 0),(oN 13 (.bin .quo (.t 12) (.c (.int .u32 2)))),(oM 0 13)] [9,12,13])) (.region [ (oM 10 5),(oN 11 (.bin .add (.t 10) (.c (.int .u32 1)))),(oM 5 11)] [10,11]))
def zmE:ACode:=.seq (.region [ (oM 14 0),(oM 4 14)] [0,1,5,14]) (.ret)
def zrE:ACode:=.seq (.region [ Yau] [4]) (.seq (.seq (.region [ (oN 5 (.mov (.c (.int .u32 0))))] []) (.block 0 (.loop zmR))) (zmE))
def zr3:List ARet:=[.tmp 4]
theorem zzl:zT Tryz.prog zo8 (qRo [])=some (zrE.strip,zr3,15):=by kernel_rfl
def zip:ACode:=.seq (.seq (.region [ (oM 9 6),(oM 10 1),(oN 11 (.bin .rem (.t 10) (.c (.int .u32 32)))),(oB 12 .lss 9 11)] [9,10,11]) (.cond (.t 12) (.skip) (.exit 0))) (.seq (.block 1 (.region [ (oM 15 0),(oN 16 (.bin .quo (.t 15) (.c (.int .u32 2)))),(oM 17 5),(oB 18 .add 16 17),(oM 0 18)] [12,15,16,17,18])) (.region [ (oM 13 6),Yae,(oM 6 14)] [13,14]))
def zis:ACode:=.seq (.region [ (oM 19 0),(oM 4 19)] [0,1,5,6,19]) (.ret)
def zrt:ACode:=.seq (.region [ Yau] [4]) (.seq (.region [ (oN 5 (.mov (.c (.int .u32 0))))] []) (.seq (.seq (.region [ (oM 7 0),(oN 8 (.call zhm [(.t 7)]))] [7]) (.cond (.t 8) (.region [ (oN 5 (.mov (.c (.int .u32 2147483648))))] [8]) (.skip))) (.seq (.seq (.region [ Yao] [8]) (.block 0 (.loop zip))) (zis))))
def znm:List ARet:=[.tmp 4]
theorem zyH:zT Tryz.prog zqg (qRo [])=some (zrt.strip,znm,20):=by kernel_rfl
def zmm:ACode:=.seq (.region [ (oN 2 (.mov (.c (.int .u32 0))))] [2]) (.seq (.seq (.region [ (oM 3 0)] [0]) (.cond (.t 3) (.seq (.region [ (oN 2 (.mov (.c (.int .u32 1))))] [3]) (.ret)) (.skip))) (.seq (.region [ (oN 2 (.mov (.c (.int .u32 0))))] [3]) (.ret)))
def zmx:List ARet:=[.tmp 2]
theorem zsZ:zT Tryz.prog zdR (qRo [])=some (zmm.strip,zmx,4):=by kernel_rfl
def zlg:ACode:=.seq (.region [ Yaj,(oN 4 (.mov (.c (.int .u8 0))))] [0,4]) (.seq (.region [ (oA 6 3 2),(oM 7 1),(oN 8 (.call zeX [(.t 6),(.t 7)])),(oM 5 8)] [6,7,8]) (.seq (.seq (.region [ (oM 9 5),(oC 10 .lss 9 0),(oM 11 10),(oG 12 11 false (.mov (.t 5))),(oG 13 11 false (.fldaddr 1 1 (.t 2))),(oG 14 11 false (.load false 1 (.t 13))),(oG 15 11 false (.len (.t 14))),(oG 16 11 false (.bin .eql (.t 12) (.t 15))),(oN 17 (.pick (.t 11) (.c (.bool true)) (.t 16)))] [9,10,11,12,13,14,15,16]) (.cond (.t 17) (.seq (.region [ (oN 4 (.mov (.c (.int .u8 0))))] [1,2,5,17]) (.ret)) (.skip))) (.seq (.draw ( .step (oF 18 1 1 2) ( .step (oL 19 18) ( .step (oM 20 5) ( .step (oI 21 5 19 20) ( .step (oF 22 2 1 21) ( .step (oL 23 22) ( .step (oM 24 1) ( .step (oF 25 1 1 2) ( .step (oL 26 25) ( .step (oM 27 5) ( .step (oI 28 5 26 27) ( .step (oF 29 1 1 28) ( .step (oL 30 29) ( .step (oB 31 .sub 24 30) ( .step (oN 32 (.conv .i64 (.t 31))) ( .step (oI 33 1 23 32) ( .step (oL 34 33) ( .step (oM 4 34) ( .done))))))))))))))))))) [1,2,5,17,18,19,20,21,22,23,24,25,26,27,28,29,30,31,32,33,34]) (.ret))))
def zeL:List ARet:=[.tmp 4]
theorem zrn:zT Tryz.prog ziM (qRo [2])=some (zlg.strip,zeL,35):=by kernel_rfl
def zjN:ACode:=.seq (.region [ Yai] [2]) (.seq (.region [ (oM 3 0),(oN 4 (.bin .geq (.t 3) (.c (.int .u32 2147483648)))),(oM 2 4)] [0,3,4]) (.ret))
def zkl:List ARet:=[.tmp 2]
theorem zqO:zT Tryz.prog zhm (qRo [])=some (zjN.strip,zkl,5):=by kernel_rfl
end Go.Ab
namespace Go.Ab
open Go.RowKit Go.Proofs Go.Maps Go.Sort Go.Shelf
def insI (x:Int):List Int→List Int
 | []=>[x]
 | y::r=>bif decide (x≤y) then x::y::r else y::insI x r
def zcI:List Int→List Int
 | []=>[]
 | x::r=>insI x (zcI r)
theorem zqh (x:Int):∀l:List Int,(insI x l).Perm (x::l)
 | []=>.refl _
 |
  y::r=>by
  rw[insI];cases decide (x≤y)
  · exact((zqh x r).cons y).trans (.swap x y r)
  · exact .refl _
theorem zam:∀l:List Int,(zcI l).Perm l
 | []=>.refl _
 | x::r=>(zqh x _).trans ((zam r).cons x)
theorem zp7 (x:Int):∀l:List Int,l.Pairwise (·≤·)→(insI x l).Pairwise (·≤·)
 | [],_=>by simp[insI]
 |
  y::r,h=>by
  rw[insI];rw[Wq] at h
  cases hd:decide (x≤y) with
  |
   true =>
   have hxy:x≤y:=of_decide_eq_true hd;refine Wq.2 ⟨fun z hz=>?_,Wq.2 h⟩
   rcases Wa.1 hz with rfl|hz
   · exact hxy
   · exact Int.le_trans hxy (h.1 z hz)
  |
   false =>
   have hxy:¬x≤y:=of_decide_eq_false hd;refine Wq.2 ⟨fun z hz=>?_,zp7 x r h.2⟩
   rcases Wa.1 ((zqh x r).mem_iff.1 hz) with rfl|hz
   · omega
   · exact h.1 z hz
theorem zb4:∀l:List Int,(zcI l).Pairwise (·≤·)
 | []=>.nil
 | x::r=>zp7 x _ (zb4 r)
theorem zpH {l m:List Int} (h:l.Perm m) (hl:l.Pairwise (·≤·)) (hm:m.Pairwise (·≤·)):l=m :=
 List.Perm.eq_of_pairwise (fun _ _ _ _ h1 h2=>Int.le_antisymm h1 h2) hl hm h
theorem zp3 {l m:List Int} (h:l.Perm m):l.mergeSort (fun x y=>decide (x≤y))=zcI m:=by
 refine zpH ((List.mergeSort_perm _ _).trans (h.trans (zam m).symm)) ?_ (zb4 m);have:=List.pairwise_mergeSort (le:=fun x y:Int=>decide (x≤y)) (fun a b c h1 h2=>by simp only[decide_eq_true_eq] at *;exact Int.le_trans h1 h2) (fun a b=>by simp only[Bool.or_eq_true,decide_eq_true_eq];exact Int.le_total a b) l
 exact this.imp fun h=>of_decide_eq_true h
section
variable {w:World} {L:Nat→Prop} {ι:Inj} {H:AH} {nx:Nat}
theorem zjr {α β:Type} {f:α→β}:∀ {l:List α},(l.map f).Nodup→l.Nodup
 | [],_=>.nil
 |
  a::l,h=>by
  rw[Wh,Wm] at h;exact Wm.2 ⟨fun hm=>h.1 (List.mem_map_of_mem hm),zjr h.2⟩
end
end Go.Ab
namespace Go.Ab
open Go.RowKit Go.Proofs Go.Sort Go.Shelf
theorem zBh {α:Type} [Inhabited α] {w:World} {b blk off:Nat} {enc:α→Value} {d:Array α} (h:FzOk w b):FzOk (putRow enc w blk off d) b:=by
 intro c e lo hi hh;unfold putRow mapBlock at hh;simp only[WB] at hh
 by_cases hb:blk=b
 ·
  subst hb;rw[if_pos rfl] at hh
  cases ho:w.heap[blk]? with
  | none=>rw[ho] at hh;cases hh
  |
   some o =>
   rw[ho] at hh
   cases o with
   |
    cells c0 e0 f0 =>
    obtain⟨lo0,hi0⟩:=f0;simp only[Option.map_some,onCells,Option.some.injEq,Obj.cells.injEq,Wu] at hh;obtain⟨rfl,rfl,rfl,rfl⟩:=hh
    rcases h c0 e0 _ _ ho with h1|h1
    · exact .inl h1
    · exact .inr (by unfold putCells;simpa using h1)
   | _=>simp[onCells] at hh
 · rw[if_neg hb] at hh;exact h c e lo hi hh
section
variable {w:World} {L:Nat→Prop} {ι:Inj} {H:AH} {nx:Nat}
theorem zpy {r q g:Nat} {zs:List Int} (hr:H.get r q=some (.row 1 (zs.map fun n=>[.int .i64 n]) g)) (hlen:zs.length≤1000000) :
  zab Tryz.prog zcD [.own r q g 0 zs.length] H nx (fun v H' nx'=>(v,H',nx')=(.tup [],H.set r q (.row 1 ((zcI zs).map fun n=>[.int .i64 n]) g),nx)):=by
 intro w L ι vs rel hv
 obtain⟨mv,hvs,hmv⟩:∃mv,vs=#[mv]∧VR w (Lt L ι H) ι mv (.own r q g 0 zs.length):=by
  rcases vs with ⟨l⟩
  cases hv with
  | cons h1 h2=>cases h2;exact⟨_,rfl,h1⟩
 subst hvs;have hsl:(zcI zs).length=zs.length:=(zam zs).length_eq
 cases hmv with
 |
  own _ _ _ _ _ _ a c l hl hmx hn hc ha =>
  obtain⟨l',hl',ok⟩:=rel.row _ _ _ _ _ hr;rw[hl] at hl';cases hl'
  have hsame:∀l0,ι r q g=some l0→l0=l:=fun l0 h0=>by rw[hl] at h0;cases h0;rfl
  have hsz:l.sz=1:=ok.hsz;have nil:∀ {M:Nat→Prop} {ι':Inj} {w':World},VR w' M ι' (.tuple #[]) (.tup []):=.tup _ _ _ rfl (fun i v a h=>by simp at h)
  rcases Nat.eq_zero_or_pos zs.length with h0|hpos
  ·
   obtain rfl:zs=[]:=WC h0
   refine(AnyM.slices_Sort_int_none zA2 a c w).mono fun e w' ⟨he,hw⟩=>?_
   subst hw;have c1:Chg w' ι H r q g l w':=⟨rfl,rfl,rfl,Wb _,fun _ _ _=>rfl,fun hpos=>.inl ⟨1,_,g,l,hr,hl,hpos,rfl⟩,hsame,fun g2 l2 h2=>rel.gen r q _ _ _ hr g2 l2 h2⟩;refine⟨_,_,_,_,_,he,c1.step (.inl ⟨_,_,hr⟩) rel (rel.idx _ _ _ _ hl) (Wb _) (.mk' ok.hsz (ok.plain hmx).len hmx (ok.plain hmx).there (ok.plain hmx).fz (fun i c h=>by simp[zcI] at h) (fun i c' j a h1 h2=>by simp[zcI] at h1)),Wb _,nil,rfl⟩
  ·
   obtain rfl:=ha (by omega)
   have hoff:l.off+0 * l.sz=l.off:=by omega
   rw[hoff]
   have hcap:0 < l.cap * l.sz:=by rw[hsz];omega
   have hblk:=ok.blk_lt hcap
   have hget:∀ {ys:List Int} {j:Nat},j < ys.length→(ys.toArray)[j]! = ys.getD j 0:=fun {ys j} h=>by simp[h,List.getD]
   have hin:∀j,j < zs.length→w.cell? ⟨l.block,l.off+j,none⟩=some (.int .i64 (zs.getD j 0))∧InR .i64 (zs.getD j 0):=by
    intro j hj
    have e:zs.getD j 0=zs[j]:=by simp[List.getD,hj]
    obtain⟨v,h1,_,h2⟩:=ok.holds hmx j [.int .i64 zs[j]] 0 (.int .i64 zs[j]) (by rw[Wk,Wd hj];rfl) rfl
    cases h2 with
    |
     int _ _ _ h3 =>
     rw[e];simp only[Nat.mul_one,Nat.add_zero] at h1;exact⟨h1,h3⟩
   have hH:Holds (Value.int .i64) w l.block l.off zs.toArray:=fun j hj=>by
    have hj':j < zs.length:=by simpa using hj
    rw[hget hj'];exact⟨(hin j hj').1,((ok.plain hmx).there j (by have:=(ok.plain hmx).len;simp only[We] at this;omega)).2⟩
   refine(AnyM.slices_Sort_int zA2 l.block l.off c zs w hH hblk (by omega)).mono fun e w' ⟨he,n,os,hw⟩=>?_
   rw[zp3 (List.Perm.refl zs)] at hw
   have hcell:∀j,j < zs.length→w'.cell? ⟨l.block,l.off+j,none⟩=some (.int .i64 ((zcI zs).getD j 0)):=fun j hj=>by rw[hw,cell?_grow _ _ _ (by simpa using hblk),putRow_ahead,cell?_ahead,cell?_putRow _ _ _ _ zs.toArray _ hH (by simpa using hsl) j (by simpa [hsl] using hj),hget (by omega)]
   have hcell2:∀a:Addr,a.block < w.heap.size→(a.block≠l.block∨a.off < l.off∨l.off+zs.length≤a.off)→w'.cell? a=w.cell? a:=fun a ha hx=>by rw[hw,cell?_grow _ _ _ (by simpa using ha),putRow_ahead,cell?_ahead,cell?_putRow_other _ _ _ _ _ _ (by simpa [hsl] using hx)]
   have hfrz:∀a:Addr,a.block < w.heap.size→w'.frozen? a=w.frozen? a:=fun a ha=>by rw[hw,frozen?_grow _ _ _ (by simpa using ha),putRow_ahead,frozen?_ahead,frozen?_putRow]
   have hheap:∀b,b < w.heap.size→b≠l.block→w'.heap[b]? = w.heap[b]? := fun b hb hne=>by rw[hw,heap_grow_old _ _ (by simpa using hb)];simp only[putRow,mapBlock,heap_ahead,WB];rw[if_neg (Ne.symm hne)]
   have c1:Chg w ι H r q g l w':=⟨by rw[hw];rfl,by rw[hw];rfl,by rw[hw];rfl,by rw[hw];simp,fun b hb hn=>hheap b hb (fun hbe=>hn ⟨1,_,g,l,hr,hl,hcap,hbe.symm⟩),fun hpos=>.inl ⟨1,_,g,l,hr,hl,hpos,rfl⟩,hsame,fun g2 l2 h2=>rel.gen r q _ _ _ hr g2 l2 h2⟩
   have hfz:FzOk w' l.block:=by have h1:FzOk (putRow (Value.int .i64) (Sort.ahead w n) l.block l.off (zcI zs).toArray) l.block:=zBh (((ok.plain hmx).fz (by rw[←hsz];exact hcap)).of_heap rfl);rw[hw];exact h1.of_heap (heap_grow_old _ _ (by simpa using hblk))
   refine⟨_,_,_,_,_,he,c1.step (.inl ⟨_,_,hr⟩) rel (rel.idx _ _ _ _ hl) (Wb _) (.mk' ok.hsz (by have:=(ok.plain hmx).len;simp only[We] at this ⊢;omega) hmx (fun k hk=>?_) (fun _=>hfz) (fun i c h=>?_) (fun i c' j a h1 h2=>?_)),Wb _,nil,rfl⟩
   ·
    rw[hfrz _ hblk];refine⟨?_,((ok.plain hmx).there k hk).2⟩
    by_cases hk2:k < zs.length
    · rw[hcell k hk2];rfl
    · rw[hcell2 _ hblk (.inr (.inr (by simp only;omega)))];exact((ok.plain hmx).there k hk).1
   · rw[Wk] at h;obtain⟨z,_,rfl⟩:=WD.1 h;rfl
   ·
    rw[Wk] at h1;obtain⟨z,hz,rfl⟩:=WD.1 h1
    match j with
    |
     0 =>
     cases h2
     have hi:i < zs.length:=by rw[←hsl];exact(List.getElem?_eq_some_iff.1 hz).1
     refine⟨.int .i64 z,?_,rfl,.int _ _ _ ?_⟩
     · simp only[Nat.mul_one,Nat.add_zero];rw[hcell i hi,Wc,hz];rfl
     · obtain⟨k,hk,hke⟩:=WE.1 ((zam zs).mem_iff.1 (List.mem_of_getElem? hz));have:=(hin k hk).2;simp only[List.getD,Wd hk,Option.getD_some] at this;rw[hke] at this;exact this
    | j+1=>cases h2
end
end Go.Ab
namespace Go.Ab
open Go.RowKit Go.Proofs
def filR (p:Nat→Bool) (n:Nat):List Nat:=(List.range n).filter p
theorem zFw {p:Nat→Bool} {n:Nat} (h:p n=true):filR p (n+1)=filR p n++[n]:=by unfold filR;rw[List.range_succ,WF];simp[h]
theorem zEs {p:Nat→Bool} {n:Nat} (h:p n=false):filR p (n+1)=filR p n:=by unfold filR;rw[List.range_succ,WF];simp[h]
theorem zGN {p:Nat→Bool} {n:Nat}:(filR p n).length≤n:=by unfold filR;exact Nat.le_trans (List.length_filter_le _ _) (by simp)
theorem zFf {H H2:AH} {σ:Nat→Nat→Option (Nat × Nat × Nat)} {D:Nat→Nat→Prop} {t:Bool} {r q g:Nat} {l m:List Int} (hD:D r q) (hg:H.get r q=some (.row 1 ((l++m).map cI) g)) (hb:l.length≤big) :
  Vw H H2 σ D t (.own r q g 0 l.length) (za l):=by
 refine .frz t r q g 0 l.length 1 ((l++m).map cI) _ hD hg hb (by simp) (fun i j hi hj=>?_)
 obtain rfl:j=0:=by omega
 rw[Nat.zero_add,zq (show i < (l++m).length by simp;omega),zq hi,List.getElem_append_left hi];exact .int _ _ _
def zgU (l:List Int) (j:Nat):Bool:=j == 0||(l.getD j 0 != l.getD (j - 1) 0)
def zaM (l:List Int) (n:Nat):List Int:=(filR (zgU l) n).map (fun j=>l.getD j 0)
def zeN (l:List Int):List Int:=zaM l l.length
theorem zz7 {l:List Int} {n:Nat}:(zaM l n).length≤n:=by unfold zaM;rw[We];exact zGN
theorem zne {l:List Int} {j:Nat} (hj:j < l.length) (h:zgU l j=true):zaM l (j+1)=zaM l j++[l[j]]:=by unfold zaM;rw[zFw h,Wn];simp[Wc,hj]
theorem zpr {l:List Int} {j:Nat} (h:zgU l j=false):zaM l (j+1)=zaM l j:=by unfold zaM;rw[zEs h]
theorem zsi {l:List Int} {n:Nat} (hn:n≤l.length) (h:∀j,j < n→zgU l j=true):zaM l n=l.take n:=by
 induction n with
 | zero=>rfl
 |
  succ n ih =>
  rw[zne (by omega) (h n (by omega)),ih (by omega) (fun j hj=>h j (by omega)),WG,Wd (by omega)];rfl
theorem zhY {l:List Int} {j:Nat} (h1:1≤j) (hj:j < l.length):zgU l j=(l[j] != l[j - 1]):=by unfold zgU;rw[Wc,Wc,Wd hj,Wd (show j - 1 < l.length by omega)];simp;omega
def curI (K l:List Int):List Int:=K++l.drop K.length
theorem zx7 {K l:List Int} (h:K.length≤l.length):(curI K l).length=l.length:=by simp[curI];omega
theorem zEi {K l:List Int} {j:Nat} (h:K.length≤j) (hj:j < l.length):(curI K l)[j]? = some l[j]:=by unfold curI;rw[List.getElem?_append_right h,List.getElem?_drop,show K.length+(j - K.length)=j by omega,Wd hj]
theorem zt0 {K l:List Int} {j:Nat} (h:K.length≤j) (hj:j < l.length):((curI K l).map cI).getD j []=[.int .i64 l[j]]:=by simp[Wc,zEi h hj]
theorem zEa {K l:List Int} {v:Int} (h:K.length < l.length):(curI K l).set K.length v=curI (K++[v]) l:=by unfold curI;rw[List.set_append_right _ _ (Wb _),Nat.sub_self,Wr h,WH];simp
theorem zCq {K l:List Int} {v:Int} (h:K.length < l.length):((curI K l).map cI).set K.length [.int .i64 v]=(curI (K++[v]) l).map cI:=by rw[←zEa h,List.map_set]
theorem zCU {l:List Int} {n:Nat} (h:n≤l.length):curI (l.take n) l=l:=by unfold curI;rw[Wv,Nat.min_eq_left h,List.take_append_drop]
theorem QW {p q:Prop}(k:q)(h:Im q p:=by(repeat first|simp(disch:=try exact dis1) only[evD,Nat.reduceBEq,Nat.reduceAdd,Nat.reduceLeDiff,za5] | ((with_reducible apply Im.i);intro _) | ((with_reducible apply Im.a);omega));exact Im.r):p:=h k
theorem Qbf {p:Prop}(h:p:=by(try simp only[evWB,Nat.reduceBEq,Nat.reduceAdd,Nat.reduceSub,Nat.reduceLeDiff,Nat.reduceLT,implies_true,zeN])<;>exact fin2):p:=h
theorem ztj (l:List Int) (g:Nat) (hl:l.length≤100000000000) :
  zab Tryz.prog zbY [.own 0 0 g 0 l.length] [(0,.row 1 (l.map cI) g)] 1
   (fun v H nx=>∃m,v=.own 0 0 g 0 (zeN l).length∧H=[(0,.row 1 ((zeN l++m).map cI) g)]∧nx=1):=by
 refine zbc (fn_x zhE rfl ?_);unfold zde;have hB:=hBig
 have fin:∀K m,(∀j,j < l.length→zgU l j=true)→K=(4,AV.undef)→m=0→zeN l=l:=fun K m h _ _=>by unfold zeN;rw[zsi (Wb _) h,WI]
 (refine Qa ?_;intros)
 (refine zaS (fun h=>?_) (fun h=>?_))<;>(try simp only[dcd] at h)
 ·
  (refine QW ?_;intros)
  have hall:∀j,j < l.length→zgU l j=true:=fun j hj=>by
   have:j=0:=by omega
   subst this;rfl
  have e:=fin (4,.undef) 0 hall rfl rfl;refine⟨.own 0 0 g 0 l.length,[(0,.row 1 ((l++[]).map cI) g)],1,?_,[],by rw[e],by rw[e],rfl⟩;rw[Ww];exact(Ent.tabB [(0,0,0)] [] rfl rfl rfl Qau Qau)
 (refine Qa ?_;intros)
 refine zk (fun i:Nat=>([(0,.own 0 0 g 0 l.length),(3,.int .i64 i)],[(0,.row 1 (l.map cI) g)])) 1 (fun i=>1≤i∧i≤l.length∧∀j,j < i→zgU l j=true) (fun i=>l.length - i) 1 ⟨by omega,by omega,fun j hj=>(by rw[show j=0 by omega];rfl)⟩ (Ent.tabB [(0,0,0)] [] rfl rfl rfl Qau Qau) ?_;intro i ⟨hi1,hi2,hall⟩ wf;unfold zco
 (refine Qa ?_;intros)
 (refine zaS (fun h2=>?_) (fun h2=>?_))<;>(try simp only[dcd] at h2)
 ·
  have hi':i < l.length:=by omega
  have hi1':i - 1 < l.length:=by omega
  have ei:((i:Int) - 1).toNat=i - 1:=by omega
  (repeat first|simp(disch:=try exact dis1) only[evD,Nat.reduceBEq,Nat.reduceAdd,Nat.reduceLeDiff,zq hi',ei,zq hi1']|with_reducible first|intro _|refine aJ ?_)
  (refine zaS (fun h3=>?_) (fun h3=>?_))<;>(try simp only[dcd] at h3)
  ·
   have hne:zgU l i=false:=by rw[zhY hi1 hi'];simp;omega
   have hk0:zaM l i=l.take i:=zsi (by omega) hall
   have hk1:zaM l (i+1)=l.take i:=by rw[zpr hne,hk0]
   have hk1l:(zaM l (i+1)).length=i:=by rw[hk1,Wv];omega
   have hstart:curI (zaM l (i+1)) l=l:=by rw[hk1,zCU (by omega)]
   have esl:((l.length:Int) - i).toNat=l.length - i:=by omega
   (repeat first|simp(disch:=try exact dis1) only[evD,Nat.reduceBEq,Nat.reduceAdd,Nat.reduceLeDiff,esl]|with_reducible first|intro _|refine aJ ?_)
   refine zk (fun a:Nat=>([(0,.own 0 0 g 0 l.length),(3,.int .i64 (zaM l (i+a)).length),(4,.own 0 0 g i (l.length - i)),(5,.int .i64 a)],[(0,.row 1 ((curI (zaM l (i+a)) l).map cI) g)])) 1
    (fun a=>1≤a∧i+a≤l.length∧(zaM l (i+a)).length < i+a) (fun a=>l.length - (i+a)) 1 ⟨by omega,by omega,by omega⟩ (Ent.tabB [(0,0,0)] [] rfl rfl rfl (by(try simp only[evWB,Nat.reduceBEq,Nat.reduceAdd,Nat.reduceSub,Nat.reduceLeDiff,Nat.reduceLT,implies_true,hstart,hk1l])<;>exact fin2) (by(try simp only[evWB,Nat.reduceBEq,Nat.reduceAdd,Nat.reduceSub,Nat.reduceLeDiff,Nat.reduceLT,implies_true,hstart,hk1l])<;>exact fin2)) ?_
   intro a ⟨ha1,ha2,ha3⟩ wf;unfold zcp
   (refine Qa ?_;intros)
   (refine zaS (fun h4=>?_) (fun h4=>?_))<;>(try simp only[dcd] at h4)
   ·
    have ha':i+a < l.length:=by omega
    have ha1':i+a - 1 < l.length:=by omega
    have e1:i+((a:Int) - 1).toNat=i+a - 1:=by omega
    have g1:=zt0 (K:=zaM l (i+a)) (l:=l) (by omega) ha';have g2:=zt0 (K:=zaM l (i+a)) (l:=l) (by omega) ha1';have hcl:=zx7 (K:=zaM l (i+a)) (l:=l) (by omega)
    (repeat first|simp(disch:=try exact dis1) only[evD,Nat.reduceBEq,Nat.reduceAdd,Nat.reduceLeDiff,e1,g1,g2]|with_reducible first|intro _|refine aJ ?_)
    (refine zaS (fun h5=>?_) (fun h5=>?_))<;>(try simp only[dcd] at h5)
    ·
     have hp:zgU l (i+a)=true:=by rw[zhY (by omega) ha'];simp;omega
     have hy:=zne ha' hp;have hst:=zCq (K:=zaM l (i+a)) (l:=l) (v:=l[i+a]) (by omega);rw[←hy] at hst
     have hyl:(zaM l (i+a+1)).length=(zaM l (i+a)).length+1:=by rw[hy];simp
     (repeat first|simp(disch:=try exact dis1) only[evD,Nat.reduceBEq,Nat.reduceAdd,Nat.reduceLeDiff,e1,g1,g2,hst]|with_reducible first|intro _|refine aJ ?_)
     exact⟨a+1,⟨by omega,by omega,by rw[show i+(a+1)=i+a+1 by omega,hyl];omega⟩,by omega,(Ent.tabB [(0,0,0)] [] rfl rfl rfl (by(try simp only[evWB,Nat.reduceBEq,Nat.reduceAdd,Nat.reduceSub,Nat.reduceLeDiff,Nat.reduceLT,implies_true,show i+(a+1)=i+a+1 by omega,hyl])<;>exact fin2) (by(try simp only[evWB,Nat.reduceBEq,Nat.reduceAdd,Nat.reduceSub,Nat.reduceLeDiff,Nat.reduceLT,implies_true,show i+(a+1)=i+a+1 by omega,hyl])<;>exact fin2))⟩
    ·
     have hp:zgU l (i+a)=false:=by rw[zhY (by omega) ha'];simp;omega
     have hy:=zpr hp
     (refine Qa ?_;intros)
     exact⟨a+1,⟨by omega,by omega,by rw[show i+(a+1)=i+a+1 by omega,hy];omega⟩,by omega,(Ent.tabB [(0,0,0)] [] rfl rfl rfl (by(try simp only[evWB,Nat.reduceBEq,Nat.reduceAdd,Nat.reduceSub,Nat.reduceLeDiff,Nat.reduceLT,implies_true,show i+(a+1)=i+a+1 by omega,hy])<;>exact fin2) (by(try simp only[evWB,Nat.reduceBEq,Nat.reduceAdd,Nat.reduceSub,Nat.reduceLeDiff,Nat.reduceLT,implies_true,show i+(a+1)=i+a+1 by omega,hy])<;>exact fin2))⟩
   ·
    have hia:i+a=l.length:=by omega
    rw[hia] at ha3 ⊢
    have hz:((l.length:Int) - (zaM l l.length).length).toNat=l.length - (zaM l l.length).length:=by omega
    have hcl:=zx7 (K:=zaM l l.length) (l:=l) (by omega)
    have hclr:((curI (zaM l l.length) l).map cI).take (zaM l l.length).length++Wg (l.length - (zaM l l.length).length) [AV.int .i64 0]++((curI (zaM l l.length) l).map cI).drop ((zaM l l.length).length+(l.length - (zaM l l.length).length))=(zaM l l.length++Wg (l.length - (zaM l l.length).length) 0).map cI:=by
     rw[Ws (by rw[We,hcl];omega),Ww,←List.map_take,Wn,List.map_replicate]
     congr 2
     unfold curI;rw[List.take_append_of_le_length (Wb _),WI]
    unfold zcn
    (repeat first|simp(disch:=try exact dis1) only[evD,Nat.reduceBEq,Nat.reduceAdd,Nat.reduceLeDiff,za5,hz,hclr]|with_reducible first|intro _|refine aJ ?_)
    refine⟨.own 0 0 g 0 (zeN l).length,[(0,.row 1 ((zeN l++Wg (l.length - (zaM l l.length).length) 0).map cI) g)],1,?_,_,rfl,rfl,rfl⟩;exact(Ent.tabB [(0,0,0)] [] rfl rfl rfl Qbf Qbf)
  ·
   have hne:zgU l i=true:=by rw[zhY hi1 hi'];simp;omega
   unfold zck
   (refine Qa ?_;intros)
   refine⟨i+1,⟨by omega,by omega,fun j hj=>?_⟩,by omega,(Ent.tabB [(0,0,0)] [] rfl rfl rfl Qau Qau)⟩
   by_cases hji:j=i
   · subst hji;exact hne
   · exact hall j (by omega)
 ·
  obtain rfl:i=l.length:=by omega
  unfold zcm;have e:=fin (4,.undef) 0 hall rfl rfl
  (refine QW ?_;intros)
  refine⟨.own 0 0 g 0 l.length,[(0,.row 1 ((l++[]).map cI) g)],1,?_,[],by rw[e],by rw[e],rfl⟩;rw[Ww];exact(Ent.tabB [(0,0,0)] [] rfl rfl rfl Qau Qau)
end Go.Ab
namespace Go.Ab
def insU (n:Int):List Int→List Int
 | []=>[n]
 | x::l=>if x < n then x::insU n l else if x=n then x::l else n::x::l
def zfw (a b:List Int):List Int:=b.foldl (fun a x=>insU x a) a
def Asc (l:List Int):Prop:=l.Pairwise (· < ·)
theorem zoP {n y:Int}:∀ {l:List Int},y∈insU n l↔y=n∨y∈l
 | []=>by simp[insU]
 |
  x::l=>by
  unfold insU;split
  ·
   rw[Wa,zoP,Wa];constructor
   ·
    rintro(h|h|h)
    · exact .inr (.inl h)
    · exact .inl h
    · exact .inr (.inr h)
   ·
    rintro(h|h|h)
    · exact .inr (.inl h)
    · exact .inl h
    · exact .inr (.inr h)
  ·
   split
   · rename_i h;subst h;simp
   · simp
theorem zyi {n:Int}:∀ {l:List Int},Asc l→Asc (insU n l)
 | [],_=>by simp[insU,Asc]
 |
  x::l,h=>by
  have hx:=fun y (hy:y∈l)=>Wx h hy
  have hl:=List.Pairwise.of_cons h;unfold insU;split
  ·
   rename_i h1;refine List.Pairwise.cons (fun y hy=>?_) (zyi hl)
   rcases zoP.1 hy with rfl|hy
   · exact h1
   · exact hx y hy
  ·
   split
   · exact h
   ·
    refine List.Pairwise.cons (fun y hy=>?_) h
    rcases Wa.1 hy with rfl|hy
    · omega
    · have:=hx y hy;omega
theorem zeA {y:Int}:∀ {b a:List Int},y∈zfw a b↔y∈a∨y∈b
 | [],a=>by simp[zfw]
 |
  x::b,a=>by
  have:=zeA (y:=y) (b:=b) (a:=insU x a);unfold zfw at this ⊢;rw[List.foldl_cons,this,zoP,Wa];constructor
  ·
   rintro((h|h)|h)
   · exact .inr (.inl h)
   · exact .inl h
   · exact .inr (.inr h)
  ·
   rintro(h|h|h)
   · exact .inl (.inr h)
   · exact .inl (.inl h)
   · exact .inr h
theorem zes:∀ {b a:List Int},Asc a→Asc (zfw a b)
 | [],a,h=>h
 |
  x::b,a,h=>by
  have:=zes (b:=b) (zyi (n:=x) h);unfold zfw at this ⊢;rw[List.foldl_cons];exact this
theorem zqP {l:List Int} (h:Asc l):l.Nodup:=List.nodup_iff_pairwise_ne.2 (List.Pairwise.imp (fun h=>by omega) h)
theorem zsX:∀ {a b:List Int},Asc a→Asc b→(∀x,x∈a↔x∈b)→a=b
 | [],[],_,_,_=>rfl
 | [],y::b,_,_,h=>by have:=(h y).2 (by simp);cases this
 | x::a,[],_,_,h=>by have:=(h x).1 (by simp);cases this
 |
  x::a,y::b,ha,hb,h=>by
  have hx:=fun z (hz:z∈a)=>Wx ha hz
  have hy:=fun z (hz:z∈b)=>Wx hb hz
  have e:x=y:=by
   rcases Wa.1 ((h x).1 (by simp)) with h1|h1
   · exact h1
   ·
    rcases Wa.1 ((h y).2 (by simp)) with h2|h2
    · exact h2.symm
    · have:=hx y h2;have:=hy x h1;omega
  subst e
  congr 1
  refine zsX (List.Pairwise.of_cons ha) (List.Pairwise.of_cons hb) fun z=>?_
  constructor
  ·
   intro hz
   rcases Wa.1 ((h z).1 (Wi _ hz)) with rfl|h1
   · have:=hx z hz;omega
   · exact h1
  ·
   intro hz
   rcases Wa.1 ((h z).2 (Wi _ hz)) with rfl|h1
   · have:=hy z hz;omega
   · exact h1
def zt3 (a b:List Int):List Int:=a.filter fun x => !decide (x∈b)
theorem zrY {a b:List Int} {y:Int}:y∈zt3 a b↔y∈a∧y∉b:=by unfold zt3;rw[List.mem_filter];simp
theorem zr2 {a b:List Int} (h:Asc a):Asc (zt3 a b):=List.Pairwise.filter _ h
theorem zpn {a b:List Int} (ha:Asc a) (hb:Asc b) (h:∀x∈a,x∈b):a.length≤b.length:=by have:=List.Nodup.length_le_of_subset (zqP ha) h;exact this
theorem zzK:∀ {a b:List Int},Asc a→Asc b→(∀x∈a,x∈b)→a.length=b.length→a=b:=by
 intro a b ha hb h hl
 refine zsX ha hb fun x=>⟨h x,fun hx=>?_⟩
 refine Classical.byContradiction fun hn=>?_
 have h2:∀y∈x::a,y∈b:=fun y hy=>by
  rcases Wa.1 hy with rfl|hy
  · exact hx
  · exact h y hy
 have:=List.Nodup.length_le_of_subset (Wm.2 ⟨hn,zqP ha⟩) h2;simp only[Wl] at this;omega
end Go.Ab
namespace Go.Ab
open Go.RowKit Go.Proofs
def endsOk:List St→Bool
 | []=>true
 | x::l=>(zcg x == l.isEmpty)&&endsOk l
def inN (n:Int) (t:Int):Bool:=decide (0≤t∧t < n)
def zI (l:List St):List Int:=match l.getLast? with
 | none=>[]
 | some s=>zan s
def zdv (l:List St) (n:Int):Bool := !l.isEmpty&&(endsOk l&&(zI l).all (inN n))
theorem zwj {l:List St} {i:Nat} (h:i < l.length):endsOk (l.drop i)=((zcg l[i] == decide ((i:Int)=(l.length:Int) - 1))&&endsOk (l.drop (i+1))):=by
 rw[Wr h,endsOk]
 congr 2
 by_cases hi:i+1 < l.length
 · rw[Wr hi,decide_eq_false (by omega)];rfl
 · rw[Ws (by omega),decide_eq_true (by omega)];rfl
theorem zFr {l:List Int} {i:Nat} {p:Int→Bool} (h:i < l.length):(l.drop i).all p=(p l[i]&&(l.drop (i+1)).all p):=by rw[Wr h,List.all_cons]
theorem zkj {l:List St} (h:l.length - 1 < l.length):zI l=zan l[l.length - 1]:=by unfold zI;rw[List.getLast?_eq_getElem?,Wd h]
theorem zpF (b:Bl) (n:Int):zu Tryz.prog zhu [.agg b.cells,.int .i64 n] (·=.bool (zdv b.stmts n)):=by
 refine fn_x zpx rfl ?_;unfold zj3;have hB:=hBig;obtain⟨ad,l⟩:=b;simp only[Bl.cells,zdv]
 by_cases h0:l.length=0
 ·
  obtain rfl:l=[]:=WC h0
  (repeat first|simp(disch:=try exact dis1) only[evD,Nat.reduceBEq,Nat.reduceAdd,Nat.reduceLeDiff,fldP,dT,List.length_nil,zbu]|with_reducible first|intro _|refine aJ ?_)
  exact⟨_,.bool _ _,rfl⟩
 have he:l.isEmpty=false:=by cases l with|nil=>simp at h0|cons a l=>rfl
 rw[he]
 (refine Qh ?_;intros)
 refine zk (fun i:Nat=>([(1,.int .i64 n),(2,encP 2 [.int .u32 ad,encL 8 St.cells l]),(5,.int .i64 i)],[])) 0 (fun i=>i≤l.length∧endsOk (l.drop i)=endsOk l) (fun i=>l.length - i) 0 ⟨Wy _,rfl⟩ (Ent.keep rfl fin5) ?_;rintro i ⟨hi,hgo⟩ wf;unfold zgW
 by_cases hl:i < l.length
 ·
  rw[zwj hl] at hgo
  (repeat first|simp(disch:=try exact dis1) only[evD,Nat.reduceBEq,Nat.reduceAdd,Nat.reduceLeDiff,fldP,dT,zq hl,St.len,St.eight]|with_reducible first|intro _|refine aJ ?_)
  refine zai (zd (zxa l[i]) rfl) ?_;generalize zcg l[i]=q at hgo
  by_cases hx:(i:Int)=(l.length:Int) - 1
  ·
   rw[decide_eq_true hx] at hgo
   cases q with
   |
    true =>
    (repeat first|simp(disch:=try exact dis1) only[evD,Nat.reduceBEq,Nat.reduceAdd,Nat.reduceLeDiff,fldP,dT]|with_reducible first|intro _|refine aJ ?_)
    exact⟨i+1,⟨by omega,by simpa using hgo⟩,by omega,Ent.keep rfl fin5⟩
   |
    false =>
    replace hgo:endsOk l=false:=by rw[←hgo];rfl
    rw[hgo]
    (repeat first|simp(disch:=try exact dis1) only[evD,Nat.reduceBEq,Nat.reduceAdd,Nat.reduceLeDiff,fldP,dT,zbu]|with_reducible first|intro _|refine aJ ?_)
    exact⟨_,.bool _ _,rfl⟩
  ·
   rw[decide_eq_false hx] at hgo
   cases q with
   |
    false =>
    (refine Qh ?_;intros)
    exact⟨i+1,⟨by omega,by simpa using hgo⟩,by omega,Ent.keep rfl fin5⟩
   |
    true =>
    replace hgo:endsOk l=false:=by rw[←hgo];rfl
    rw[hgo]
    (repeat first|simp(disch:=try exact dis1) only[evD,Nat.reduceBEq,Nat.reduceAdd,Nat.reduceLeDiff,fldP,dF,zbu]|with_reducible first|intro _|refine aJ ?_)
    exact⟨_,.bool _ _,rfl⟩
 rw[Ws (by omega),endsOk] at hgo;rw[←hgo]
 have hlast:l.length - 1 < l.length:=by omega
 have hidx:(((l.length:Nat):Int) - 1).toNat=l.length - 1:=by omega
 rw[zkj hlast]
 (refine Qh ?_;intros)
 unfold zgP
 (repeat first|simp(disch:=try exact dis1) only[evD,Nat.reduceBEq,Nat.reduceAdd,Nat.reduceLeDiff,fldP,dT,hidx,zq hlast,St.len,St.eight]|with_reducible first|intro _|refine aJ ?_)
 refine ze (zd (zq5 l[l.length - 1]) rfl) ?_;generalize zan l[l.length - 1]=t;generalize hR:t.all (inN n)=R
 (refine Qa ?_;intros)
 refine zk (fun i:Nat=>([(1,.int .i64 n),(6,za t),(7,.int .i64 i)],[])) 0 (fun i=>i≤t.length∧(t.drop i).all (inN n)=R) (fun i=>t.length - i) 0 ⟨Wy _,hR⟩ (Ent.keep rfl fin5) ?_;rintro i ⟨hi,hgo⟩ wf;unfold zha
 by_cases hl:i < t.length
 ·
  rw[zFr hl] at hgo;unfold inN at hgo
  by_cases q0:0≤t[i]
  ·
   by_cases q1:t[i] < n
   ·
    rw[decide_eq_true ⟨q0,q1⟩,Bool.true_and] at hgo
    (repeat first|simp(disch:=try exact dis1) only[evD,Nat.reduceBEq,Nat.reduceAdd,Nat.reduceLeDiff,fldP,dT,dF,za,zq hl]|with_reducible first|intro _|refine aJ ?_)
    exact⟨i+1,⟨by omega,hgo⟩,by omega,Ent.keep rfl fin5⟩
   ·
    rw[decide_eq_false (fun h=>q1 h.2),Bool.false_and] at hgo;subst hgo
    (repeat first|simp(disch:=try exact dis1) only[evD,Nat.reduceBEq,Nat.reduceAdd,Nat.reduceLeDiff,fldP,dT,dF,za,zq hl,zbu]|with_reducible first|intro _|refine aJ ?_)
    exact⟨_,.bool _ _,rfl⟩
  ·
   rw[decide_eq_false (fun h=>q0 h.1),Bool.false_and] at hgo;subst hgo
   (repeat first|simp(disch:=try exact dis1) only[evD,Nat.reduceBEq,Nat.reduceAdd,Nat.reduceLeDiff,fldP,dT,dF,za,zq hl,zbu]|with_reducible first|intro _|refine aJ ?_)
   exact⟨_,.bool _ _,rfl⟩
 ·
  rw[Ws (by omega)] at hgo
  replace hgo:R=true:=by rw[←hgo];rfl
  subst hgo
  (refine QV ?_;intros)
  unfold zgV
  (repeat first|simp(disch:=try exact dis1) only[evD,Nat.reduceBEq,Nat.reduceAdd,Nat.reduceLeDiff,zbu]|with_reducible first|intro _|refine aJ ?_)
  exact⟨_,.bool _ _,rfl⟩
end Go.Ab
namespace Go.Ab
mutual
def zgA:Ex→List Int
 | .mk op _ v _ l=>zjX (if op=2 then [v] else []) l
def zjX:List Int→List Ex→List Int
 | a,[]=>a
 | a,x::l=>zjX (zfw a (zgA x)) l
end
mutual
def occX:Ex→List Int
 | .mk op _ v _ l=>(if op=2 then [v] else [])++zb0 l
def zb0:List Ex→List Int
 | []=>[]
 | x::l=>occX x++zb0 l
end
mutual
theorem zmW {y:Int}:∀e:Ex,y∈zgA e↔y∈occX e
 | .mk op _ v _ l=>by rw[zgA,occX,zso,Wj]
theorem zso {y:Int}:∀(a:List Int) (l:List Ex),y∈zjX a l↔y∈a∨y∈zb0 l
 | a,[]=>by rw[zjX,zb0];simp
 | a,x::l=>by rw[zjX,zso,zeA,zmW x,zb0,Wj,or_assoc]
end
theorem zse:∀(a:List Int) (l:List Ex),Asc a→Asc (zjX a l)
 | a,[],h=>by rw[zjX];exact h
 | a,x::l,h=>by rw[zjX];exact zse _ l (zes h)
theorem zBD (e:Ex):Asc (zgA e):=by
 obtain⟨op,n,v,w,l⟩:=e;rw[zgA];refine zse _ _ ?_
 split<;>simp[Asc]
def zo0:List Int→List Ex→List Int
 | a,[]=>a
 | a,x::l=>zo0 (zfw a (zgA x)) l
def zfj (s:St):List Int:=zo0 [] s.e
theorem zuH:∀(a:List Int) (l:List Ex),Asc a→Asc (zo0 a l)
 | a,[],h=>h
 | a,x::l,h=>zuH _ l (zes h)
theorem zqI {y:Int}:∀(a:List Int) (l:List Ex),y∈zo0 a l↔y∈a∨y∈zb0 l
 | a,[]=>by rw[zo0,zb0];simp
 | a,x::l=>by rw[zo0,zqI,zeA,zmW x,zb0,Wj,or_assoc]
theorem zBV (s:St):Asc (zfj s):=zuH _ _ (by simp[Asc])
def zlF (s:St):List Int:=if s.op=1∨s.op=3 then [s.var] else []
def zgx (s:St):Bool:=decide (s.op=9∨s.op=10∨s.op=5)
def zfd (exit:List Int) (s:St) (after:List Int):List Int :=
 if zgx s=true then zfw (zfw (zt3 after (zlF s)) (zfj s)) exit else zfw (zt3 after (zlF s)) (zfj s)
def zfn (exit:List Int) (l:List St) (e:List Int):List Int:=l.foldr (zfd exit) e
def zga (exit:List Int) (l:List St) (e:List Int):List Int:=if l.length=0 then [] else zfn exit l e
def endT (ins:List (List Int)) (a:List Int) (t:Int):List Int:=if 0≤t∧t < ins.length then zfw a (ins.getD t.toNat []) else a
def endB (ins:List (List Int)) (l:List St):List Int:=(zI l).foldl (endT ins) []
theorem zwF {exit:List Int} {s:St} {a:List Int} (h:Asc a):Asc (zfd exit s a):=by
 unfold zfd;split
 · exact zes (zes (zr2 h))
 · exact zes (zr2 h)
theorem zgD {exit:List Int} {s:St} {a:List Int} {y:Int}:y∈zfd exit s a↔(y∈a∧y∉zlF s)∨y∈zfj s∨(zgx s=true∧y∈exit):=by
 unfold zfd;split
 · rename_i h;rw[zeA,zeA,zrY];simp[h,or_assoc]
 · rename_i h;rw[zeA,zrY];simp[h]
theorem zss {exit:List Int}:∀ {l:List St} {a:List Int},Asc a→Asc (zfn exit l a)
 | [],_,h=>h
 |
  s::l,a,h=>by
  show Asc (zfd exit s (zfn exit l a));exact zwF (zss h)
theorem zv4 {exit:List Int} {l:List St} {a:List Int} (h:Asc a):Asc (zga exit l a):=by
 unfold zga;split
 · simp[Asc]
 · exact zss h
theorem zuO {ins:List (List Int)}:∀ {ts a:List Int},Asc a→Asc (ts.foldl (endT ins) a)
 | [],_,h=>h
 |
  t::ts,a,h=>by
  rw[List.foldl_cons];refine zuO ?_;unfold endT;split
  · exact zes h
  · exact h
theorem zx1 {ins:List (List Int)} {l:List St}:Asc (endB ins l):=zuO (by simp[Asc])
theorem zu2 {ins:List (List Int)} {y:Int}:∀ {ts a:List Int},y∈ts.foldl (endT ins) a↔y∈a∨∃t∈ts,(0≤t∧t < ins.length)∧y∈ins.getD t.toNat []
 | [],a=>by simp
 |
  t::ts,a=>by
  rw[List.foldl_cons,zu2];unfold endT;split
  ·
   rename_i h;rw[zeA];constructor
   ·
    rintro((h1|h1) | ⟨t',h1,h2⟩)
    · exact .inl h1
    · exact .inr ⟨t,by simp,h,h1⟩
    · exact .inr ⟨t',Wi _ h1,h2⟩
   ·
    rintro(h1 | ⟨t',h1,h2,h3⟩)
    · exact .inl (.inl h1)
    ·
     rcases Wa.1 h1 with rfl|h1
     · exact .inl (.inr h3)
     · exact .inr ⟨t',h1,h2,h3⟩
  ·
   rename_i h;constructor
   ·
    rintro(h1 | ⟨t',h1,h2⟩)
    · exact .inl h1
    · exact .inr ⟨t',Wi _ h1,h2⟩
   ·
    rintro(h1 | ⟨t',h1,h2,h3⟩)
    · exact .inl h1
    ·
     rcases Wa.1 h1 with rfl|h1
     · exact absurd h2 h
     · exact .inr ⟨t',h1,h2,h3⟩
theorem zfP {ins:List (List Int)} {l:List St} {y:Int}:y∈endB ins l↔∃t∈zI l,(0≤t∧t < ins.length)∧y∈ins.getD t.toNat []:=by unfold endB;rw[zu2];simp
def newB (exit:List Int) (g:List Bl) (ins:List (List Int)) (i:Nat):List Int:=zga exit ((g.map (·.stmts)).getD i []) (endB ins ((g.map (·.stmts)).getD i []))
def zfV (exit:List Int) (g:List Bl) (ins:List (List Int)) (i:Nat):List (List Int) :=
 if (newB exit g ins i).length=(ins.getD i []).length then ins else ins.set i (newB exit g ins i)
def zj5 (exit:List Int) (g:List Bl):Nat→List (List Int)→List (List Int)
 | 0,ins=>ins
 | n+1,ins=>zj5 exit g n (zfV exit g ins n)
structure LInv (exit:List Int) (g:List Bl) (ins:List (List Int)):Prop where
 len:ins.length=g.length
 asc:∀i,Asc (ins.getD i [])
 sub:∀i,∀x∈ins.getD i [],x∈newB exit g ins i
theorem zuX {exit:List Int} {g:List Bl} {a b:List (List Int)} (hl:a.length=b.length) (h:∀i,∀x∈a.getD i [],x∈b.getD i []) (i:Nat):∀x∈newB exit g a i,x∈newB exit g b i:=by
 intro x hx;unfold newB zga at *;split at hx
 · cases hx
 ·
  rename_i h0;rw[if_neg h0]
  have he:∀y∈endB a ((g.map (·.stmts)).getD i []),y∈endB b ((g.map (·.stmts)).getD i []):=fun y hy=>by obtain⟨t,h1,h2,h3⟩:=zfP.1 hy;exact zfP.2 ⟨t,h1,⟨h2.1,by omega⟩,h _ y h3⟩
  revert x
  generalize (g.map (·.stmts)).getD i []=l at he h0;generalize endB a l=ea at he;generalize endB b l=eb at he;clear h0
  induction l with
  | nil=>exact he
  |
   cons s l ih =>
   intro x hx;have hx:x∈zfd exit s (zfn exit l ea):=hx;show x∈zfd exit s (zfn exit l eb);rw[zgD] at hx ⊢
   rcases hx with ⟨h1,h2⟩|h1
   · exact .inl ⟨ih x h1,h2⟩
   · exact .inr h1
theorem zmT {exit:List Int} {g:List Bl} {ins:List (List Int)} {i:Nat}:Asc (newB exit g ins i):=zv4 zx1
theorem zkv {α:Type} {l:List α} {i j:Nat} {a d:α} (h:i < l.length):(l.set i a).getD j d=if j=i then a else l.getD j d:=by
 rw[Wc,Wc,List.getElem?_set]
 by_cases hij:i=j
 · subst hij;simp[h]
 · rw[if_neg hij,if_neg (fun e=>hij e.symm)]
theorem LInv.step {exit:List Int} {g:List Bl} {ins:List (List Int)} (h:LInv exit g ins) {i:Nat} (hi:i < g.length) :
  LInv exit g (zfV exit g ins i)∧(∀j,∀x∈ins.getD j [],x∈(zfV exit g ins i).getD j [])∧(zfV exit g ins i).getD i []=newB exit g ins i:=by
 have hil:i < ins.length:=by rw[h.len];exact hi
 unfold zfV;split
 · rename_i he;refine⟨h,fun j x hx=>hx,?_⟩;exact zzK (h.asc i) zmT (h.sub i) he.symm
 ·
  have hgrow:∀j,∀x∈ins.getD j [],x∈(ins.set i (newB exit g ins i)).getD j []:=fun j x hx=>by
   rw[zkv hil];split
   · rename_i hji;subst hji;exact h.sub j x hx
   · exact hx
  have hlen:ins.length=(ins.set i (newB exit g ins i)).length:=by simp
  refine⟨⟨by simp[h.len],fun j=>?_,fun j x hx=>?_⟩,hgrow,by rw[zkv hil,if_pos rfl]⟩
  ·
   rw[zkv hil];split
   · exact zmT
   · exact h.asc j
  ·
   rw[zkv hil] at hx;split at hx
   · rename_i hji;subst hji;exact zuX hlen hgrow j x hx
   · exact zuX hlen hgrow j x (h.sub j x hx)
def zcT (ins:List (List Int)):Nat:=(ins.map (·.length)).sum
def univ (exit:List Int) (g:List Bl):List Int:=exit++g.flatMap fun b=>b.stmts.flatMap zfj
theorem zAK {exit:List Int} {g:List Bl} {ins:List (List Int)} (h:∀i,∀x∈ins.getD i [],x∈univ exit g) (i:Nat):∀x∈newB exit g ins i,x∈univ exit g:=by
 unfold newB zga;split
 · intro x hx;cases hx
 ·
  have he:∀y∈endB ins ((g.map (·.stmts)).getD i []),y∈univ exit g:=fun y hy=>by obtain⟨t,h1,h2,h3⟩:=zfP.1 hy;exact h _ y h3
  have hs:∀s∈(g.map (·.stmts)).getD i [],∀y∈zfj s,y∈univ exit g:=fun s hs y hy=>by
   by_cases hi:i < g.length
   · rw[Wc,Wk,Wd hi] at hs;exact List.mem_append_right _ (WJ.2 ⟨g[i],List.getElem_mem hi,WJ.2 ⟨s,hs,hy⟩⟩)
   · rw[Wc,Wk,List.getElem?_eq_none (by omega)] at hs;cases hs
  generalize (g.map (·.stmts)).getD i []=l at he hs;generalize endB ins l=e at he
  induction l with
  | nil=>exact he
  |
   cons s l ih =>
   intro x hx;have hx:x∈zfd exit s (zfn exit l e):=hx;rw[zgD] at hx
   rcases hx with ⟨h1,h2⟩|h1 | ⟨_,h1⟩
   · exact ih (fun s' hs'=>hs s' (Wi _ hs')) x h1
   · exact hs s (by simp) x h1
   · exact List.mem_append_left _ h1
structure LInvU (exit:List Int) (g:List Bl) (ins:List (List Int)):Prop extends LInv exit g ins where
 uni:∀i,∀x∈ins.getD i [],x∈univ exit g
theorem zpv:∀(l:List (List Int)) (i:Nat) (a:List Int),i < l.length→zcT (l.set i a)+(l.getD i []).length=zcT l+a.length
 | [],i,a,h=>by simp at h
 | b::l,0,a,h=>by simp only[zcT,WH,Wh,Wz,List.getD_cons_zero];omega
 |
  b::l,i+1,a,h=>by
  have:=zpv l i a (by simpa using h);simp only[zcT,List.set_cons_succ,Wh,Wz,List.getD_cons_succ] at *;omega
theorem LInvU.step {exit:List Int} {g:List Bl} {ins:List (List Int)} (h:LInvU exit g ins) {i:Nat} (hi:i < g.length):LInvU exit g (zfV exit g ins i):=by
 obtain⟨h1,h2,h3⟩:=h.toLInv.step hi;refine⟨h1,fun j x hx=>?_⟩;unfold zfV at hx;split at hx
 · exact h.uni j x hx
 ·
  rw[zkv (by rw[h.len];exact hi)] at hx;split at hx
  · exact zAK h.uni i x hx
  · exact h.uni j x hx
theorem LInvU.total_step {exit:List Int} {g:List Bl} {ins:List (List Int)} (h:LInvU exit g ins) {i:Nat} (hi:i < g.length):zcT ins≤zcT (zfV exit g ins i)∧(zcT ins=zcT (zfV exit g ins i)→zfV exit g ins i=ins):=by
 unfold zfV;split
 · exact⟨Wb _,fun _=>rfl⟩
 · rename_i hne;have h1:=zpv ins i (newB exit g ins i) (by rw[h.len];exact hi);have h2:=zpn (h.asc i) zmT (h.sub i);exact⟨by omega,fun he=>by omega⟩
theorem LInvU.pass {exit:List Int} {g:List Bl}:∀ {n:Nat} {ins:List (List Int)},LInvU exit g ins→n≤g.length→LInvU exit g (zj5 exit g n ins)∧zcT ins≤zcT (zj5 exit g n ins)∧(zcT ins=zcT (zj5 exit g n ins)→zj5 exit g n ins=ins∧∀i,i < n→zfV exit g ins i=ins)
 | 0,ins,h,_=>⟨h,Wb _,fun _=>⟨rfl,fun i hi=>absurd hi (Nat.not_lt_zero _)⟩⟩
 |
  n+1,ins,h,hn=>by
  have h1:=h.step (i:=n) (by omega);obtain⟨h2,h3⟩:=h.total_step (i:=n) (by omega);obtain⟨h4,h5,h6⟩:=LInvU.pass (n:=n) h1 (by omega);refine⟨h4,Nat.le_trans h2 h5,fun he=>?_⟩;have he2:zcT (zj5 exit g n (zfV exit g ins n))=zcT ins:=he.symm;have e1:=h3 (by omega);obtain⟨h7,h8⟩:=h6 (by omega);rw[e1] at h7 h8;refine⟨by show zj5 exit g n (zfV exit g ins n)=ins;rw[e1];exact h7,fun i hi=>?_⟩
  by_cases hin:i=n
  · subst hin;exact e1
  · exact h8 i (by omega)
theorem zys {n m:Nat}:∀ {l:List (List Int)},l.length=n→(∀a∈l,a.length≤m)→zcT l≤n * m
 | [],rfl,_=>by simp[zcT]
 |
  a::l,rfl,h=>by
  have h1:=zys (l:=l) (n:=l.length) (m:=m) rfl (fun b hb=>h b (Wi _ hb));have h2:=h a (by simp);simp only[zcT,Wh,Wz,Wl] at *;rw[Nat.add_mul];omega
theorem LInvU.bound {exit:List Int} {g:List Bl} {ins:List (List Int)} (h:LInvU exit g ins):zcT ins≤g.length * (univ exit g).length:=by
 refine zys h.len fun a ha=>?_
 obtain⟨i,hi,rfl⟩:=WE.1 ha
 have e:ins.getD i []=ins[i]:=by rw[Wc,Wd hi];rfl
 have:=List.Nodup.length_le_of_subset (zqP (h.asc i)) (h.uni i)
 rwa [e] at this
def fixL (exit:List Int) (g:List Bl):Nat→List (List Int)→List (List Int)
 | 0,ins=>ins
 | k+1,ins=>if zcT (zj5 exit g g.length ins)=zcT ins then ins else fixL exit g k (zj5 exit g g.length ins)
def zmo (exit:List Int) (g:List Bl):Nat:=g.length * (univ exit g).length+1
def zbs (exit:List Int) (g:List Bl):List (List Int):=fixL exit g (zmo exit g) (g.map fun _=>[])
def zaD (exit:List Int) (g:List Bl) (i:Nat):List Int:=endB (zbs exit g) ((g.map (·.stmts)).getD i [])
theorem zu7 (exit:List Int) (g:List Bl):LInvU exit g (g.map fun _=>[]):=by
 have e:∀i,(g.map fun _=>([]:List Int)).getD i []=[]:=fun i=>by
  rw[Wc,Wk]
  cases g[i]? <;> rfl
 exact⟨⟨by simp,fun i=>by rw[e];simp[Asc],fun i x hx=>by rw[e] at hx;cases hx⟩,fun i x hx=>by rw[e] at hx;cases hx⟩
theorem zxU {exit:List Int} {g:List Bl}:∀(k:Nat) {ins:List (List Int)},LInvU exit g ins→zmo exit g≤k+zcT ins→LInvU exit g (fixL exit g k ins)∧∀i,i < g.length→newB exit g (fixL exit g k ins) i=(fixL exit g k ins).getD i []
 | 0,ins,h,h1=>by have:=h.bound;unfold zmo at h1;omega
 |
  k+1,ins,h,h1=>by
  rw[fixL];obtain⟨h3,h4,h5⟩:=h.pass (Wb _);split
  · rename_i he;obtain⟨_,h6⟩:=h5 he.symm;refine⟨h,fun i hi=>?_⟩;have:=(h.toLInv.step hi).2.2;rw[h6 i hi] at this;exact this.symm
  · exact zxU k h3 (by omega)
theorem zkA (exit:List Int) (g:List Bl):LInvU exit g (zbs exit g)∧∀i,i < g.length→newB exit g (zbs exit g) i=(zbs exit g).getD i []:=zxU _ (zu7 exit g) (by omega)
end Go.Ab
namespace Go.Ab
open Go.RowKit Go.Proofs
structure SetS (c:Int) (ps:List (Int × Int)):Prop where
 keys:(ps.map (·.1)).Nodup
 borns:(ps.map (·.2)).Nodup
 lt:∀p∈ps,p.2 < c
 top:c≤1000000
 len:ps.length≤1000000
theorem zx0 {ps sel:List (Int × Int)} (h1:sel.Nodup) (h2:ps.Nodup) (h3:∀p∈sel,p∈ps) (h4:∀p∈ps,p∈sel):sel.Perm ps :=
 List.perm_iff_count.2 fun a=>by
  by_cases ha:a∈ps
  · rw[List.Nodup.count h1,List.Nodup.count h2,if_pos ha,if_pos (h4 a ha)]
  · rw[List.Nodup.count h1,List.Nodup.count h2,if_neg ha,if_neg (fun h=>ha (h3 a h))]
theorem QY {p q:Prop}(k:q)(h:Im q p:=by(repeat first|simp(disch:=try exact dis1) only[evD,Nat.reduceBEq,Nat.reduceAdd,Nat.reduceLeDiff,zc4] | ((with_reducible apply Im.i);intro _) | ((with_reducible apply Im.a);omega));exact Im.r):p:=h k
theorem Qba {p:Prop}(h:p:=by(try simp only[evWB,Nat.reduceBEq,Nat.reduceAdd,Nat.reduceSub,Nat.reduceLeDiff,Nat.reduceLT,implies_true,zB])<;>exact fin8):p:=h
theorem Qbd {p:Prop}(h:p:=by(try simp only[evWB,Nat.reduceBEq,Nat.reduceAdd,Nat.reduceSub,Nat.reduceLeDiff,Nat.reduceLT,implies_true,zB,List.length_append,List.length_singleton,List.map_append,List.map_cons,List.map_nil])<;>exact fin8):p:=h
theorem zpI (c:Int) (ps:List (Int × Int)) (hs:SetS c ps):zab Tryz.prog zf [.mp 0 0] [(0,.row 3 ((setM c ps).map cm) 0)] 1
  (fun v H nx=>v=za (zcI (ps.map (·.1)))∧H=[(0,.row 3 ((setM c ps).map cm) 0)]∧nx=1):=by
 refine zbc (fn_x zfG rfl ?_);unfold zc5;have hB:=hBig;have htop:=hs.top;have hlen:=hs.len
 (repeat first|simp(disch:=try exact dis1) only[evD,Nat.reduceBEq,Nat.reduceAdd,Nat.reduceLeDiff,evM,zB,zut]|with_reducible first|intro _|refine aJ ?_)
 refine zk (fun sel:List (Int × Int)=>([(3,.own 1 0 0 0 sel.length),(6,.it 2)],[(0,.row 3 ((setM c ps).map cm) 0),(1,.row 1 (sel.map fun p=>cI p.1) 0),(2,.row 1 ([.mp 0 0]::[.int .i64 c]::[.int .i64 c]::sel.map fun p=>[.int .i64 p.2]) 0)])) 3
  (fun sel=>sel.Nodup∧∀p∈sel,p∈ps) (fun sel=>ps.length - sel.length) [] ⟨List.nodup_nil,fun p h=>by cases h⟩ (Ent.tabB [(0,0,0),(1,2,0),(2,3,0)] [] rfl rfl rfl Qba Qba) ?_
 rintro sel ⟨hnd,hsub⟩ wf;have hpn:ps.Nodup:=zjr hs.keys;have hsl:sel.length≤ps.length:=List.Nodup.length_le_of_subset hnd hsub;unfold zb7
 (refine Qa ?_;intros)
 refine zyA (ps:=ps) (sel:=sel) (c:=c) rfl rfl (by omega) hs.lt hs.borns hsub (fun hall=>?_) (fun p hp hns=>?_)
 ·
  have hperm:=zx0 hnd hpn hsub hall;have hlen2:=hperm.length_eq
  (refine Qa ?_;intros)
  have hsort:zcI (sel.map (·.1))=zcI (ps.map (·.1)):=zpH (((zam _).trans (hperm.map _)).trans (zam _).symm) (zb4 _) (zb4 _)
  have hmm:(sel.map fun p=>cI p.1)=(sel.map (·.1)).map fun n=>[AV.int .i64 n]:=by rw[List.map_map];rfl
  rw[hmm];unfold zb8
  (refine Qa ?_;intros)
  have hsc:=zpy (H:=[(0,.row 3 ((setM c ps).map cm) 0),(1,.row 1 ((sel.map (·.1)).map fun n=>[AV.int .i64 n]) 0),(2,.row 1 ([.mp 0 0]::[.int .i64 c]::[.int .i64 c]::sel.map fun p=>[.int .i64 p.2]) 0)]) (nx:=3) (r:=1) (q:=0) (g:=0) (zs:=sel.map (·.1)) rfl (by rw[We];omega);rw[We] at hsc;refine zZ hsc ?_;rintro _ _ _ hres;simp only[Wu] at hres;obtain⟨rfl,rfl,rfl⟩:=hres
  have hl3:sel.length=(zcI (ps.map (·.1))).length:=by rw[(zam _).length_eq,We];exact hlen2
  rw[hsort,hl3];generalize zcI (ps.map (·.1))=so at hl3 ⊢
  (refine QY ?_;intros)
  exact⟨za so,[(0,.row 3 ((setM c ps).map cm) 0)],1,(Ent.tabB [(0,0,0)] [1] rfl rfl rfl Qba Qba),rfl,rfl,rfl⟩
 ·
  have hent:=fun(H:AH) (nx:Nat) (hr) (hm)=>zxN (H:=H) (nx:=nx) (r:=2) (rm:=0) (qm:=0) (c:=c) (since:=c) (sel:=sel) (p:=p) hr hm hs.borns hp
  (refine Qa ?_;intros)
  rw[hent _ _ rfl rfl]
  (refine Qa ?_;intros)
  refine⟨sel++[p],⟨?_,?_⟩,?_,(Ent.tabB [(0,0,0),(1,1,1),(2,2,0)] [] rfl rfl rfl Qbd Qbd)⟩
  · rw[Wt];exact⟨hnd,by simp,fun a ha b hb e=>hns (by rw[Wf] at hb;rw[←hb,←e];exact ha)⟩
  ·
   intro a ha
   rcases Wj.1 ha with ha|ha
   · exact hsub a ha
   · rw[Wf] at ha;rw[ha];exact hp
  ·
   have:sel.length < ps.length:=by
    have:=List.Nodup.length_le_of_subset (Wm.2 ⟨hns,hnd⟩) (show ∀a∈p::sel,a∈ps from fun a ha=>by
     rcases Wa.1 ha with rfl|ha
     · exact hp
     · exact hsub a ha)
    simp only[Wl] at this;omega
   rw[Wo,Wp];omega
def famS (n:Nat) (S:Nat→Int × List (Int × Int)):AObj:=.fam 3 (fi cm n (fun i=>setM (S i).1 (S i).2) (fun _=>0))
theorem zFz {n k:Nat} {S:Nat→Int × List (Int × Int)} (hk:k < n) {t:AH}:AH.get ((0,famS n S)::t) 0 (k+1)=some (.row 3 ((setM (S k).1 (S k).2).map cm) 0):=by unfold AH.get famS;simp only[AH.look,zaG,cond_true,Option.bind_some,AObj.part,zp0 hk,Option.map_some]
theorem zcv (n k:Nat) (hk:k < n) (S:Nat→Int × List (Int × Int)) (hs:SetS (S k).1 (S k).2):zab Tryz.prog zf [.mp 0 (k+1)] [(0,famS n S)] 1
  (fun v H nx=>v=za (zcI ((S k).2.map (·.1)))∧H=[(0,famS n S)]∧nx=1):=by
 refine zbc (fn_x zfG rfl ?_);unfold zc5;have hB:=hBig;have htop:=hs.top;have hlen:=hs.len;have hg:=@zFz n k S hk;unfold famS at hg ⊢;generalize hc:(S k).1=c at *;generalize hps:(S k).2=ps at *
 (repeat first|simp(disch:=try exact dis1) only[evD,Nat.reduceBEq,Nat.reduceAdd,Nat.reduceLeDiff,evM,zp0 hk,hc,hps,zB,zut]|with_reducible first|intro _|refine aJ ?_)
 refine zk (fun sel:List (Int × Int)=>([(3,.own 1 0 0 0 sel.length),(6,.it 2)],[(0,.fam 3 (fi cm n (fun i=>setM (S i).1 (S i).2) (fun _=>0))),(1,.row 1 (sel.map fun p=>cI p.1) 0),(2,.row 1 ([.mp 0 (k+1)]::[.int .i64 c]::[.int .i64 c]::sel.map fun p=>[.int .i64 p.2]) 0)])) 3
  (fun sel=>sel.Nodup∧∀p∈sel,p∈ps) (fun sel=>ps.length - sel.length) [] ⟨List.nodup_nil,fun p h=>by cases h⟩ (Ent.tabB [(0,0,0),(1,2,0),(2,3,0)] [] rfl rfl rfl Qba Qba) ?_
 rintro sel ⟨hnd,hsub⟩ wf;have hpn:ps.Nodup:=zjr hs.keys;have hsl:sel.length≤ps.length:=List.Nodup.length_le_of_subset hnd hsub;unfold zb7
 (refine Qa ?_;intros)
 refine zyA (ps:=ps) (sel:=sel) (c:=c) rfl hg (by omega) hs.lt hs.borns hsub (fun hall=>?_) (fun p hp hns=>?_)
 ·
  have hperm:=zx0 hnd hpn hsub hall;have hlen2:=hperm.length_eq
  (refine Qa ?_;intros)
  have hsort:zcI (sel.map (·.1))=zcI (ps.map (·.1)):=zpH (((zam _).trans (hperm.map _)).trans (zam _).symm) (zb4 _) (zb4 _)
  have hmm:(sel.map fun p=>cI p.1)=(sel.map (·.1)).map fun n=>[AV.int .i64 n]:=by rw[List.map_map];rfl
  rw[hmm];unfold zb8
  (refine Qa ?_;intros)
  have hsc:=zpy (H:=[(0,.fam 3 (fi cm n (fun i=>setM (S i).1 (S i).2) (fun _=>0))),(1,.row 1 ((sel.map (·.1)).map fun n=>[AV.int .i64 n]) 0),(2,.row 1 ([.mp 0 (k+1)]::[.int .i64 c]::[.int .i64 c]::sel.map fun p=>[.int .i64 p.2]) 0)]) (nx:=3) (r:=1) (q:=0) (g:=0) (zs:=sel.map (·.1)) rfl (by rw[We];omega);rw[We] at hsc;refine zZ hsc ?_;rintro _ _ _ hres;simp only[Wu] at hres;obtain⟨rfl,rfl,rfl⟩:=hres
  have hl3:sel.length=(zcI (ps.map (·.1))).length:=by rw[(zam _).length_eq,We];exact hlen2
  rw[hsort,hl3];generalize zcI (ps.map (·.1))=so at hl3 ⊢
  (refine QY ?_;intros)
  exact⟨za so,[(0,.fam 3 (fi cm n (fun i=>setM (S i).1 (S i).2) (fun _=>0)))],1,(Ent.tabB [(0,0,0)] [1] rfl rfl rfl Qba Qba),rfl,rfl,rfl⟩
 ·
  have hent:=fun(H:AH) (nx:Nat) (hr) (hm)=>zxN (H:=H) (nx:=nx) (r:=2) (rm:=0) (qm:=k+1) (c:=c) (since:=c) (sel:=sel) (p:=p) hr hm hs.borns hp
  (refine Qa ?_;intros)
  rw[hent _ _ rfl hg]
  (refine Qa ?_;intros)
  refine⟨sel++[p],⟨?_,?_⟩,?_,(Ent.tabB [(0,0,0),(1,1,1),(2,2,0)] [] rfl rfl rfl Qbd Qbd)⟩
  · rw[Wt];exact⟨hnd,by simp,fun a ha b hb e=>hns (by rw[Wf] at hb;rw[←hb,←e];exact ha)⟩
  ·
   intro a ha
   rcases Wj.1 ha with ha|ha
   · exact hsub a ha
   · rw[Wf] at ha;rw[ha];exact hp
  ·
   have:sel.length < ps.length:=by
    have:=List.Nodup.length_le_of_subset (Wm.2 ⟨hns,hnd⟩) (show ∀a∈p::sel,a∈ps from fun a ha=>by
     rcases Wa.1 ha with rfl|ha
     · exact hp
     · exact hsub a ha)
    simp only[Wl] at this;omega
   rw[Wo,Wp];omega
abbrev MS:=Int × List (Int × Int)
def MS.keys (s:MS):List Int:=s.2.map (·.1)
def MS.ok (s:MS):Prop:=SetS s.1 s.2
def add1 (s:MS) (v:Int):MS:=if v∈s.keys then s else (s.1+1,s.2++[(v,s.1)])
def addL (s:MS) (l:List Int):MS:=l.foldl add1 s
theorem zBb {s:MS} {v:Int}:(add1 s v).keys=if v∈s.keys then s.keys else s.keys++[v]:=by
 unfold add1;split
 · rfl
 · simp[MS.keys]
theorem zxP {s:MS} {v:Int}:s.2.length≤(add1 s v).2.length∧(add1 s v).1≤s.1+1∧(add1 s v).2.length≤s.2.length+1:=by
 unfold add1;split
 · exact⟨Wb _,by omega,by omega⟩
 · exact⟨by simp,by simp,by simp⟩
theorem SetS.add {c:Int} {ps:List (Int × Int)} (h:SetS c ps) {v:Int} (hv:v∉ps.map (·.1)) (ht:c < 1000000) (hl:ps.length < 1000000):SetS (c+1) (ps++[(v,c)]):=by
 refine⟨?_,?_,fun p hp=>?_,by omega,by simp;omega⟩
 · rw[Wn,Wt];exact⟨h.keys,by simp,fun a ha b hb e=>hv (by simp only[Wh,WA,Wf] at hb;rw[←hb,←e];exact ha)⟩
 · rw[Wn,Wt];refine⟨h.borns,by simp,fun a ha b hb e=>?_⟩;simp only[Wh,WA,Wf] at hb;obtain⟨p,hp,hpe⟩:=List.mem_map.1 ha;have:=h.lt p hp;omega
 ·
  rcases Wj.1 hp with hp|hp
  · have:=h.lt p hp;omega
  · rw[Wf] at hp;rw[hp];simp only;omega
theorem zGe {s:MS} {v:Int} (h:s.ok) (ht:s.1 < 1000000) (hl:s.2.length < 1000000):(add1 s v).ok:=by
 unfold add1;split
 · exact h
 · rename_i hv;exact SetS.add h hv ht hl
theorem zdQ:∀ {l:List Int} {s:MS},s.2.length≤(addL s l).2.length∧(addL s l).1≤s.1+l.length∧(addL s l).2.length≤s.2.length+l.length
 | [],s=>⟨Wb _,by simp[addL],by simp[addL]⟩
 |
  v::l,s=>by
  have h1:=zxP (s:=s) (v:=v);have h2:=zdQ (l:=l) (s:=add1 s v);show s.2.length≤(addL (add1 s v) l).2.length∧(addL (add1 s v) l).1≤s.1+_∧(addL (add1 s v) l).2.length≤_;simp only[Wl];exact⟨by omega,by omega,by omega⟩
theorem zl2:∀ {l:List Int} {s:MS},s.ok→s.1+l.length≤1000000→s.2.length+l.length≤1000000→(addL s l).ok
 | [],s,h,_,_=>h
 |
  v::l,s,h,h1,h2=>by
  simp only[Wl] at h1 h2;have h3:=zxP (s:=s) (v:=v);exact zl2 (l:=l) (zGe h (by omega) (by omega)) (by omega) (by omega)
theorem zeM {y:Int}:∀ {l:List Int} {s:MS},y∈(addL s l).keys↔y∈s.keys∨y∈l
 | [],s=>by simp[addL]
 |
  v::l,s=>by
  show y∈(addL (add1 s v) l).keys↔_;rw[zeM,zBb];split
  ·
   rename_i h;constructor
   ·
    rintro(h1|h1)
    · exact .inl h1
    · exact .inr (Wi _ h1)
   ·
    rintro(h1|h1)
    · exact .inl h1
    ·
     rcases Wa.1 h1 with rfl|h1
     · exact .inl h
     · exact .inr h1
  · rw[Wj,Wf,Wa,or_assoc]
theorem zuT {s:MS} {l:List Int} {i:Nat} (h:i < l.length):addL s (l.take (i+1))=add1 (addL s (l.take i)) l[i]:=by unfold addL;rw[WG,Wd h,List.foldl_append];rfl
theorem zyy {p:Int × Int} {ps:List (Int × Int)}:(enL (ps++[p])).map cm=(enL ps).map cm++[[.int .i64 p.1,.bool true,.int .i64 p.2]]:=by simp[enL,cm]
theorem zBr {c v:Int} {ps:List (Int × Int)}:[AV.int .i64 (c+1),.undef,.undef]::((enL ps).map cm++[[.int .i64 v,.bool true,.int .i64 c]])=(setM (c+1) (ps++[(v,c)])).map cm:=by simp[setM,enL,cm]
theorem Qp {p q:Prop}(k:q)(h:Im q p:=by(repeat first|simp(disch:=try exact dis1) only[evD,Nat.reduceBEq,Nat.reduceAdd,Nat.reduceLeDiff,za] | ((with_reducible apply Im.i);intro _) | ((with_reducible apply Im.a);omega));exact Im.r):p:=h k
theorem QZ {p q:Prop}(k:q)(h:Im q p:=by(repeat first|simp(disch:=try exact dis1) only[evD,Nat.reduceBEq,Nat.reduceAdd,Nat.reduceLeDiff,zdw] | ((with_reducible apply Im.i);intro _) | ((with_reducible apply Im.a);omega));exact Im.r):p:=h k
theorem Qbg {p:Prop}(h:p:=by(try simp only[evWB,Nat.reduceBEq,Nat.reduceAdd,Nat.reduceSub,Nat.reduceLeDiff,Nat.reduceLT,implies_true,zB,za])<;>exact fin6):p:=h
theorem Qav {p:Prop}(h:p:=by(try simp only[evWB,Nat.reduceBEq,Nat.reduceAdd,Nat.reduceSub,Nat.reduceLeDiff,Nat.reduceLT,implies_true,zB])<;>exact fin6):p:=h
theorem zhP (s:MS) (l:List Int) (hs:s.ok) (h1:s.1+l.length≤1000000) (h2:s.2.length+l.length≤1000000):zab Tryz.prog zC [.mp 0 0,za l] [(0,.row 3 ((setM s.1 s.2).map cm) 0)] 1
  (fun v H nx=>v=.bool (decide (s.2.length < (addL s l).2.length))∧H=[(0,.row 3 ((setM (addL s l).1 (addL s l).2).map cm) 0)]∧nx=1):=by
 refine zbc (fn_x zgJ rfl ?_);unfold zdA;have hB:=hBig
 (refine Qp ?_;intros)
 refine zk (fun i:Nat=>([(0,.mp 0 0),(5,.bool (decide (s.2.length < (addL s (l.take i)).2.length))),(8,za l),(9,.int .i64 l.length),(10,.int .i64 i)],[(0,.row 3 ((setM (addL s (l.take i)).1 (addL s (l.take i)).2).map cm) 0)])) 1
  (fun i=>i≤l.length) (fun i=>l.length - i) 0 (Wy _) (by rw[List.take_zero,show addL s []=s from rfl,dF (Nat.lt_irrefl _)];exact(Ent.tabB [(0,0,0)] [] rfl rfl rfl Qbg Qbg)) ?_
 rintro i hi wf;unfold zch
 by_cases hl:i < l.length
 ·
  have hgl:=zq (f:=cI) (d:=[]) hl;have hb:=zdQ (l:=l.take i) (s:=s);rw[Wv] at hb;have hnx:=zuT (s:=s) hl;generalize addL s (l.take i)=si at hb hnx ⊢;obtain⟨c,ps⟩:=si;simp only at hb hnx ⊢
  by_cases hk:l[i]∈ps.map (·.1)
  ·
   obtain⟨j,hj,hje,hf⟩:=zmU hk;have e1:add1 (c,ps) l[i]=(c,ps):=if_pos hk;rw[e1] at hnx
   (repeat first|simp(disch:=try exact dis1) only[evD,Nat.reduceBEq,Nat.reduceAdd,Nat.reduceLeDiff,dT,hgl,za,zB,hf]|with_reducible first|intro _|refine aJ ?_)
   exact⟨i+1,by omega,by omega,(Ent.tabB [(0,0,0)] [] rfl rfl rfl (by(try simp only[evWB,Nat.reduceBEq,Nat.reduceAdd,Nat.reduceSub,Nat.reduceLeDiff,Nat.reduceLT,implies_true,zB,za,hnx])<;>exact fin6) (by(try simp only[evWB,Nat.reduceBEq,Nat.reduceAdd,Nat.reduceSub,Nat.reduceLeDiff,Nat.reduceLT,implies_true,zB,za,hnx])<;>exact fin6))⟩
  ·
   have hf:=zkE hk;have e1:add1 (c,ps) l[i]=(c+1,ps++[(l[i],c)]):=if_neg hk;rw[e1] at hnx
   (repeat first|simp(disch:=try exact dis1) only[evD,Nat.reduceBEq,Nat.reduceAdd,Nat.reduceLeDiff,dT,hgl,za,zB,hf]|with_reducible first|intro _|refine aJ ?_)
   have hd:decide (s.2.length < ps.length+1)=true:=dT (by omega);exact⟨i+1,by omega,by omega,(Ent.tabB [(0,0,0)] [] rfl rfl rfl (by(try simp only[evWB,Nat.reduceBEq,Nat.reduceAdd,Nat.reduceSub,Nat.reduceLeDiff,Nat.reduceLT,implies_true,zB,za,hnx,zyy,Wo,Wp,hd])<;>exact fin6) (by(try simp only[evWB,Nat.reduceBEq,Nat.reduceAdd,Nat.reduceSub,Nat.reduceLeDiff,Nat.reduceLT,implies_true,zB,za,hnx,zyy,Wo,Wp,hd])<;>exact fin6))⟩
 ·
  (refine Qg ?_;intros)
  unfold zcf
  (refine QZ ?_;intros)
  rw[List.take_of_length_le (by omega)];exact⟨_,_,_,(Ent.tabB [(0,0,0)] [] rfl rfl rfl Qav Qav),rfl,rfl,rfl⟩
end Go.Ab
