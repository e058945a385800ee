/-
  Part 14 of the proof: how the calls of this program run, over values instead of memory, and what each function computes.
-/
import Derived.KernelRfl
import Derived.Test.YtdhlfajcofgpkaaGreatKm
set_option maxRecDepth 100000
set_option linter.unusedVariables false
set_option linter.unusedSimpArgs false
set_option linter.unnecessarySimpa false
set_option linter.unusedSectionVars false
open List renaming replicate→Wa,mem_cons→Wb,mem_singleton→Wc,take_of_length_le→We,length_append→Wg,take_add_one→Wh,getElem?_eq_getElem→Wi,map_cons→Wk,map_nil→Wl,length_take→Wn,not_mem_nil→Wo,drop_eq_getElem_cons→Wp,mem_append→Wq,getD_cons_zero→Ws,getD_cons_succ→Wt,map_singleton→Wu,mem_cons_self→Wv,mem_cons_of_mem→Ww,length_filter_le→Wx,length_cons→Wy,length_drop→Wz
open Nat renaming zero_le→Wd,le_refl→Wm
open And renaming intro→Wf
open Option renaming toList_some→Wj
open Int renaming le_refl→Wr
namespace Go.Ab
open Go.RowKit Go.Proofs
def zeA:ACode:=.seq (.seq (.region [ (oM 24 10),(oM 25 3),(oE 26 25),(oB 27 .lss 24 26)] [24,25,26]) (.cond (.t 27) (.skip) (.exit 0))) (.seq (.block 1 (.seq (.region [ (oM 30 3),(oM 31 10),(oI 32 1 30 31),(oL 33 32),(oC 34 .geq 33 0),(oM 35 34),(oG 36 35 true (.mov (.t 3))),(oG 37 35 true (.mov (.t 10))),(oG 38 35 true (.idx 1 (.t 36) (.t 37))),(oG 39 35 true (.load false 1 (.t 38))),(oG 40 35 true (.bin .lss (.t 39) (.c (.int .i64 12)))),(oN 41 (.pick (.t 35) (.t 40) (.c (.bool false))))] [27,30,31,32,33,34,35,36,37,38,39,40]) (.cond (.t 41) (.draw ( .step (oF 42 1 1 9) ( .step (oM 44 3) ( .step (oM 45 10) ( .alt (oL 43 42) ( .alt (oI 46 1 44 45) ( .alt (oL 47 46) ( .alt (oN 48 (.callq zgQ [(.t 47)])) ( .alt Yaz ( .step YaA ( .alt Yax ( .alt Yay ( .step (oF 53 1 1 9) ( .alt (oS 1 53 52) ( .done) ( .stop))) ( .stop)) ( .stop))) ( .stop)) ( .stop)) ( .stop)) ( .stop)) ( .alt (oI 46 1 44 45) ( .alt (oL 43 42) ( .alt (oL 47 46) ( .alt (oN 48 (.callq zgQ [(.t 47)])) ( .alt Yaz ( .step YaA ( .alt Yax ( .alt Yay ( .step (oF 53 1 1 9) ( .alt (oS 1 53 52) ( .done) ( .stop))) ( .stop)) ( .stop))) ( .stop)) ( .stop)) ( .stop)) ( .alt (oL 47 46) ( .alt (oL 43 42) ( .alt (oN 48 (.callq zgQ [(.t 47)])) ( .alt Yaz ( .step YaA ( .alt Yax ( .alt Yay ( .step (oF 53 1 1 9) ( .alt (oS 1 53 52) ( .done) ( .stop))) ( .stop)) ( .stop))) ( .stop)) ( .stop)) ( .alt (oN 48 (.callq zgQ [(.t 47)])) ( .alt (oL 43 42) ( .alt Yaz ( .step YaA ( .alt Yax ( .alt Yay ( .step (oF 53 1 1 9) ( .alt (oS 1 53 52) ( .done) ( .stop))) ( .stop)) ( .stop))) ( .stop)) ( .alt Yaz ( .step YaA ( .alt (oL 43 42) ( .alt Yax ( .alt Yay ( .step (oF 53 1 1 9) ( .alt (oS 1 53 52) ( .done) ( .stop))) ( .stop)) ( .stop)) ( .alt Yax ( .step (oL 43 42) ( .alt Yay ( .step (oF 53 1 1 9) ( .alt (oS 1 53 52) ( .done) ( .stop))) ( .stop))) ( .stop)))) ( .stop))) ( .stop))) ( .stop))) ( .stop)))))) [41,42,43,44,45,46,47,48,49,50,51,52,53]) (.skip)))) (.region [ (oM 28 10),(oC 29 .add 28 1),(oM 10 29)] [28,29,41]))
def zeB:ACode:=.seq (.region [ (oF 54 1 1 9),(oL 55 54),(oN 56 (.build [.int .i64 0,.int .i64 0,.int .i64 0,.int .i64 0,.int .i64 0,.int .u32 0,.nilsl,.nilsl] [(0,1,(.c (.int .i64 10)))])),(oN 57 (.buildSl 8 1 [.int .i64 0,.int .i64 0,.int .i64 0,.int .i64 0,.int .i64 0,.int .u32 0,.nilsl,.nilsl] [(0,(.t 56))])),(oN 58 (.append 8 96 (.t 55) (.t 57))),(oF 59 1 1 9),(oS 1 59 58)] [3,10,54,55,56,57,58,59]) (.seq (.draw ( .alt (oN 60 (.mksl 1 1 [.int .u8 0] (.c (.int .i64 32)) (.c (.int .i64 32)))) ( .step ⟨(some 61),.build [.str ⟨#[]⟩,.int .u32 0,.nilsl,.bool false,.bool false] [(0,1,(.c (.str ⟨#[100,97,116,97]⟩))),(1,1,(.c (.int .u32 8192))),(2,1,(.t 60)),(3,1,(.c (.bool true)))],none⟩ ( .alt (oN 62 (.mksl 1 1 [.int .u8 0] (.c (.int .i64 16)) (.c (.int .i64 16)))) ( .step ⟨(some 63),.build [.str ⟨#[]⟩,.int .u32 0,.nilsl,.bool false,.bool false] [(0,1,(.c (.str ⟨#[114,111,100,97,116,97]⟩))),(1,1,(.c (.int .u32 12288))),(2,1,(.t 62))],none⟩ ( .alt ⟨(some 64),.buildSl 5 2 [.str ⟨#[]⟩,.int .u32 0,.nilsl,.bool false,.bool false] [(0,(.t 61)),(1,(.t 63))],none⟩ ( .step (oM 11 64) ( .done)) ( .stop))) ( .stop))) ( .alt (oN 62 (.mksl 1 1 [.int .u8 0] (.c (.int .i64 16)) (.c (.int .i64 16)))) ( .step ⟨(some 63),.build [.str ⟨#[]⟩,.int .u32 0,.nilsl,.bool false,.bool false] [(0,1,(.c (.str ⟨#[114,111,100,97,116,97]⟩))),(1,1,(.c (.int .u32 12288))),(2,1,(.t 62))],none⟩ ( .alt (oN 60 (.mksl 1 1 [.int .u8 0] (.c (.int .i64 32)) (.c (.int .i64 32)))) ( .step ⟨(some 61),.build [.str ⟨#[]⟩,.int .u32 0,.nilsl,.bool false,.bool false] [(0,1,(.c (.str ⟨#[100,97,116,97]⟩))),(1,1,(.c (.int .u32 8192))),(2,1,(.t 60)),(3,1,(.c (.bool true)))],none⟩ ( .alt ⟨(some 64),.buildSl 5 2 [.str ⟨#[]⟩,.int .u32 0,.nilsl,.bool false,.bool false] [(0,(.t 61)),(1,(.t 63))],none⟩ ( .step (oM 11 64) ( .done)) ( .stop))) ( .stop))) ( .stop))) [60,61,62,63,64]) (.seq (.region [ (oF 65 0 1 4),(oL 66 65),(oN 67 (.bin .add (.t 66) (.c (.int .u32 1)))),(oA 68 2 9),(oN 69 (.buildSl 2 1 [.int .u32 0,.nilsl] [(0,(.t 68))])),(oN 70 (.build [.int .u32 0,.nilsl] [(0,1,(.t 67)),(1,1,(.t 69))])),(oA 71 2 4),(oN 72 (.buildSl 2 2 [.int .u32 0,.nilsl] [(0,(.t 70)),(1,(.t 71))])),(oM 73 11),(oF 74 0 1 4),(oL 75 74),(oN 76 (.bin .add (.t 75) (.c (.int .u32 1)))),(oN 77 (.build [.nilsl,.nilsl,.int .u32 0] [(0,1,(.t 72)),(1,1,(.t 73)),(2,1,(.t 76))])),(oS 3 8 77)] [4,9,11,65,66,67,68,69,70,71,72,73,74,75,76,77]) (.ret)))
def zb0:ACode:=(.seq (.seq (.region [ (oK 10 0)] []) (.block 0 (.loop zeA))) (zeB))
def zlc:ACode:=.seq (.region [ (oN 4 (.rbox (.t 0))),(oN 8 (.alloc [.nilsl,.nilsl,.int .u32 0]))] [0]) (.seq (.draw ( .step (oF 12 0 1 4) ( .step (oM 15 1) ( .step (oM 16 2) ( .step (oF 19 0 1 4) ( .alt (oL 13 12) ( .step Yae ( .alt (oN 17 (.callq zaf [(.t 16)])) ( .alt (oN 18 (.callq zQ [(.t 15),(.t 17)])) ( .alt (oL 20 19) ( .step Yag ( .alt Yac ( .step Yaa ( .alt Yad ( .alt Yab ( .done) ( .stop)) ( .stop))) ( .alt Yad ( .alt Yac ( .step Yaa ( .alt Yab ( .done) ( .stop))) ( .stop)) ( .stop)))) ( .alt Yad ( .alt (oL 20 19) ( .step Yag ( .alt Yac ( .step Yaa ( .alt Yab ( .done) ( .stop))) ( .stop))) ( .stop)) ( .stop))) ( .alt (oL 20 19) ( .step Yag ( .alt (oN 18 (.callq zQ [(.t 15),(.t 17)])) ( .alt Yac ( .step Yaa ( .alt Yad ( .alt Yab ( .done) ( .stop)) ( .stop))) ( .alt Yad ( .alt Yac ( .step Yaa ( .alt Yab ( .done) ( .stop))) ( .stop)) ( .stop))) ( .alt Yad ( .step (oN 18 (.callq zQ [(.t 15),(.t 17)])) ( .alt Yac ( .step Yaa ( .alt Yab ( .done) ( .stop))) ( .stop))) ( .stop)))) ( .alt Yad ( .step (oN 18 (.callq zQ [(.t 15),(.t 17)])) ( .alt (oL 20 19) ( .step Yag ( .alt Yac ( .step Yaa ( .alt Yab ( .done) ( .stop))) ( .stop))) ( .stop))) ( .stop)))) ( .alt (oL 20 19) ( .step Yag ( .alt (oN 17 (.callq zaf [(.t 16)])) ( .alt (oN 18 (.callq zQ [(.t 15),(.t 17)])) ( .alt Yac ( .step Yaa ( .alt Yad ( .alt Yab ( .done) ( .stop)) ( .stop))) ( .alt Yad ( .alt Yac ( .step Yaa ( .alt Yab ( .done) ( .stop))) ( .stop)) ( .stop))) ( .alt Yad ( .step (oN 18 (.callq zQ [(.t 15),(.t 17)])) ( .alt Yac ( .step Yaa ( .alt Yab ( .done) ( .stop))) ( .stop))) ( .stop))) ( .alt Yad ( .alt (oN 17 (.callq zaf [(.t 16)])) ( .step (oN 18 (.callq zQ [(.t 15),(.t 17)])) ( .alt Yac ( .step Yaa ( .alt Yab ( .done) ( .stop))) ( .stop))) ( .stop)) ( .stop)))) ( .alt Yad ( .alt (oN 17 (.callq zaf [(.t 16)])) ( .step (oN 18 (.callq zQ [(.t 15),(.t 17)])) ( .alt (oL 20 19) ( .step Yag ( .alt Yac ( .step Yaa ( .alt Yab ( .done) ( .stop))) ( .stop))) ( .stop))) ( .alt (oL 20 19) ( .step Yag ( .alt (oN 17 (.callq zaf [(.t 16)])) ( .step (oN 18 (.callq zQ [(.t 15),(.t 17)])) ( .alt Yac ( .step Yaa ( .alt Yab ( .done) ( .stop))) ( .stop))) ( .stop))) ( .stop))) ( .stop))))) ( .alt (oN 17 (.callq zaf [(.t 16)])) ( .alt (oL 13 12) ( .step Yae ( .alt (oN 18 (.callq zQ [(.t 15),(.t 17)])) ( .alt (oL 20 19) ( .step Yag ( .alt Yac ( .step Yaa ( .alt Yad ( .alt Yab ( .done) ( .stop)) ( .stop))) ( .alt Yad ( .alt Yac ( .step Yaa ( .alt Yab ( .done) ( .stop))) ( .stop)) ( .stop)))) ( .alt Yad ( .alt (oL 20 19) ( .step Yag ( .alt Yac ( .step Yaa ( .alt Yab ( .done) ( .stop))) ( .stop))) ( .stop)) ( .stop))) ( .alt (oL 20 19) ( .step Yag ( .alt (oN 18 (.callq zQ [(.t 15),(.t 17)])) ( .alt Yac ( .step Yaa ( .alt Yad ( .alt Yab ( .done) ( .stop)) ( .stop))) ( .alt Yad ( .alt Yac ( .step Yaa ( .alt Yab ( .done) ( .stop))) ( .stop)) ( .stop))) ( .alt Yad ( .step (oN 18 (.callq zQ [(.t 15),(.t 17)])) ( .alt Yac ( .step Yaa ( .alt Yab ( .done) ( .stop))) ( .stop))) ( .stop)))) ( .alt Yad ( .step (oN 18 (.callq zQ [(.t 15),(.t 17)])) ( .alt (oL 20 19) ( .step Yag ( .alt Yac ( .step Yaa ( .alt Yab ( .done) ( .stop))) ( .stop))) ( .stop))) ( .stop))))) ( .alt (oN 18 (.callq zQ [(.t 15),(.t 17)])) ( .alt (oL 13 12) ( .step Yae ( .alt (oL 20 19) ( .step Yag ( .alt Yac ( .step Yaa ( .alt Yad ( .alt Yab ( .done) ( .stop)) ( .stop))) ( .alt Yad ( .alt Yac ( .step Yaa ( .alt Yab ( .done) ( .stop))) ( .stop)) ( .stop)))) ( .alt Yad ( .alt (oL 20 19) ( .step Yag ( .alt Yac ( .step Yaa ( .alt Yab ( .done) ( .stop))) ( .stop))) ( .stop)) ( .stop)))) ( .alt (oL 20 19) ( .step Yag ( .alt (oL 13 12) ( .step Yae ( .alt Yac ( .step Yaa ( .alt Yad ( .alt Yab ( .done) ( .stop)) ( .stop))) ( .alt Yad ( .alt Yac ( .step Yaa ( .alt Yab ( .done) ( .stop))) ( .stop)) ( .stop)))) ( .alt Yac ( .alt (oL 13 12) ( .step Yae ( .step Yaa ( .alt Yad ( .alt Yab ( .done) ( .stop)) ( .stop)))) ( .alt Yad ( .step (oL 13 12) ( .step Yae ( .step Yaa ( .alt Yab ( .done) ( .stop))))) ( .stop))) ( .alt Yad ( .alt (oL 13 12) ( .step Yae ( .alt Yac ( .step Yaa ( .alt Yab ( .done) ( .stop))) ( .stop))) ( .alt Yac ( .step (oL 13 12) ( .step Yae ( .step Yaa ( .alt Yab ( .done) ( .stop))))) ( .stop))) ( .stop))))) ( .alt Yad ( .alt (oL 13 12) ( .step Yae ( .alt (oL 20 19) ( .step Yag ( .alt Yac ( .step Yaa ( .alt Yab ( .done) ( .stop))) ( .stop))) ( .stop))) ( .alt (oL 20 19) ( .step Yag ( .alt (oL 13 12) ( .step Yae ( .alt Yac ( .step Yaa ( .alt Yab ( .done) ( .stop))) ( .stop))) ( .alt Yac ( .step (oL 13 12) ( .step Yae ( .step Yaa ( .alt Yab ( .done) ( .stop))))) ( .stop)))) ( .stop))) ( .stop)))) ( .alt (oL 20 19) ( .step Yag ( .alt (oL 13 12) ( .step Yae ( .alt (oN 18 (.callq zQ [(.t 15),(.t 17)])) ( .alt Yac ( .step Yaa ( .alt Yad ( .alt Yab ( .done) ( .stop)) ( .stop))) ( .alt Yad ( .alt Yac ( .step Yaa ( .alt Yab ( .done) ( .stop))) ( .stop)) ( .stop))) ( .alt Yad ( .step (oN 18 (.callq zQ [(.t 15),(.t 17)])) ( .alt Yac ( .step Yaa ( .alt Yab ( .done) ( .stop))) ( .stop))) ( .stop)))) ( .alt (oN 18 (.callq zQ [(.t 15),(.t 17)])) ( .alt (oL 13 12) ( .step Yae ( .alt Yac ( .step Yaa ( .alt Yad ( .alt Yab ( .done) ( .stop)) ( .stop))) ( .alt Yad ( .alt Yac ( .step Yaa ( .alt Yab ( .done) ( .stop))) ( .stop)) ( .stop)))) ( .alt Yac ( .alt (oL 13 12) ( .step Yae ( .step Yaa ( .alt Yad ( .alt Yab ( .done) ( .stop)) ( .stop)))) ( .alt Yad ( .step (oL 13 12) ( .step Yae ( .step Yaa ( .alt Yab ( .done) ( .stop))))) ( .stop))) ( .alt Yad ( .alt (oL 13 12) ( .step Yae ( .alt Yac ( .step Yaa ( .alt Yab ( .done) ( .stop))) ( .stop))) ( .alt Yac ( .step (oL 13 12) ( .step Yae ( .step Yaa ( .alt Yab ( .done) ( .stop))))) ( .stop))) ( .stop)))) ( .alt Yad ( .step (oN 18 (.callq zQ [(.t 15),(.t 17)])) ( .alt (oL 13 12) ( .step Yae ( .alt Yac ( .step Yaa ( .alt Yab ( .done) ( .stop))) ( .stop))) ( .alt Yac ( .step (oL 13 12) ( .step Yae ( .step Yaa ( .alt Yab ( .done) ( .stop))))) ( .stop)))) ( .stop))))) ( .alt Yad ( .step (oN 18 (.callq zQ [(.t 15),(.t 17)])) ( .alt (oL 13 12) ( .step Yae ( .alt (oL 20 19) ( .step Yag ( .alt Yac ( .step Yaa ( .alt Yab ( .done) ( .stop))) ( .stop))) ( .stop))) ( .alt (oL 20 19) ( .step Yag ( .alt (oL 13 12) ( .step Yae ( .alt Yac ( .step Yaa ( .alt Yab ( .done) ( .stop))) ( .stop))) ( .alt Yac ( .step (oL 13 12) ( .step Yae ( .step Yaa ( .alt Yab ( .done) ( .stop))))) ( .stop)))) ( .stop)))) ( .stop))))) ( .alt (oL 20 19) ( .step Yag ( .alt (oL 13 12) ( .step Yae ( .alt (oN 17 (.callq zaf [(.t 16)])) ( .alt (oN 18 (.callq zQ [(.t 15),(.t 17)])) ( .alt Yac ( .step Yaa ( .alt Yad ( .alt Yab ( .done) ( .stop)) ( .stop))) ( .alt Yad ( .alt Yac ( .step Yaa ( .alt Yab ( .done) ( .stop))) ( .stop)) ( .stop))) ( .alt Yad ( .step (oN 18 (.callq zQ [(.t 15),(.t 17)])) ( .alt Yac ( .step Yaa ( .alt Yab ( .done) ( .stop))) ( .stop))) ( .stop))) ( .alt Yad ( .alt (oN 17 (.callq zaf [(.t 16)])) ( .step (oN 18 (.callq zQ [(.t 15),(.t 17)])) ( .alt Yac ( .step Yaa ( .alt Yab ( .done) ( .stop))) ( .stop))) ( .stop)) ( .stop)))) ( .alt (oN 17 (.callq zaf [(.t 16)])) ( .alt (oL 13 12) ( .step Yae ( .alt (oN 18 (.callq zQ [(.t 15),(.t 17)])) ( .alt Yac ( .step Yaa ( .alt Yad ( .alt Yab ( .done) ( .stop)) ( .stop))) ( .alt Yad ( .alt Yac ( .step Yaa ( .alt Yab ( .done) ( .stop))) ( .stop)) ( .stop))) ( .alt Yad ( .step (oN 18 (.callq zQ [(.t 15),(.t 17)])) ( .alt Yac ( .step Yaa ( .alt Yab ( .done) ( .stop))) ( .stop))) ( .stop)))) ( .alt (oN 18 (.callq zQ [(.t 15),(.t 17)])) ( .alt (oL 13 12) ( .step Yae ( .alt Yac ( .step Yaa ( .alt Yad ( .alt Yab ( .done) ( .stop)) ( .stop))) ( .alt Yad ( .alt Yac ( .step Yaa ( .alt Yab ( .done) ( .stop))) ( .stop)) ( .stop)))) ( .alt Yac ( .alt (oL 13 12) ( .step Yae ( .step Yaa ( .alt Yad ( .alt Yab ( .done) ( .stop)) ( .stop)))) ( .alt Yad ( .step (oL 13 12) ( .step Yae ( .step Yaa ( .alt Yab ( .done) ( .stop))))) ( .stop))) ( .alt Yad ( .alt (oL 13 12) ( .step Yae ( .alt Yac ( .step Yaa ( .alt Yab ( .done) ( .stop))) ( .stop))) ( .alt Yac ( .step (oL 13 12) ( .step Yae ( .step Yaa ( .alt Yab ( .done) ( .stop))))) ( .stop))) ( .stop)))) ( .alt Yad ( .step (oN 18 (.callq zQ [(.t 15),(.t 17)])) ( .alt (oL 13 12) ( .step Yae ( .alt Yac ( .step Yaa ( .alt Yab ( .done) ( .stop))) ( .stop))) ( .alt Yac ( .step (oL 13 12) ( .step Yae ( .step Yaa ( .alt Yab ( .done) ( .stop))))) ( .stop)))) ( .stop)))) ( .alt Yad ( .alt (oL 13 12) ( .step Yae ( .alt (oN 17 (.callq zaf [(.t 16)])) ( .step (oN 18 (.callq zQ [(.t 15),(.t 17)])) ( .alt Yac ( .step Yaa ( .alt Yab ( .done) ( .stop))) ( .stop))) ( .stop))) ( .alt (oN 17 (.callq zaf [(.t 16)])) ( .step (oN 18 (.callq zQ [(.t 15),(.t 17)])) ( .alt (oL 13 12) ( .step Yae ( .alt Yac ( .step Yaa ( .alt Yab ( .done) ( .stop))) ( .stop))) ( .alt Yac ( .step (oL 13 12) ( .step Yae ( .step Yaa ( .alt Yab ( .done) ( .stop))))) ( .stop)))) ( .stop))) ( .stop))))) ( .alt Yad ( .alt (oL 13 12) ( .step Yae ( .alt (oN 17 (.callq zaf [(.t 16)])) ( .step (oN 18 (.callq zQ [(.t 15),(.t 17)])) ( .alt (oL 20 19) ( .step Yag ( .alt Yac ( .step Yaa ( .alt Yab ( .done) ( .stop))) ( .stop))) ( .stop))) ( .alt (oL 20 19) ( .step Yag ( .alt (oN 17 (.callq zaf [(.t 16)])) ( .step (oN 18 (.callq zQ [(.t 15),(.t 17)])) ( .alt Yac ( .step Yaa ( .alt Yab ( .done) ( .stop))) ( .stop))) ( .stop))) ( .stop)))) ( .alt (oN 17 (.callq zaf [(.t 16)])) ( .step (oN 18 (.callq zQ [(.t 15),(.t 17)])) ( .alt (oL 13 12) ( .step Yae ( .alt (oL 20 19) ( .step Yag ( .alt Yac ( .step Yaa ( .alt Yab ( .done) ( .stop))) ( .stop))) ( .stop))) ( .alt (oL 20 19) ( .step Yag ( .alt (oL 13 12) ( .step Yae ( .alt Yac ( .step Yaa ( .alt Yab ( .done) ( .stop))) ( .stop))) ( .alt Yac ( .step (oL 13 12) ( .step Yae ( .step Yaa ( .alt Yab ( .done) ( .stop))))) ( .stop)))) ( .stop)))) ( .alt (oL 20 19) ( .step Yag ( .alt (oL 13 12) ( .step Yae ( .alt (oN 17 (.callq zaf [(.t 16)])) ( .step (oN 18 (.callq zQ [(.t 15),(.t 17)])) ( .alt Yac ( .step Yaa ( .alt Yab ( .done) ( .stop))) ( .stop))) ( .stop))) ( .alt (oN 17 (.callq zaf [(.t 16)])) ( .step (oN 18 (.callq zQ [(.t 15),(.t 17)])) ( .alt (oL 13 12) ( .step Yae ( .alt Yac ( .step Yaa ( .alt Yab ( .done) ( .stop))) ( .stop))) ( .alt Yac ( .step (oL 13 12) ( .step Yae ( .step Yaa ( .alt Yab ( .done) ( .stop))))) ( .stop)))) ( .stop)))) ( .stop)))) ( .stop))))))))) [1,2,12,13,14,15,16,17,18,19,20,21,22,23]) (zb0))
def zci:List ARet:=[.cell 8 true 3]
theorem zrc:zT Tryz.prog zgX (qRo [4])=some (zlc.strip,zci,78):=by kernel_rfl
def setE (v:Int) (e:Ex):St:=⟨1,v,0,0,0,0,[e],[]⟩
theorem zul (n:Int):zu Tryz.prog zaf [.int .u32 n] (·=.agg (encX (.mk 1 n 0 0 []))):=by
 refine fn_x zuF rfl ?_;unfold zoB;have hB:=hBig
 (repeat first|simp(disch:=try exact dis1) only[evD,Nat.reduceBEq,Nat.reduceAdd,Nat.reduceLeDiff,zn7]|with_reducible first|intro _|refine aJ ?_)
 refine⟨_,.agg _ _ [.int .i64 1,.int .u32 n,.int .i64 0,.int .i64 0,encL 5 encX []] rfl (zgq ?_).2,by rw[zbo]⟩;simp only[VwL];exact⟨.int _ _ _,.int _ _ _,.int _ _ _,.int _ _ _,.nil0 _ _ _,trivial⟩
theorem zz8 (n:Int):zu Tryz.prog zgQ [.int .i64 n] (·=.agg (encX (.mk 2 0 n 0 []))):=by
 refine fn_x zzh rfl ?_;unfold zrW;have hB:=hBig
 (repeat first|simp(disch:=try exact dis1) only[evD,Nat.reduceBEq,Nat.reduceAdd,Nat.reduceLeDiff,zrY]|with_reducible first|intro _|refine aJ ?_)
 refine⟨_,.agg _ _ [.int .i64 2,.int .u32 0,.int .i64 n,.int .i64 0,encL 5 encX []] rfl (zgq ?_).2,by rw[zbo]⟩;simp only[VwL];exact⟨.int _ _ _,.int _ _ _,.int _ _ _,.int _ _ _,.nil0 _ _ _,trivial⟩
theorem zzm (v:Int) (e:Ex):zu Tryz.prog zQ [.int .i64 v,.agg (encX e)] (·=.agg (setE v e).cells):=by
 refine fn_x zAJ rfl ?_;unfold zsd;have hB:=hBig;obtain⟨op,n,x,w,l⟩:=e;have he:=zbo op n x w l;rw[he]
 (repeat first|simp(disch:=try exact dis1) only[evD,Nat.reduceBEq,Nat.reduceAdd,Nat.reduceLeDiff,fldP,zac,zsP]|with_reducible first|intro _|refine aJ ?_)
 refine⟨_,.agg _ _ [.int .i64 1,.int .i64 v,.int .i64 0,.int .i64 0,.int .i64 0,.int .u32 0,encL 5 encX [.mk op n x w l],za []] rfl (zgq ?_).2,rfl⟩;simp only[VwL];refine⟨.int _ _ _,.int _ _ _,.int _ _ _,.int _ _ _,.int _ _ _,.int _ _ _,?_,.nil0 _ _ _,trivial⟩;exact zo8 (l:=[.mk op n x w l]) trivial (by rw[Wu,he];rfl) (by rw[hB];simp)
section
variable {H H2:AH} {σ:Nat→Nat→Option (Nat × Nat × Nat)} {D:Nat→Nat→Prop}
theorem zFc {A A2 B B2:List (List AV)} (h:RowV H H2 σ D A A2) (k:RowV H H2 σ D B B2):RowV H H2 σ D (A++B) (A2++B2):=by
 refine⟨by rw[Wg,Wg,h.1,k.1],fun i c hi=>?_⟩;have hl:=h.1;rw[List.getElem?_append] at hi ⊢;split at hi
 · rw[if_pos (by omega)];exact h.2 i c hi
 · rw[if_neg (by omega),←hl];exact k.2 _ c hi
def VwLL (H H2:AH) (σ:Nat→Nat→Option (Nat × Nat × Nat)) (D:Nat→Nat→Prop):List (List AV)→List (List AV)→Prop
 | [],[]=>True
 | c::cs,d::ds=>VwL H H2 σ D false c d∧VwLL H H2 σ D cs ds
 | _,_=>False
theorem zyk:∀ {A A2 B B2:List (List AV)},VwLL H H2 σ D A A2→VwLL H H2 σ D B B2→VwLL H H2 σ D (A++B) (A2++B2)
 | [],[],_,_,_,k=>k
 | [],_::_,_,_,h,_=>h.elim
 | _::_,[],_,_,h,_=>h.elim
 | _::_,_::_,_,_,h,k=>⟨h.1,zyk h.2 k⟩
theorem zxZ {α:Type} {f g:α→List AV} (h:∀a,VwL H H2 σ D false (f a) (g a)):∀l:List α,VwLL H H2 σ D (l.map f) (l.map g)
 | []=>trivial
 | a::l=>⟨h a,zxZ h l⟩
theorem zkz {c d:List AV} {cs ds:List (List AV)} (h:VwL H H2 σ D false c d) (k:VwLL H H2 σ D cs ds):VwLL H H2 σ D (c::cs) (d::ds):=⟨h,k⟩
theorem zq7:∀ {A:List (List AV)},zy A→VwLL H H2 σ D A A
 | [],_=>trivial
 | c::A,h=>⟨zcY (h c Wv),zq7 fun d hd=>h d (Ww _ hd)⟩
theorem zyK:∀ {A B:List (List AV)},VwLL H H2 σ D A B→A.length=B.length∧∀(i:Nat),VwL H H2 σ D false (A.getD i []) (B.getD i [])
 | [],[],_=>⟨rfl,fun i=>trivial⟩
 | [],_::_,h=>h.elim
 | _::_,[],h=>h.elim
 |
  c::A,d::B,h=>by
  obtain⟨h1,h2⟩:=zyK h.2;refine⟨by simp[h1],fun i=>?_⟩
  cases i with
  | zero=>exact h.1
  | succ i=>exact h2 i
theorem zyg {t:Bool}:∀ {l m:List AV},VwL H H2 σ D t l m→∀j,Vw H H2 σ D t (l.getD j .undef) (m.getD j .undef)
 | [],[],_,j=>.undef _ _
 | [],_::_,h,_=>h.elim
 | _::_,[],h,_=>h.elim
 |
  x::l,y::m,h,j=>by
  cases j with
  | zero=>exact h.1
  | succ j=>exact zyg h.2 j
theorem zGS {α:Type} {t:Bool} {r q g sz:Nat} {f:α→List AV} {l:List α} {els:List (List AV)} (hD:D r q) (hg:H.get r q=some (.row sz els g)) (hb:l.length≤big) (h:VwLL H H2 σ D els (l.map f)):Vw H H2 σ D t (.own r q g 0 l.length) (encL sz f l):=by
 obtain⟨h1,h2⟩:=zyK h;rw[List.length_map] at h1
 refine .frz _ _ _ _ _ _ _ _ _ hD hg hb (by omega) fun i j hi hj=>?_
 rw[Nat.zero_add];exact zyg (h2 i) j
end
theorem znH {H H2:AH} {σ:Nat→Nat→Option (Nat × Nat × Nat)} {D:Nat→Nat→Prop} {α:Type} {t:Bool} {r q g sz n:Nat} {f:α→List AV} {l:List α} {els:List (List AV)} (hn:n=l.length) (hD:D r q) (hg:H.get r q=some (.row sz els g)) (hb:l.length≤big) (h:VwLL H H2 σ D els (l.map f)):Vw H H2 σ D t (.own r q g 0 n) (encL sz f l):=by rw[hn];exact zGS hD hg hb h
def zzx:List Sct:=[⟨⟨#[100,97,116,97]⟩,8192,Wa 32 0,true,false⟩,⟨⟨#[114,111,100,97,116,97]⟩,12288,Wa 16 0,false,false⟩]
def zbZ (g:G) (v n:Int) (exit:List Int):Pg:=⟨[zlH v n g.addr exit,g],zzx,IntKind.u32.wrap (g.addr+1)⟩
def setC (v n:Int):List AV:=[.int .i64 1,.int .i64 v,.int .i64 0,.int .i64 0,.int .i64 0,.int .u32 0,encL 5 encX [.mk 1 n 0 0 []],za []]
def zAU (a:Int):List AV:=[.int .i64 5,.int .i64 0,.int .i64 0,.int .i64 0,.int .i64 0,.int .u32 a,.nilsl,.nilsl]
def outC (w:Int):List AV:=[.int .i64 4,.int .i64 0,.int .i64 0,.int .i64 0,.int .i64 0,.int .u32 0,encL 5 encX [.mk 2 0 w 0 []],.nilsl]
def haltC:List AV:=[.int .i64 10,.int .i64 0,.int .i64 0,.int .i64 0,.int .i64 0,.int .u32 0,.nilsl,.nilsl]
def zim (v n a:Int) (l:List Int):List (List AV):=setC v n::zAU a::l.map outC
def ztC:List AV:=[.nilsl,.nilsl,.int .u32 0]
theorem zBd {l:List Int} {i:Nat} (h:i < l.length):lowG (l.take (i+1))=if 0≤l[i]∧l[i] < 12 then lowG (l.take i)++[l[i]] else lowG (l.take i):=by
 unfold lowG;rw[Wh,Wi h,Wj,List.filter_append];split
 · rename_i hc;rw[List.filter_cons_of_pos (by simpa using hc)];rfl
 · rename_i hc;rw[List.filter_cons_of_neg (by simpa using hc),List.filter_nil,List.append_nil]
theorem zy2 {v n a w:Int} {l:List Int}:zim v n a (l++[w])=zim v n a l++[outC w]:=by unfold zim;simp
theorem zvm {v n a:Int} {l:List Int}:(zim v n a l).length=l.length+2:=by unfold zim;simp
theorem zAz {v n a:Int} {l:List Int}:zy (zim v n a l):=zm rfl (zm rfl (zj fun _=>rfl))
theorem zDB {H H2:AH} {σ:Nat→Nat→Option (Nat × Nat × Nat)} {D:Nat→Nat→Prop} (v n a:Int) (exit:List Int):VwLL H H2 σ D (zim v n a (lowG exit)++[haltC]) ((zjy v n a exit).map St.cells):=by
 have e:(zjy v n a exit).map St.cells=((zrq v n).cells::(zln a).cells::(lowG exit).map fun w=>(zjM w).cells)++[zjL.cells]:=by unfold zjy;rw[Wk,Wk,List.map_append,List.map_map];rfl
 rw[e];unfold zim;refine zyk ⟨zcY rfl,?_,zxZ (fun w=>?_) _⟩ ⟨?_,trivial⟩
 · unfold zAU St.cells zln;simp only[VwL];exact⟨.int _ _ _,.int _ _ _,.int _ _ _,.int _ _ _,.int _ _ _,.int _ _ _,.nil0 _ _ _,.nil0 _ _ _,trivial⟩
 · unfold outC St.cells zjM;simp only[VwL];exact⟨.int _ _ _,.int _ _ _,.int _ _ _,.int _ _ _,.int _ _ _,.int _ _ _,zN rfl,.nil0 _ _ _,trivial⟩
 · unfold haltC St.cells zjL;simp only[VwL];exact⟨.int _ _ _,.int _ _ _,.int _ _ _,.int _ _ _,.int _ _ _,.int _ _ _,.nil0 _ _ _,.nil0 _ _ _,trivial⟩
theorem Qbw {p:Prop}(h:p:=by(try simp only[evWB,Nat.reduceBEq,Nat.reduceAdd,Nat.reduceSub,Nat.reduceLeDiff,Nat.reduceLT,implies_true,ztC,List.map_nil,setC,zAU])<;>exact fin2):p:=h
set_option maxHeartbeats 1000000 in
theorem znc (g:G) (v n:Int) (exit:List Int) (hx:exit.length≤1000):zu Tryz.prog zgX [.agg g.cells,.int .i64 v,.int .u32 n,za exit] (·=.agg (zbZ g v n exit).cells):=by
 refine fn_x zrc rfl ?_;unfold zlc;have hB:=hBig;have hconst:=zul n;have hset:=zzm v (.mk 1 n 0 0 []);rw[zbo] at hconst hset;obtain⟨ga,bl⟩:=g;unfold G.cells;unfold St.cells setE at hset;simp only at hset ⊢
 have hbody:∀(gg:Nat) (L:List Int) (w:Int) (i:Nat),Ent 0 [(3,za exit),(4,encP 2 [.int .u32 ga,encL 2 Bl.cells bl]),(8,.ptr 0 0 0 0 0),(9,.ptr 2 0 0 0 0),(10,.int .i64 i)]
   [(0,.row 3 [ztC] 0),(1,.row 8 (zim v n ga L++[[.int .i64 4,.int .i64 0,.int .i64 0,.int .i64 0,.int .i64 0,.int .u32 0,.own 3 0 0 0 1,.nilsl]]) (gg+1)),(2,.row 2 [[.int .u32 (IntKind.u32.wrap (ga+1)),.own 1 0 (gg+1) 0 (L.length+2+1)]] 0),(3,.row 5 [[.int .i64 2,.int .u32 0,.int .i64 w,.int .i64 0,encL 5 encX []]] 0),(4,.row 8 [[.int .i64 4,.int .i64 0,.int .i64 0,.int .i64 0,.int .i64 0,.int .u32 0,.own 3 0 0 0 1,.nilsl]] 0)] 5
   [(3,za exit),(4,encP 2 [.int .u32 ga,encL 2 Bl.cells bl]),(8,.ptr 0 0 0 0 0),(9,.ptr 2 0 0 0 0),(10,.int .i64 i)]
   [(0,.row 3 [ztC] 0),(1,.row 8 (zim v n ga (L++[w])) (gg+1)),(2,.row 2 [[.int .u32 (IntKind.u32.wrap (ga+1)),.own 1 0 (gg+1) 0 (L.length+1+2)]] 0)] 3:=by
  intro gg L w i;refine Ent.vs (fun x=>if x < 3 then some x else none) (fun x=>3≤x) (Wd _) (fun r hr=>absurd hr (by omega)) ?_ ?_ ?_ ?_ ⟨zN rfl,zN rfl,.ptr _ _ _ _ _ _ _ _ _ (zcN (if_pos (by decide)) 0) rfl,.ptr _ _ _ _ _ _ _ _ _ (zcN (if_pos (by decide)) 0) rfl,.int _ _ _,trivial⟩
  ·
   intro x1 x2 y h1 h2;split at h1
   ·
    split at h2
    · cases h1;cases h2;rfl
    · cases h2
   · cases h1
  ·
   intro x y h1;split at h1
   · cases h1;omega
   · cases h1
  ·
   intro x y h1;split at h1
   · cases h1;omega
   · cases h1
  ·
   intro r o2 ho
   match r with
   | 0=>cases ho;exact⟨0,_,_,_,_,if_pos (by decide),rfl,rfl,.of_flat (zx rfl)⟩
   |
    1 =>
    cases ho;refine⟨1,_,_,_,_,if_pos (by decide),rfl,rfl,?_⟩;rw[zy2];refine zFc (.of_flat zAz) (zgg ?_ ziY);unfold outC;simp only[VwL];refine⟨.int _ _ _,.int _ _ _,.int _ _ _,.int _ _ _,.int _ _ _,.int _ _ _,?_,.nilsl _,trivial⟩;exact zo8 (l:=[.mk 2 0 w 0 []]) (r:=3) (q:=0) (Wm 3) (by rw[Wu,zbo];rfl) (by rw[hB];simp)
   |
    2 =>
    cases ho;refine⟨2,_,_,_,_,if_pos (by decide),rfl,rfl,zgg ?_ ziY⟩;simp only[VwL];refine⟨.int _ _ _,?_,trivial⟩;rw[show L.length+2+1=L.length+1+2 by omega];exact .own _ _ _ _ _ _ _ _ _ (zcN (if_pos (by decide)) 0) rfl
   | r+3=>cases (show (none:Option AObj)=some o2 from ho)
 have hloop:∀K H nx,Ent 0 K H nx [(3,za exit),(4,encP 2 [.int .u32 ga,encL 2 Bl.cells bl]),(8,.ptr 0 0 0 0 0),(9,.ptr 2 0 0 0 0),(10,.int .i64 0)] [(0,.row 3 [ztC] 0),(1,.row 8 (zim v n ga []) 0),(2,.row 2 [[.int .u32 (IntKind.u32.wrap (ga+1)),.own 1 0 0 0 2]] 0)] 3 →
   zky Tryz.prog 0 zeA (zby 0 (seqQ Tryz.prog 0 zeB (retK zci fun v1 H' _=>∃a,Frz H' v1 a∧a=.agg (zbZ ⟨ga,bl⟩ v n exit).cells))) K H nx:=by
  intro K H nx hent;refine zk (fun x:Nat × Nat=>([(3,za exit),(4,encP 2 [.int .u32 ga,encL 2 Bl.cells bl]),(8,.ptr 0 0 0 0 0),(9,.ptr 2 0 0 0 0),(10,.int .i64 x.1)],[(0,.row 3 [ztC] 0),(1,.row 8 (zim v n ga (lowG (exit.take x.1))) x.2),(2,.row 2 [[.int .u32 (IntKind.u32.wrap (ga+1)),.own 1 0 x.2 0 ((lowG (exit.take x.1)).length+2)]] 0)])) 3 (fun x=>x.1≤exit.length) (fun x=>exit.length - x.1) (0,0) (Wd _) hent ?_;rintro⟨i,gg⟩ hi wf;simp only at hi
  have hll:(lowG (exit.take i)).length≤1000:=by unfold lowG;have:=Wx (fun w=>decide (0≤w∧w < 12)) (exit.take i);rw[Wn] at this;omega
  have e1:(zim v n ga (lowG (exit.take i))).take ((lowG (exit.take i)).length+2)=zim v n ga (lowG (exit.take i)):=We (by rw[zvm];exact Wm _);have e2:(zim v n ga (lowG (exit.take i))).length=(lowG (exit.take i)).length+2:=zvm;unfold zeA
  by_cases hil:i < exit.length
  ·
   have hg:(exit.map fun n=>[AV.int .i64 n]).getD i []=[.int .i64 exit[i]]:=zq (d:=[]) hil;have hvar:=zz8 exit[i];rw[zbo] at hvar;have hsn:=zBd hil
   by_cases h0:0≤exit[i]
   ·
    by_cases h1:exit[i] < 12
    ·
     rw[if_pos ⟨h0,h1⟩] at hsn
     (repeat first|simp(disch:=try exact dis1) only[evD,Nat.reduceBEq,Nat.reduceAdd,Nat.reduceLeDiff,fldP,zac,dT,dF,hg,za,e1,e2]|with_reducible first|intro _|refine aJ ?_)
     (repeat' with_reducible apply Wf)
     all_goals try omega
     all_goals (refine zao (zd hvar rfl) ?_;(repeat first|simp(disch:=try exact dis1) only[evD,Nat.reduceBEq,Nat.reduceAdd,Nat.reduceLeDiff,fldP,zac,dT,dF,hg,e1,e2]|with_reducible first|intro _|refine aJ ?_);(repeat' with_reducible apply Wf))
     all_goals try omega
     all_goals try (first|decide | (rw[e2];done))
     all_goals refine⟨(i+1,gg+1),?_,?_,?_⟩
     all_goals first
      | (show i+1≤exit.length;omega)
      | (show exit.length - (i+1) < exit.length - i;omega)
      | skip
     all_goals simp only
     all_goals rw[hsn,Wg,List.length_singleton]
     all_goals exact hbody gg (lowG (exit.take i)) exit[i] (i+1)
    ·
     rw[if_neg (fun h=>h1 h.2)] at hsn
     (repeat first|simp(disch:=try exact dis1) only[evD,Nat.reduceBEq,Nat.reduceAdd,Nat.reduceLeDiff,fldP,zac,dT,dF,hg,za]|with_reducible first|intro _|refine aJ ?_)
     refine⟨(i+1,gg),?_,?_,?_⟩
     · show i+1≤exit.length;omega
     · show exit.length - (i+1) < exit.length - i;omega
     · simp only;rw[hsn];exact Ent.keep rfl fin5
   ·
    rw[if_neg (fun h=>h0 h.1)] at hsn
    (repeat first|simp(disch:=try exact dis1) only[evD,Nat.reduceBEq,Nat.reduceAdd,Nat.reduceLeDiff,fldP,zac,dT,dF,hg,za]|with_reducible first|intro _|refine aJ ?_)
    refine⟨(i+1,gg),?_,?_,?_⟩
    · show i+1≤exit.length;omega
    · show exit.length - (i+1) < exit.length - i;omega
    · simp only;rw[hsn];exact Ent.keep rfl fin5
  ·
   have hie:exit.take i=exit:=We (by omega);rw[hie] at e1 e2 hll ⊢
   (repeat first|simp(disch:=try exact dis1) only[evD,Nat.reduceBEq,Nat.reduceAdd,Nat.reduceLeDiff,fldP,zac,dT,dF,za]|with_reducible first|intro _|refine aJ ?_)
   unfold zeB
   (repeat first|simp(disch:=try exact dis1) only[evD,Nat.reduceBEq,Nat.reduceAdd,Nat.reduceLeDiff,fldP,zac,dT,dF,e1,e2,zci]|with_reducible first|intro _|refine aJ ?_)
   (repeat' with_reducible apply Wf)
   all_goals try omega
   all_goals intros
   all_goals (repeat' with_reducible apply Wf)
   all_goals try omega
   all_goals intros
   all_goals try (repeat first|simp(disch:=try exact dis1) only[evD,Nat.reduceBEq,Nat.reduceAdd,Nat.reduceLeDiff,fldP,zac,dT,dF,zci]|with_reducible first|intro _|refine aJ ?_)
   all_goals refine⟨_,.agg _ _ [encL 2 G.cells [zlH v n ga exit,⟨ga,bl⟩],encL 5 Sct.cells zzx,.int .u32 (IntKind.u32.wrap (ga+1))] rfl (zgq ?_).2,rfl⟩
   all_goals simp only[VwL]
   all_goals refine⟨znH rfl trivial rfl (by rw[hB];simp) ?_,znH rfl trivial rfl (by rw[hB];decide) ?_,.int _ _ _,trivial⟩
   all_goals first
    | refine zkz (d:=(zlH v n ga exit).cells) ?_ (zkz (zcY rfl) trivial)
    | refine zkz (d:=Sct.cells ⟨⟨#[100,97,116,97]⟩,8192,Wa 32 0,true,false⟩) ?_ (zkz (d:=Sct.cells ⟨⟨#[114,111,100,97,116,97]⟩,12288,Wa 16 0,false,false⟩) ?_ trivial)
   all_goals first|unfold G.cells zlH|unfold Sct.cells zrG
   all_goals simp only[VwL]
   all_goals first
    | refine⟨.int _ _ _,znH (l:=[(⟨IntKind.u32.wrap (ga+1),zjy v n ga exit⟩:Bl)]) rfl trivial rfl (by rw[hB];simp) (zkz (d:=[.int .u32 (IntKind.u32.wrap (ga+1)),encL 8 St.cells (zjy v n ga exit)]) ?_ trivial),trivial⟩
    | refine⟨.str _ _,.int _ _ _,znH (l:=Wa 32 (0:Int)) rfl trivial rfl (by rw[hB];decide) (zq7 (A:=(Wa 32 (0:Int)).map fun n=>[.int .u8 n]) (zj fun _=>rfl)),.bool _ _,.bool _ _,trivial⟩
    | refine⟨.str _ _,.int _ _ _,znH (l:=Wa 16 (0:Int)) rfl trivial rfl (by rw[hB];decide) (zq7 (A:=(Wa 16 (0:Int)).map fun n=>[.int .u8 n]) (zj fun _=>rfl)),.bool _ _,.bool _ _,trivial⟩
   all_goals simp only[VwL]
   all_goals refine⟨.int _ _ _,znH (by rw[zm3]) trivial rfl (by rw[zm3,hB];omega) (zDB v n ga exit),trivial⟩
 have hV1:wpX Tryz.prog 0 zb0 (retK zci fun v1 H' _=>∃a,Frz H' v1 a∧a=.agg (zbZ ⟨ga,bl⟩ v n exit).cells) [(3,za exit),(4,encP 2 [.int .u32 ga,encL 2 Bl.cells bl]),(8,.ptr 0 0 0 0 0),(9,.ptr 2 0 0 0 0)] [(0,.row 3 [ztC] 0),(1,.row 8 (zim v n ga []) 0),(2,.row 2 [[.int .u32 (IntKind.u32.wrap (ga+1)),.own 1 0 0 0 2]] 0)] 3:=by
  unfold zb0
  (refine Qa ?_;intros)
  refine hloop _ _ _ ?_;exact Ent.keep rfl fin5
 have hV2:wpX Tryz.prog 0 zb0 (retK zci fun v1 H' _=>∃a,Frz H' v1 a∧a=.agg (zbZ ⟨ga,bl⟩ v n exit).cells) [(3,za exit),(4,encP 2 [.int .u32 ga,encL 2 Bl.cells bl]),(8,.ptr 0 0 0 0 0),(9,.ptr 1 0 0 0 0)] [(0,.row 3 [ztC] 0),(1,.row 2 [[.int .u32 (IntKind.u32.wrap (ga+1)),.own 2 0 0 0 2]] 0),(2,.row 8 (zim v n ga []) 0)] 3:=by
  unfold zb0
  (refine Qa ?_;intros)
  refine hloop _ _ _ ?_;unfold zim;exact(Ent.tab [(0,0,0),(1,2,0),(2,1,0)] [] rfl Qbw Qbw)
 unfold zim setC zAU ztC at hV1 hV2;simp only[Wl] at hV1 hV2
 (refine Qt ?_;intros)
 (repeat' with_reducible apply Wf)
 all_goals (refine zao (zd hconst rfl) ?_;(refine Qt ?_;intros);(repeat' with_reducible apply Wf))
 all_goals try (refine zao (zd hset rfl) ?_;(repeat first|simp(disch:=try exact dis1) only[evD,Nat.reduceBEq,Nat.reduceAdd,Nat.reduceLeDiff,fldP,zac]|with_reducible first|intro _|refine aJ ?_);(repeat' with_reducible apply Wf))
 all_goals first|decide|exact hV1|exact hV2|trace_state
def exV (v:Int):Ex:=.mk 2 0 v 0 []
def exC (n:Int):Ex:=.mk 1 n 0 0 []
def zzR (v:Int) (e:Ex):St:=⟨1,v,0,0,0,0,[e],[]⟩
def exE1:G:=⟨0,[⟨0,[zzR 12 (exV 1),zzR 13 (exV 12),zzR 0 (exC 1),⟨9,0,0,0,0,0,[],[]⟩]⟩]⟩
def exE1d:G:=⟨0,[⟨0,[zzR 0 (exC 1),⟨9,0,0,0,0,0,[],[]⟩]⟩]⟩
def exE2:G:=⟨0,[⟨0,[zzR 12 (.mk 18 0 0 4 [exV 1]),⟨10,0,0,0,0,0,[],[]⟩]⟩]⟩
def exSt:St:=zzR 1 (.mk 3 0 0 0 [exV 1,.mk 18 0 0 4 [exV 2]])
theorem znn:SmallP exE1:=(zpe (exit:=[0,7]) (by decide)).1
theorem zsD:SmallP exE2:=(zpe (exit:=[]) (by decide)).1
theorem zBE:zAs exE1 [0,7]=.tup [.agg (G.cells exE1d),.int .i64 2,.int .i64 0]:=by kernel_rfl
theorem zCj:zAs exE2 []=.tup [.agg (G.cells exE2),.int .i64 0,.int .i64 0]:=by kernel_rfl
theorem zA5:AV.tup [znz (za2 [0,7] exE1.blocks),znz (outsL [0,7] exE1.blocks)]=.tup [znz [[1,7]],znz [[]]]:=by kernel_rfl
theorem zBp:za (zfm exSt)=za [1,2]:=by kernel_rfl
def zFT:List Memo:=[⟨zcF,[.agg exE1.cells,za [0,7]],.tup [.agg (G.cells exE1d),.int .i64 2,.int .i64 0]⟩,⟨zgC,[.agg exE1.cells,za [0,7]],.tup [znz [[1,7]],znz [[]]]⟩,
 ⟨zd8,[.agg exSt.cells],za [1,2]⟩,⟨zcF,[.agg exE2.cells,za []],.tup [.agg (G.cells exE2),.int .i64 0,.int .i64 0]⟩]
theorem zC9:∀e∈zFT,zu Tryz.prog e.f e.args (·=e.res):=by
 have h1:=zfj exE1 [0,7] _ (znn.good (by decide)) znn.few;have h2:=zoW exE1 [0,7] _ (znn.good (exit:=[0,7]) (by decide)).univ;have h3:=zji exSt (by decide);have h4:=zfj exE2 [] _ (zsD.good (by decide)) zsD.few;rw[zBE] at h1;rw[zA5] at h2;rw[zBp] at h3;rw[zCj] at h4;intro e he;unfold zFT at he;simp only[Wb,Wo,or_false] at he
 rcases he with rfl|rfl|rfl|rfl
 · exact h1
 · exact h2
 · exact h3
 · exact h4
def q25:FuncId→Nat→List Nat:=zHi [(zbL,([19,21,25,32,45,47,78,79,84,90,96,109,111,114],[3583],[])),
 (zpv,([],[67126323],[])),
 (zro,([],[33571891],[])),
 (zd7,([],[1031],[])),
 (zQ,([7],[27],[])),
 (zgQ,([],[5],[])),
 (zaf,([],[5],[])),
 (zCF,([10],[119],[])),
 (zz2,([7],[27],[])),
 (zin,([],[33571891],[])),
 (zoJ,([],[17768111],[])),
 (zgw,([],[5],[])),
 (ze7,([],[17596514574653],[])),
 (ze6,([],[10384593871817177683247510831234831],[])),
 (zpq,([],[5],[])),
 (zdg,([],[1073746119],[])),
 (znI,([],[16661],[]))]
theorem zgx:zu Tryz.prog zbL [] (·=.bool true):=zAe (qf:=q25) (zqa zl6 zC9) 3000 (by kernel_rfl)
def zyJ:AV:=slL 5 [[.str ⟨#[100,97,116,97]⟩,.int .u32 8192,slL 1 (Wa 32 [.int .u8 0]),.bool true,.bool false],[.str ⟨#[114,111,100,97,116,97]⟩,.int .u32 12288,slL 1 (Wa 16 [.int .u8 0]),.bool false,.bool false]]
def q05:FuncId→Nat→List Nat:=zHi [(zcU,([],[75557863725915431772797],[])),
 (zdW,([],[285],[])),
 (zBS,([],[18014950415155315],[])),
 (zmA,([],[4111],[])),
 (zzy,([],[15],[])),
 (zkM,([],[268436019],[])),
 (zy0,([],[70368744178237],[]))]
theorem zwI:zu Tryz.prog zcU [zyJ] (·=.int .i64 0):=zsO (qf:=q05) zl6 3000 (by kernel_rfl)
theorem zuV:zu Tryz.prog zdW [zyJ] (·=zyJ):=zsO (qf:=q05) zl6 3000 (by kernel_rfl)
theorem ztv (l:List Int) (n:Int) (hl:l.length≤1000000):zu Tryz.prog zkm [encL 1 cU l,.int .u32 n] (·=encL 1 cU (insU n l)):=by
 refine fn_x ztQ rfl ?_;unfold zmR;have hB:=hBig
 (refine Qr ?_;intros)
 refine zk (fun i:Nat=>([(0,encL 1 cU l),(1,.int .u32 n),(5,.int .i64 i)],[])) 0 (fun i=>i≤l.length∧∀j,(h:j < l.length)→j < i→l[j] < n) (fun i=>l.length - i) 0 ⟨Wd _,fun j _ h=>by omega⟩ (Ent.tab [] [] rfl Qba Qba) ?_;rintro i ⟨hi,hlt⟩ wf;unfold zi6;have hat:=zCO hlt
 by_cases hil:i < l.length
 ·
  have hgl:(l.map cU).getD i []=[.int .u32 l[i]]:=zq (f:=cU) (d:=[]) hil
  by_cases hx:l[i] < n
  ·
   (repeat first|simp(disch:=try exact dis1) only[evD,Nat.reduceBEq,Nat.reduceAdd,Nat.reduceLeDiff,dT,za,hgl]|with_reducible first|intro _|refine aJ ?_)
   refine⟨i+1,⟨by omega,fun j hj hji=>?_⟩,by omega,Ent.keep rfl fin5⟩
   by_cases hje:j=i
   · subst hje;exact hx
   · exact hlt j hj (by omega)
  ·
   rw[Wp hil,insU,if_neg hx] at hat
   (repeat first|simp(disch:=try exact dis1) only[evD,Nat.reduceBEq,Nat.reduceAdd,Nat.reduceLeDiff,dT,dF,za,hgl]|with_reducible first|intro _|refine aJ ?_)
   unfold zfd
   by_cases he:l[i]=n
   ·
    rw[if_pos he,←Wp hil,List.take_append_drop] at hat;rw[hat]
    (repeat first|simp(disch:=try exact dis1) only[evD,Nat.reduceBEq,Nat.reduceAdd,Nat.reduceLeDiff,dT,za,hgl,zfQ]|with_reducible first|intro _|refine aJ ?_)
    exact⟨_,zat rfl,rfl⟩
   ·
    rw[if_neg he,←Wp hil] at hat;have hll:=congrArg List.length hat;simp only[Wg,Wy,Wn,Wz] at hll;rw[hat]
    have e1:=fun H=>ziU (f:=cU) (sz:=1) (H:=H) hi (fun _=>rfl)
    have e2:=fun H=>ziQ (f:=cU) (sz:=1) (H:=H) hi (fun _=>rfl)
    have k1:(l.take i).length=i:=by rw[Wn];omega
    have k2:((l.take i).map cU).take i=(l.take i).map cU:=We (by rw[List.length_map];omega);have k3:(((l.take i).map cU)++[[AV.int .u32 n]]).take (i+1)=((l.take i).map cU)++[[AV.int .u32 n]]:=We (by simp;omega)
    have k4:(((l.take i).map cU)++[[AV.int .u32 n]]).length=i+1:=by simp;omega
    have t1:((i:Int) - 0).toNat=i:=by omega
    have t2:((l.length:Int) - (i:Int)).toNat=l.length - i:=by omega
    (repeat first|simp(disch:=try exact dis1) only[evD,Nat.reduceBEq,Nat.reduceAdd,Nat.reduceLeDiff,dT,dF,za,hgl,zgm,zgP,e1,e2,znB,znU,t1,t2,k1,k2,k3,k4,zfQ]|with_reducible first|intro _|refine aJ ?_)
    have er:(l.take i).map cU++[[AV.int .u32 n]]++(l.drop i).map cU=(l.take i++n::l.drop i).map cU:=by simp[cU]
    have el:i+1+(l.length - i)=(l.take i++n::l.drop i).length:=by rw[Wg,Wy,Wz,k1];omega
    rw[er,el];exact⟨_,vw_U trivial rfl (by rw[←el];omega),rfl⟩
 ·
  obtain rfl:i=l.length:=by omega
  rw[List.take_length,List.drop_length,insU] at hat
  (repeat first|simp(disch:=try exact dis1) only[evD,Nat.reduceBEq,Nat.reduceAdd,Nat.reduceLeDiff,dF,za]|with_reducible first|intro _|refine aJ ?_)
  unfold zfd;rw[hat]
  have e1:=fun H=>ziU (f:=cU) (sz:=1) (H:=H) hi (fun _=>rfl)
  have e2:=fun H=>ziQ (f:=cU) (sz:=1) (H:=H) hi (fun _=>rfl)
  have k3:((l.map cU)++[[AV.int .u32 n]]).take (l.length+1)=(l.map cU)++[[AV.int .u32 n]]:=We (by simp)
  have k4:((l.map cU)++[[AV.int .u32 n]]).length=l.length+1:=by simp
  have t1:((l.length:Int) - 0).toNat=l.length:=by omega
  have t2:((l.length:Int) - (l.length:Int)).toNat=l.length - l.length:=by omega
  (repeat first|simp(disch:=try exact dis1) only[evD,Nat.reduceBEq,Nat.reduceAdd,Nat.reduceLeDiff,dF,za,zgm,zgP,e1,e2,znB,znU,t1,t2,k3,k4,zfQ]|with_reducible first|intro _|refine aJ ?_)
  have er:l.map cU++[[AV.int .u32 n]]++(l.drop l.length).map cU=(l++[n]).map cU:=by simp[cU]
  have el:l.length+1+(l.length - l.length)=(l++[n]).length:=by simp
  rw[er,el];exact⟨_,vw_U trivial rfl (by rw[←el];omega),rfl⟩
theorem zGP {n:Int} {l:List Int}:insU n l≠[]:=fun h=>by have:n∈insU n l:=zo6.2 (.inl rfl);rw[h] at this;cases this
theorem zve (a:List Int):zu Tryz.prog zin [encL 1 cU a,encL 1 cU a] (·=.bool true):=by
 refine fn_x zuL rfl ?_;unfold zoD;have hB:=hBig
 (refine Qg ?_;intros)
 refine zk (fun i:Nat=>([(0,encL 1 cU a),(1,encL 1 cU a),(5,.int .i64 i)],[])) 0 (fun i=>i≤a.length) (fun i=>a.length - i) 0 (Wd _) (Ent.keep rfl fin5) ?_;rintro i hi wf;unfold zjH
 by_cases hil:i < a.length
 ·
  have hgl:(a.map cU).getD i []=[.int .u32 a[i]]:=zq (f:=cU) (d:=[]) hil
  (repeat first|simp(disch:=try exact dis1) only[evD,Nat.reduceBEq,Nat.reduceAdd,Nat.reduceLeDiff,dT,dF,hgl]|with_reducible first|intro _|refine aJ ?_)
  exact⟨i+1,by omega,by omega,Ent.keep rfl fin5⟩
 ·
  (refine Qg ?_;intros)
  unfold zke
  (repeat first|simp(disch:=try exact dis1) only[evD,Nat.reduceBEq,Nat.reduceAdd,Nat.reduceLeDiff,zn1]|with_reducible first|intro _|refine aJ ?_)
  exact⟨_,.bool _ _,rfl⟩
def zvo:List Int:=[0,1,2,3,4,5,6,7,8,9,10,11]
theorem zrr:zu Tryz.prog zi2 [] (·=za zvo):=by
 refine fn_x zrH rfl ?_;unfold zlo;have hB:=hBig
 (repeat first|simp(disch:=try exact dis1) only[evD,Nat.reduceBEq,Nat.reduceAdd,Nat.reduceLeDiff,zlB]|with_reducible first|intro _|refine aJ ?_)
 exact⟨_,zbD (l:=zvo) trivial rfl (by decide),rfl⟩
def ztN (bl:List Bl):Prop:=∀b∈bl,∀s∈b.stmts,s.op≠5
theorem zvF (g:G) (hb:g.blocks.length≤1000) (hs:∀b∈g.blocks,b.stmts.length≤100):zu Tryz.prog zlW [.agg g.cells] (fun v=>∃l:List Int,v=encL 1 cU l∧l.length≤1000000∧(l=[]→ztN g.blocks)):=by
 refine fn_x zvR rfl ?_;unfold zoE;have hB:=hBig;obtain⟨ad,bl⟩:=g;simp only at hb hs;unfold G.cells;simp only
 (refine Ql ?_;intros)
 refine zk (fun x:Nat × List Int=>([(1,encP 2 [.int .u32 ad,encL 2 Bl.cells bl]),(3,encL 1 cU x.2),(4,.int .i64 x.1)],[])) 0 (fun x=>x.1≤bl.length∧x.2.length≤100 * x.1∧(x.2=[]→ztN (bl.take x.1))) (fun x=>bl.length - x.1) (0,[]) ⟨Wd _,Wm _,fun _ b hb=>by simp at hb⟩ ?_ ?_
 · exact Ent.vs (fun _=>none) (fun _=>True) (Wd _) (fun r hr=>absurd hr (by omega)) (fun _ _ _ h=>by cases h) (fun _ _ h=>by cases h) (fun _ _ h=>by cases h) (fun r o h=>by cases h) ⟨zN rfl,vw_U (l:=[]) trivial rfl (by decide),.int _ _ _,trivial⟩
 rintro⟨i,l⟩ ⟨hi,hll,hnc⟩ wf;simp only at hi hll hnc;unfold zjX
 by_cases hil:i < bl.length
 ·
  have hg:(bl.map Bl.cells).getD i []=[.int .u32 bl[i].addr,encL 8 St.cells bl[i].stmts]:=zq hil;have hsl:=hs _ (List.getElem_mem hil)
  (refine Qs ?_;intros)
  refine zk (fun x:Nat × List Int=>([(1,encP 2 [.int .u32 ad,encL 2 Bl.cells bl]),(3,encL 1 cU x.2),(4,.int .i64 i),(5,.int .i64 x.1)],[])) 0 (fun x=>x.1≤bl[i].stmts.length∧x.2.length≤100 * i+x.1∧(x.2=[]→ztN (bl.take i)∧∀s∈bl[i].stmts.take x.1,s.op≠5)) (fun x=>bl[i].stmts.length - x.1) (0,l) ⟨Wd _,hll,fun h=>⟨hnc h,fun s hs=>by simp at hs⟩⟩ (Ent.keep rfl fin5) ?_;rintro⟨k,m⟩ ⟨hk,hml,hmc⟩ wf2;simp only at hk hml hmc;unfold zjY
  by_cases hkl:k < bl[i].stmts.length
  ·
   have hg2:(bl[i].stmts.map St.cells).getD k []=[.int .i64 bl[i].stmts[k].op,.int .i64 bl[i].stmts[k].var,.int .i64 bl[i].stmts[k].width,.int .i64 bl[i].stmts[k].next,.int .i64 bl[i].stmts[k].els,.int .u32 bl[i].stmts[k].tgt,encL 5 encX bl[i].stmts[k].e,za bl[i].stmts[k].cases]:=zq (f:=St.cells) (d:=[]) hkl
   by_cases h5:bl[i].stmts[k].op=5
   ·
    (repeat first|simp(disch:=try exact dis1) only[evD,Nat.reduceBEq,Nat.reduceAdd,Nat.reduceLeDiff,fldP,zac,dT,dF,hg,hg2]|with_reducible first|intro _|refine aJ ?_)
    refine ze (zd (ztv m _ (by omega)) rfl) ?_
    (refine Qa ?_;intros)
    refine⟨(k+1,insU bl[i].stmts[k].tgt m),⟨?_,?_,fun h=>absurd h zGP⟩,?_,(Ent.tab [] [] rfl Qat Qat)⟩
    · show k+1≤_;omega
    · have h7:(insU bl[i].stmts[k].tgt m).length≤m.length+1:=zsY;show (insU _ m).length≤100 * i+(k+1);omega
    · show _ - (k+1) < _ - k;omega
   ·
    (repeat first|simp(disch:=try exact dis1) only[evD,Nat.reduceBEq,Nat.reduceAdd,Nat.reduceLeDiff,fldP,zac,dT,dF,hg,hg2]|with_reducible first|intro _|refine aJ ?_)
    refine⟨(k+1,m),⟨?_,?_,fun h=>⟨(hmc h).1,fun s hs=>?_⟩⟩,?_,(Ent.tab [] [] rfl Qat Qat)⟩
    · show k+1≤_;omega
    · show m.length≤100 * i+(k+1);omega
    ·
     simp only at hs;rw[Wh,Wi hkl] at hs
     rcases Wq.1 hs with hs|hs
     · exact(hmc h).2 s hs
     · rw[Wj,Wc] at hs;rw[hs];exact h5
    · show _ - (k+1) < _ - k;omega
  ·
   (repeat first|simp(disch:=try exact dis1) only[evD,Nat.reduceBEq,Nat.reduceAdd,Nat.reduceLeDiff,fldP,dF,hg]|with_reducible first|intro _|refine aJ ?_)
   unfold zjA
   (refine Qa ?_;intros)
   refine⟨(i+1,m),⟨?_,?_,fun h=>?_⟩,?_,Ent.keep rfl fin5⟩
   · show i+1≤_;omega
   · show m.length≤100 * (i+1);omega
   ·
    intro b hb s hs;simp only at hb;rw[Wh,Wi hil] at hb
    rcases Wq.1 hb with hb|hb
    · exact(hmc h).1 b hb s hs
    · rw[Wj,Wc] at hb;subst hb;exact(hmc h).2 s (by rw[We (by omega)];exact hs)
   · show _ - (i+1) < _ - i;omega
 ·
  (refine Qh ?_;intros)
  unfold zjD
  (repeat first|simp(disch:=try exact dis1) only[evD,Nat.reduceBEq,Nat.reduceAdd,Nat.reduceLeDiff,zod]|with_reducible first|intro _|refine aJ ?_)
  refine⟨_,zat rfl,l,rfl,by omega,fun h=>?_⟩;have:=hnc h
  rwa [We (by omega)] at this
theorem Qas {p q:Prop}(k:q)(h:Im q p:=by(repeat first|simp(disch:=try exact dis1) only[evD,Nat.reduceBEq,Nat.reduceAdd,Nat.reduceLeDiff,fldP,zac,dT,dF,zhA] | ((with_reducible apply Im.i);intro _) | ((with_reducible apply Im.a);omega));exact Im.r):p:=h k
theorem zrD (p q:Pg) (inp:List Int) (kp:PgOk p inp) (kq:PgOk q inp) (h:∀e out e2 out2,RunQ p inp 200 e out→RunQ q inp 200 e2 out2→e≠15→e2=e∧out2=out) :
  zu Tryz.prog ziH [.agg p.cells,.agg q.cells,encL 1 cU inp] (·=.bool true):=by
 refine fn_x zra rfl ?_;unfold zlF;have hB:=hBig;have h1:=(zsA p inp 200 kp (by decide)).ent;have h2:=(zsA q inp 200 kq (by decide)).ent;unfold Pg.cells at h1 h2 ⊢
 (refine Qt ?_;intros)
 refine z6 [] 0 _ (h1) rfl rfl Qaw Qaw ?_;rintro v H' nx' ⟨⟨e,out,st,hq,rfl⟩,rfl,rfl⟩;unfold resV
 by_cases he:e=15
 ·
  (refine Qas ?_;intros)
  exact⟨_,.bool _ _,rfl⟩
 (refine Qj ?_;intros)
 refine z6 [] 0 _ (h2) rfl rfl Qaw Qaw ?_;rintro v H' nx' ⟨⟨e2,out2,st2,hq2,rfl⟩,rfl,rfl⟩;obtain⟨rfl,rfl⟩:=h _ _ _ _ hq hq2 he;unfold resV
 (refine Qj ?_;intros)
 refine ze (zd (zve out2) rfl) ?_
 (refine Qas ?_;intros)
 exact⟨_,.bool _ _,rfl⟩
theorem zDj:encL 5 Sct.cells zzx=zyJ:=rfl
theorem zDM:Mem.ok ⟨zzx,[]⟩:=by
 constructor
 ·
  intro s hs;unfold zzx at hs;simp only[Wb,Wo,or_false] at hs
  rcases hs with rfl|rfl
  · constructor<;>decide
  · constructor<;>decide
 · decide
 · decide
theorem zAh {l:List St} {s:St} (h:∀x∈l,zcm x=false) (hs:zcm s=true):endsOk (l++[s])=true:=by
 induction l with
 |
  nil =>
  show ((zcm s == ([]:List St).isEmpty)&&endsOk [])=true;rw[hs];rfl
 |
  cons a l ih =>
  show ((zcm a == (l++[s]).isEmpty)&&endsOk (l++[s]))=true;rw[h a Wv,ih fun x hx=>h x (Ww _ hx)]
  cases l<;>rfl
theorem zyh (exit:List Int):(lowG exit).length≤exit.length:=Wx _ _
theorem zCg {v n:Int} (hv:0≤v∧v < 65536):(zrq v n).check=0:=by
 have hc:zcs (.mk 1 n 0 0 [])=0:=by simp[zcs,znf,zjn,zdE,zch,zw]
 unfold St.check zjQ zrq zdn zdn;simp[hc,zR,zA,hv.1,hv.2]
theorem zzL (a:Int):(zln a).check=0:=by unfold St.check zjQ zln zdn;simp[zR,zA]
theorem zy3:zjL.check=0:=by unfold St.check zjQ zjL zdn;simp[zR,zA]
theorem zCU {w:Int} (hw:0≤w∧w < 12):(zjM w).check=0:=by
 have h2:w < 65536:=by omega
 have hc:zcs (.mk 2 0 w 0 [])=0:=by simp[zcs,znf,zjn,zdE,zch,zw,hw.1,h2]
 unfold St.check zjQ zjM zdn zdn;simp[hc,zR,zA]
theorem zyv {v n ga:Int} {exit:List Int} (hv:0≤v∧v < 65536) (he:exit.length≤100):OkG (zlH v n ga exit):=by
 have hl:=zyh exit
 have hm:∀s∈zjy v n ga exit,s=zrq v n∨s=zln ga∨(∃w∈lowG exit,s=zjM w)∨s=zjL:=fun s hs=>by
  unfold zjy at hs
  rcases Wb.1 hs with rfl|hs
  · exact .inl rfl
  rcases Wb.1 hs with rfl|hs
  · exact .inr (.inl rfl)
  rcases Wq.1 hs with hs|hs
  · obtain⟨w,h1,rfl⟩:=List.mem_map.1 hs;exact .inr (.inr (.inl ⟨w,h1,rfl⟩))
  · exact .inr (.inr (.inr (Wc.1 hs)))
 have hlast:zjy v n ga exit=(zrq v n::zln ga::(lowG exit).map zjM)++[zjL]:=rfl;refine⟨by show 1≤256;decide,?_,by unfold zlH;simp,fun b hb=>?_,fun b hb s hs=>?_⟩
 · show zJ [_]≤1024;unfold zJ;simp only[Wk,Wl,List.sum_cons,List.sum_nil];rw[zm3];omega
 ·
  rw[Wc.1 hb];simp only;refine⟨by unfold zjy;simp,?_,fun t ht=>?_⟩
  ·
   rw[hlast];refine zAh (fun x hx=>?_) rfl
   rcases Wb.1 hx with rfl|hx
   · rfl
   rcases Wb.1 hx with rfl|hx
   · rfl
   obtain⟨w,_,rfl⟩:=List.mem_map.1 hx;rfl
  · unfold zG at ht;rw[hlast,List.getLast?_concat] at ht;cases ht
 ·
  rw[Wc.1 hb] at hs
  rcases hm s hs with rfl|rfl | ⟨w,hw,rfl⟩|rfl
  · exact zCg hv
  · exact zzL _
  · exact zCU (zyf.1 hw).2
  · exact zy3
theorem zn6 {g:G} {v n:Int} {exit:List Int} (hv:0≤v∧v < 65536) (he:exit.length≤100) (hg:OkG g):zcQ (zbZ g v n exit)=0:=by
 have h0:=zwp.2 (zyv (n:=n) (ga:=g.addr) hv he);have h1:=zwp.2 hg
 have hne:IntKind.u32.wrap (g.addr+1)≠g.addr:=by have e:IntKind.u32.wrap (g.addr+1)=(g.addr+1) % 4294967296:=rfl;rw[e];omega
 unfold zcQ zbZ;rw[if_neg (by simp)]
 have f0:zba (zlH v n g.addr exit).addr [zlH v n g.addr exit,g] 0=0:=by unfold zba;rw[if_pos rfl]
 have f1:zba g.addr [zlH v n g.addr exit,g] 0=1:=by
  unfold zba zba;rw[if_neg,if_pos rfl]
  · rfl
  · exact hne
 have f2:zba (IntKind.u32.wrap (g.addr+1)) [zlH v n g.addr exit,g] 0=0:=f0;unfold zjW;simp only;rw[h0,if_neg (fun h=>h rfl),f0,if_neg (fun h=>h rfl)];unfold zjW;simp only;rw[h1,if_neg (fun h=>h rfl),f1,if_neg (fun h=>h rfl)];unfold zjW;simp only;rw[f2,if_neg (by decide)]
def zcc:ACode:=(.seq (.region [ (oA 33 2 4),(oM 34 9),(oN 35 (.call zcF [(.t 33),(.t 34)])),(oM 32 35),(oT 36 0 32),(oT 37 1 32),(oT 38 2 32),(oN 10 (.alloc [.int .u32 0,.nilsl])),(oS 2 10 36),(oM 11 37),(oM 12 38)] [30,32,33,34,35,36,37,38]) (.seq (.seq (.region [ (oA 39 2 4),(oN 40 (.call zcg [(.t 39)])),(oC 41 .neq 40 0)] [39,40]) (.cond (.t 41) (.seq (.region [ (oM 42 12),(oA 43 2 4),(oN 44 (.call zcg [(.t 43)])),(oB 45 .eql 42 44),(oM 46 45),(oG 47 46 true (.mov (.t 11))),(oG 48 46 true (.bin .eql (.t 47) (.c (.int .i64 0)))),(oN 49 (.pick (.t 46) (.t 48) (.c (.bool false)))),(oM 50 49),(oG 51 50 true (.call zbL [])),(oN 52 (.pick (.t 50) (.t 51) (.c (.bool false)))),(oM 8 52)] [3,4,9,10,11,12,41,42,43,44,45,46,47,48,49,50,51,52]) (.ret)) (.skip))) (.seq (.draw ( .step (oM 53 12) ( .step (oC 54 .eql 53 0) ( .step (oM 55 54) ( .step (oG 56 55 true (.load true 2 (.t 4))) ( .step (oG 57 55 true (.mov (.t 9))) ( .step (oG 58 55 true (.callq zgX [(.t 56),(.c (.int .i64 0)),(.c (.int .u32 0)),(.t 57)])) ( .step (oG 59 55 true (.load true 2 (.t 10))) ( .step (oG 60 55 true (.mov (.t 9))) ( .step (oG 61 55 true (.callq zgX [(.t 59),(.c (.int .i64 0)),(.c (.int .u32 0)),(.t 60)])) ( .step (oG 62 55 true (.mov (.t 3))) ( .step (oG 63 55 true (.callq ziH [(.t 58),(.t 61),(.t 62)])) ( .step (oN 64 (.pick (.t 55) (.t 63) (.c (.bool false)))) ( .step (oM 65 64) ( .step (oG 66 65 true (.callq zbL [])) ( .step (oN 67 (.pick (.t 65) (.t 66) (.c (.bool false)))) ( .step (oM 8 67) ( .done))))))))))))))))) [3,4,9,10,11,12,41,53,54,55,56,57,58,59,60,61,62,63,64,65,66,67]) (.ret))))
def zfv:ACode:=.seq (.region [ (oN 4 (.rbox (.t 0))),(oN 8 (.mov (.c (.bool false))))] [0,8]) (.seq (.seq (.region [ (oA 13 2 4),(oM 14 1),(oN 15 (.call zlL [(.t 13),(.t 14)])),(oN 16 (.un .not (.t 15))),(oM 17 16),(oG 18 17 false (.mov (.t 3))),(oG 19 17 false (.len (.t 18))),(oG 20 17 false (.bin .gtr (.t 19) (.c (.int .i64 20)))),(oN 21 (.pick (.t 17) (.c (.bool true)) (.t 20)))] [13,14,15,16,17,18,19,20]) (.cond (.t 21) (.seq (.region [ (oN 22 (.call zbL [])),(oM 8 22)] [1,2,3,4,21,22]) (.ret)) (.skip))) (.seq (.region [ (oM 23 1),(oM 9 23)] [1,8,21,23]) (.seq (.seq (.region [ (oM 24 2),(oM 25 24),(oG 26 25 false (.load true 2 (.t 4))),(oG 27 25 false (.call zlW [(.t 26)])),(oG 28 25 false (.len (.t 27))),(oG 29 25 false (.bin .gtr (.t 28) (.c (.int .i64 0)))),(oN 30 (.pick (.t 25) (.c (.bool true)) (.t 29)))] [2,24,25,26,27,28,29]) (.cond (.t 30) (.region [ (oN 31 (.call zi2 [])),(oM 9 31)] [30,31]) (.skip))) (zcc))))
def zaO:List ARet:=[.tmp 8]
theorem zk2:zT Tryz.prog zhc (qRo [4])=some (zfv.strip,zaO,68):=by kernel_rfl
inductive PartR:List St→List St→Prop
 | nil:PartR [] []
 | keep {s:St} {a b:List St}:PartR a b→PartR (s::a) (s::b)
 | drop {s:St} {a b:List St}:PartR a b→s.op=1→PartR a (s::b)
theorem zBb {g:G} (h:OkG g) (exit:List Int):RelD exit (znV exit g.blocks) g.blocks:=zuN _ h.ends
theorem zua {g:G} {v n:Int} {exit inp:List Int} (hv:0≤v∧v < 65536) (he:exit.length≤100) (hg:OkG g) (hf:fewB g) (hi:inp.length≤4096):PgOk (zbZ g v n exit) inp:=by
 have hs:(zbZ g v n exit).secs=zzx:=rfl;have hgs:(zbZ g v n exit).gs=[zlH v n g.addr exit,g]:=rfl;have hm:=zyv (n:=n) (ga:=g.addr) hv he
 have f0:zba (zbZ g v n exit).entry (zbZ g v n exit).gs 0=0:=by show zba (IntKind.u32.wrap (g.addr+1)) [zlH v n g.addr exit,g] 0=0;unfold zba;exact if_pos rfl
 refine⟨by rw[hs,zDj];exact zwI,by rw[hs,zDj];exact zuV,fun a ha=>?_,by rw[hgs];simp,hi,by rw[hs];exact zDM,fun _ a ha=>?_,fun _=>by rw[f0];exact Wr 0⟩
 ·
  rw[hgs] at ha
  rcases Wb.1 ha with rfl|ha
  · refine⟨by show 1≤300;decide,fun b hb=>?_⟩;rw[Wc.1 hb];simp only;rw[zm3];have:=zyh exit;omega
  · rw[Wc.1 ha];exact hf
 ·
  rw[hgs] at ha
  rcases Wb.1 ha with rfl|ha
  · exact hm
  · rw[Wc.1 ha];exact hg
theorem zBD {exit inp:List Int} {x y:List Bl} {v n n2 ga:Int} (h:SimP exit x y v n n2 ga) (hv:v < 65536) (he:exit.length≤100):∀e out e2 out2,RunQ (zbZ ⟨ga,y⟩ v n exit) inp 200 e out→RunQ (zbZ ⟨ga,x⟩ v n2 exit) inp 200 e2 out2→e≠15→e2=e∧out2=out:=by
 intro e out e2 out2 h1 h2 hne;have hx:=h.ok.rel h.rel;have c1:=zn6 (g:=⟨ga,y⟩) (n:=n) ⟨h.v0,hv⟩ he h.ok;have c2:=zn6 (g:=⟨ga,x⟩) (n:=n2) ⟨h.v0,hv⟩ he hx
 rcases h1 with ⟨h1,_⟩ | ⟨_,r1,h1,rfl,rfl⟩
 · exact absurd c1 h1
 rcases h2 with ⟨h2,_⟩ | ⟨_,r2,h2,rfl,rfl⟩
 · exact absurd c2 h2
 have f:∀(z:List Bl) (m:Int),zba (zbZ ⟨ga,z⟩ v m exit).entry (zbZ ⟨ga,z⟩ v m exit).gs 0=0:=fun z m=>by show zba (IntKind.u32.wrap (ga+1)) [zlH v m ga exit,⟨ga,z⟩] 0=0;unfold zba;exact if_pos rfl
 refine sim h (p:=zbZ ⟨ga,y⟩ v n exit) (q:=zbZ ⟨ga,x⟩ v n2 exit) ⟨rfl,rfl⟩ h1 hne (t:=zdb (zbZ ⟨ga,x⟩ v n2 exit)) ⟨⟨rfl,rfl,rfl,rfl,rfl,Wr _,by show 12≤zmr.length;decide,by show 12≤zmr.length;decide,rfl,fun i f g hf=>by simp[zdb] at hf⟩,fun _=>.inl ⟨0,by omega,⟨f y n,rfl,rfl,f x n2,rfl,rfl⟩,fun _ _=>rfl⟩⟩ h2
theorem Qp {p q:Prop}(k:q)(h:Im q p:=by(repeat first|simp(disch:=try exact dis1) only[evD,Nat.reduceBEq,Nat.reduceAdd,Nat.reduceLeDiff,fldP,zac,tab,List.getD_cons_zero,List.getD_cons_succ] | ((with_reducible apply Im.i);intro _) | ((with_reducible apply Im.a);omega));exact Im.r):p:=h k
theorem QD {p q:Prop}(k:q)(h:Im q p:=by(repeat first|simp(disch:=try exact dis1) only[evD,Nat.reduceBEq,Nat.reduceAdd,Nat.reduceLeDiff,zaO] | ((with_reducible apply Im.i);intro _) | ((with_reducible apply Im.a);omega));exact Im.r):p:=h k
theorem Qv {p q:Prop}(k:q)(h:Im q p:=by(repeat first|simp(disch:=try exact dis1) only[evD,Nat.reduceBEq,Nat.reduceAdd,Nat.reduceLeDiff,dT,dF,fldP,zac,tab,List.getD_cons_zero,List.getD_cons_succ] | ((with_reducible apply Im.i);intro _) | ((with_reducible apply Im.a);omega));exact Im.r):p:=h k
theorem zl1 (g:G) (E:List Int) (inp:List Int) (hp:SmallP g) (hE:E.length≤20) (hil:inp.length≤20) (hcl:(∀w:Int,0≤w→w < 12→w∈E)∨ztN g.blocks) {K:Kn} (hK:K=[(3,encL 1 cU inp),(4,encP 2 g.cells),(9,za E)]) :
  wpX Tryz.prog 0 zcc (retK zaO fun v H' _=>∃a,Frz H' v a∧a=.bool true) K [] 0:=by
 subst hK;unfold zcc;have hB:=hBig;have hex:=zgx;have hcg:=zhX g hp.few;have hd:=zfj g E _ (hp.good (by omega)) hp.few
 by_cases hc:zfs g=0
 case neg =>
  unfold zAs at hd;rw[if_neg hc] at hd;obtain⟨ad,bl⟩:=g;simp only[G.cells] at hcg hd ⊢;generalize hce:zfs ⟨ad,bl⟩=ce at hc hcg hd
  (refine Qp ?_;intros)
  refine ze (zd hd rfl) ?_
  (refine Qp ?_;intros)
  refine ze (zd hcg rfl) ?_
  (repeat first|simp(disch:=try exact dis1) only[evD,Nat.reduceBEq,Nat.reduceAdd,Nat.reduceLeDiff,dT,fldP,zac,tab,Ws,Wt]|with_reducible first|intro _|refine aJ ?_)
  refine ze (zd hcg rfl) ?_
  (refine QC ?_;intros)
  refine ze (zd hex rfl) ?_
  (refine QD ?_;intros)
  exact⟨_,.bool _ _,rfl⟩
 have hok:=zwp.1 hc;have hrel:=zBb hok E;have hp2:=hp.sub hrel.subB;have hok2:=hok.rel hrel;have ha1:=znc g 0 0 E (by omega);have ha2:=znc ⟨g.addr,znV E g.blocks⟩ 0 0 E (by omega)
 have hbh:=zrD (zbZ g 0 0 E) (zbZ ⟨g.addr,znV E g.blocks⟩ 0 0 E) inp (zua (by decide) (by omega) hok hp.few (by omega)) (zua (by decide) (by omega) hok2 hp2.few (by omega))
  (zBD (y:=g.blocks) ⟨hrel,hok,Wr 0,.inl rfl,hcl⟩ (by decide) (by omega))
 unfold zAs at hd;rw[if_pos hc] at hd;obtain⟨ad,bl⟩:=g;rw[hc] at hcg;unfold Pg.cells at ha1 ha2 hbh;simp only[G.cells] at hcg hd ha1 ha2 ⊢
 (refine Qp ?_;intros)
 refine ze (zd hd rfl) ?_
 (refine Qp ?_;intros)
 refine ze (zd hcg rfl) ?_
 (refine Qv ?_;intros)
 refine zao (zd ha1 rfl) ?_
 (refine Qv ?_;intros)
 refine zao (zd ha2 rfl) ?_
 (refine Qv ?_;intros)
 refine zao (zd hbh rfl) ?_
 (refine Qv ?_;intros)
 refine zao (zd hex rfl) ?_
 (refine QD ?_;intros)
 exact⟨_,.bool _ _,rfl⟩
theorem zFb:∀w:Int,0≤w→w < 12→w∈zvo:=fun w h0 h1=>by unfold zvo;simp only[Wb,Wo,or_false];omega
set_option maxHeartbeats 1000000 in
theorem L25_LivenessDead_ok (g:G) (more:List Int) (all:Bool) (inp:List Int):zu Tryz.prog zhc [.agg g.cells,za more,.bool all,encL 1 cU inp] (·=.bool true):=by
 refine fn_x zk2 rfl ?_;unfold zfv;have hB:=hBig;have hsm:=zub g more;have hex:=zgx;have hgl:=zrr
 cases hs:zu6 g more with
 |
  false =>
  rw[hs] at hsm;obtain⟨ad,bl⟩:=g;simp only[G.cells] at hsm ⊢
  (refine Qp ?_;intros)
  refine ze (zd hsm rfl) ?_
  (refine Qa ?_;intros)
  refine ze (zd hex rfl) ?_
  (refine QD ?_;intros)
  exact⟨_,.bool _ _,rfl⟩
 |
  true =>
  rw[hs] at hsm;obtain⟨hp,hel⟩:=zpe hs;have hk7:=zl1 g;have hcl:=(zvF g (by have:=hp.blocks;omega) (fun b hb=>by have:=hp.stmts b hb;omega)).ent
  by_cases hil:20 < inp.length
  ·
   obtain⟨ad,bl⟩:=g;simp only[G.cells] at hsm ⊢
   (refine Qp ?_;intros)
   refine ze (zd hsm rfl) ?_
   (refine QC ?_;intros)
   refine ze (zd hex rfl) ?_
   (refine QD ?_;intros)
   exact⟨_,.bool _ _,rfl⟩
  ·
   have hkg:=hk7 zvo inp hp (by decide) (by omega) (.inl zFb) rfl
   have hkm:=fun hn=>hk7 more inp hp hel (by omega) (.inr hn) rfl
   obtain⟨ad,bl⟩:=g;simp only[G.cells] at hsm hcl hkg hkm ⊢
   (refine Qp ?_;intros)
   refine ze (zd hsm rfl) ?_
   cases all with
   |
    true =>
    (refine Qj ?_;intros)
    refine ze (zd hgl rfl) ?_
    (refine Qa ?_;intros)
    exact hkg
   |
    false =>
    (refine Qv ?_;intros)
    refine z6 [] 0 _ (hcl) rfl rfl Qaw Qaw ?_;rintro v H' nx' ⟨⟨l,rfl,hll,hln⟩,rfl,rfl⟩
    by_cases hl0:l.length=0
    ·
     (refine Qn ?_;intros)
     exact hkm (hln (List.eq_nil_of_length_eq_zero hl0))
    ·
     (refine Qn ?_;intros)
     refine ze (zd hgl rfl) ?_
     (refine Qa ?_;intros)
     exact hkg
end Go.Ab
