/-
  Part 14 of the proof: how the calls of this program run, over values instead of memory, and what each function computes.
-/
import Derived.KernelRfl
import Derived.Test.YtdhlfajcofgpkaaGreatKm
set_option maxRecDepth 100000
set_option linter.unusedVariables false
set_option linter.unusedSimpArgs false
set_option linter.unnecessarySimpa false
set_option linter.unusedSectionVars false
open List renaming replicate→Wa,mem_cons→Wb,mem_singleton→Wc,take_of_length_le→We,length_append→Wg,getElem?_eq_getElem→Wi,take_add_one→Wj,map_cons→Wl,map_nil→Wm,length_take→Wo,drop_eq_getElem_cons→Wp,mem_append→Wq,getD_cons_zero→Wr,getD_cons_succ→Ws,map_singleton→Wt,mem_cons_self→Wu,mem_cons_of_mem→Wv,length_filter_le→Ww,not_mem_nil→Wx,length_cons→Wy,length_drop→Wz
open Nat renaming zero_le→Wd,le_refl→Wn
open And renaming intro→Wf
open Int renaming tmod→Wh
open Option renaming toList_some→Wk
namespace Go.Ab
open Go.RowKit Go.Proofs
def zew:ACode:=.seq (.seq (.region [ (oM 24 10),(oM 25 3),(oE 26 25),(oB 27 .lss 24 26)] [24,25,26]) (.cond (.t 27) (.skip) (.exit 0))) (.seq (.block 1 (.seq (.region [ (oM 30 3),(oM 31 10),(oI 32 1 30 31),(oL 33 32),(oC 34 .geq 33 0),(oM 35 34),(oG 36 35 true (.mov (.t 3))),(oG 37 35 true (.mov (.t 10))),(oG 38 35 true (.idx 1 (.t 36) (.t 37))),(oG 39 35 true (.load false 1 (.t 38))),(oG 40 35 true (.bin .lss (.t 39) (.c (.int .i64 12)))),(oN 41 (.pick (.t 35) (.t 40) (.c (.bool false))))] [27,30,31,32,33,34,35,36,37,38,39,40]) (.cond (.t 41) (.draw ( .step (oF 42 1 1 9) ( .step (oM 44 3) ( .step (oM 45 10) ( .alt (oL 43 42) ( .alt (oI 46 1 44 45) ( .alt (oL 47 46) ( .alt (oN 48 (.callq zgf [(.t 47)])) ( .alt Yaz ( .step YaA ( .alt Yax ( .alt Yay ( .step (oF 53 1 1 9) ( .alt (oS 1 53 52) ( .done) ( .stop))) ( .stop)) ( .stop))) ( .stop)) ( .stop)) ( .stop)) ( .stop)) ( .alt (oI 46 1 44 45) ( .alt (oL 43 42) ( .alt (oL 47 46) ( .alt (oN 48 (.callq zgf [(.t 47)])) ( .alt Yaz ( .step YaA ( .alt Yax ( .alt Yay ( .step (oF 53 1 1 9) ( .alt (oS 1 53 52) ( .done) ( .stop))) ( .stop)) ( .stop))) ( .stop)) ( .stop)) ( .stop)) ( .alt (oL 47 46) ( .alt (oL 43 42) ( .alt (oN 48 (.callq zgf [(.t 47)])) ( .alt Yaz ( .step YaA ( .alt Yax ( .alt Yay ( .step (oF 53 1 1 9) ( .alt (oS 1 53 52) ( .done) ( .stop))) ( .stop)) ( .stop))) ( .stop)) ( .stop)) ( .alt (oN 48 (.callq zgf [(.t 47)])) ( .alt (oL 43 42) ( .alt Yaz ( .step YaA ( .alt Yax ( .alt Yay ( .step (oF 53 1 1 9) ( .alt (oS 1 53 52) ( .done) ( .stop))) ( .stop)) ( .stop))) ( .stop)) ( .alt Yaz ( .step YaA ( .alt (oL 43 42) ( .alt Yax ( .alt Yay ( .step (oF 53 1 1 9) ( .alt (oS 1 53 52) ( .done) ( .stop))) ( .stop)) ( .stop)) ( .alt Yax ( .step (oL 43 42) ( .alt Yay ( .step (oF 53 1 1 9) ( .alt (oS 1 53 52) ( .done) ( .stop))) ( .stop))) ( .stop)))) ( .stop))) ( .stop))) ( .stop))) ( .stop)))))) [41,42,43,44,45,46,47,48,49,50,51,52,53]) (.skip)))) (.region [ (oM 28 10),(oC 29 .add 28 1),(oM 10 29)] [28,29,41]))
def zeF:ACode:=.seq (.region [ (oF 54 1 1 9),(oL 55 54),(oN 56 (.build [.int .i64 0,.int .i64 0,.int .i64 0,.int .i64 0,.int .i64 0,.int .u32 0,.nilsl,.nilsl] [(0,1,(.c (.int .i64 10)))])),(oN 57 (.buildSl 8 1 [.int .i64 0,.int .i64 0,.int .i64 0,.int .i64 0,.int .i64 0,.int .u32 0,.nilsl,.nilsl] [(0,(.t 56))])),(oN 58 (.append 8 96 (.t 55) (.t 57))),(oF 59 1 1 9),(oS 1 59 58)] [3,10,54,55,56,57,58,59]) (.seq (.draw ( .alt (oN 60 (.mksl 1 1 [.int .u8 0] (.c (.int .i64 32)) (.c (.int .i64 32)))) ( .step ⟨(some 61),.build [.str ⟨#[]⟩,.int .u32 0,.nilsl,.bool false,.bool false] [(0,1,(.c (.str ⟨#[100,97,116,97]⟩))),(1,1,(.c (.int .u32 8192))),(2,1,(.t 60)),(3,1,(.c (.bool true)))],none⟩ ( .alt (oN 62 (.mksl 1 1 [.int .u8 0] (.c (.int .i64 16)) (.c (.int .i64 16)))) ( .step ⟨(some 63),.build [.str ⟨#[]⟩,.int .u32 0,.nilsl,.bool false,.bool false] [(0,1,(.c (.str ⟨#[114,111,100,97,116,97]⟩))),(1,1,(.c (.int .u32 12288))),(2,1,(.t 62))],none⟩ ( .alt ⟨(some 64),.buildSl 5 2 [.str ⟨#[]⟩,.int .u32 0,.nilsl,.bool false,.bool false] [(0,(.t 61)),(1,(.t 63))],none⟩ ( .step (oM 11 64) ( .done)) ( .stop))) ( .stop))) ( .alt (oN 62 (.mksl 1 1 [.int .u8 0] (.c (.int .i64 16)) (.c (.int .i64 16)))) ( .step ⟨(some 63),.build [.str ⟨#[]⟩,.int .u32 0,.nilsl,.bool false,.bool false] [(0,1,(.c (.str ⟨#[114,111,100,97,116,97]⟩))),(1,1,(.c (.int .u32 12288))),(2,1,(.t 62))],none⟩ ( .alt (oN 60 (.mksl 1 1 [.int .u8 0] (.c (.int .i64 32)) (.c (.int .i64 32)))) ( .step ⟨(some 61),.build [.str ⟨#[]⟩,.int .u32 0,.nilsl,.bool false,.bool false] [(0,1,(.c (.str ⟨#[100,97,116,97]⟩))),(1,1,(.c (.int .u32 8192))),(2,1,(.t 60)),(3,1,(.c (.bool true)))],none⟩ ( .alt ⟨(some 64),.buildSl 5 2 [.str ⟨#[]⟩,.int .u32 0,.nilsl,.bool false,.bool false] [(0,(.t 61)),(1,(.t 63))],none⟩ ( .step (oM 11 64) ( .done)) ( .stop))) ( .stop))) ( .stop))) [60,61,62,63,64]) (.seq (.region [ (oF 65 0 1 4),(oL 66 65),(oN 67 (.bin .add (.t 66) (.c (.int .u32 1)))),(oA 68 2 9),(oN 69 (.buildSl 2 1 [.int .u32 0,.nilsl] [(0,(.t 68))])),(oN 70 (.build [.int .u32 0,.nilsl] [(0,1,(.t 67)),(1,1,(.t 69))])),(oA 71 2 4),(oN 72 (.buildSl 2 2 [.int .u32 0,.nilsl] [(0,(.t 70)),(1,(.t 71))])),(oM 73 11),(oF 74 0 1 4),(oL 75 74),(oN 76 (.bin .add (.t 75) (.c (.int .u32 1)))),(oN 77 (.build [.nilsl,.nilsl,.int .u32 0] [(0,1,(.t 72)),(1,1,(.t 73)),(2,1,(.t 76))])),(oS 3 8 77)] [4,9,11,65,66,67,68,69,70,71,72,73,74,75,76,77]) (.ret)))
def zbW:ACode:=(.seq (.seq (.region [ (oK 10 0)] []) (.block 0 (.loop zew))) (zeF))
def zla:ACode:=.seq (.region [ (oN 4 (.rbox (.t 0))),(oN 8 (.alloc [.nilsl,.nilsl,.int .u32 0]))] [0]) (.seq (.draw ( .step (oF 12 0 1 4) ( .step (oM 15 1) ( .step (oM 16 2) ( .step (oF 19 0 1 4) ( .alt (oL 13 12) ( .step Yae ( .alt (oN 17 (.callq zae [(.t 16)])) ( .alt (oN 18 (.callq zQ [(.t 15),(.t 17)])) ( .alt (oL 20 19) ( .step Yah ( .alt Yac ( .step Yaa ( .alt Yad ( .alt Yab ( .done) ( .stop)) ( .stop))) ( .alt Yad ( .alt Yac ( .step Yaa ( .alt Yab ( .done) ( .stop))) ( .stop)) ( .stop)))) ( .alt Yad ( .alt (oL 20 19) ( .step Yah ( .alt Yac ( .step Yaa ( .alt Yab ( .done) ( .stop))) ( .stop))) ( .stop)) ( .stop))) ( .alt (oL 20 19) ( .step Yah ( .alt (oN 18 (.callq zQ [(.t 15),(.t 17)])) ( .alt Yac ( .step Yaa ( .alt Yad ( .alt Yab ( .done) ( .stop)) ( .stop))) ( .alt Yad ( .alt Yac ( .step Yaa ( .alt Yab ( .done) ( .stop))) ( .stop)) ( .stop))) ( .alt Yad ( .step (oN 18 (.callq zQ [(.t 15),(.t 17)])) ( .alt Yac ( .step Yaa ( .alt Yab ( .done) ( .stop))) ( .stop))) ( .stop)))) ( .alt Yad ( .step (oN 18 (.callq zQ [(.t 15),(.t 17)])) ( .alt (oL 20 19) ( .step Yah ( .alt Yac ( .step Yaa ( .alt Yab ( .done) ( .stop))) ( .stop))) ( .stop))) ( .stop)))) ( .alt (oL 20 19) ( .step Yah ( .alt (oN 17 (.callq zae [(.t 16)])) ( .alt (oN 18 (.callq zQ [(.t 15),(.t 17)])) ( .alt Yac ( .step Yaa ( .alt Yad ( .alt Yab ( .done) ( .stop)) ( .stop))) ( .alt Yad ( .alt Yac ( .step Yaa ( .alt Yab ( .done) ( .stop))) ( .stop)) ( .stop))) ( .alt Yad ( .step (oN 18 (.callq zQ [(.t 15),(.t 17)])) ( .alt Yac ( .step Yaa ( .alt Yab ( .done) ( .stop))) ( .stop))) ( .stop))) ( .alt Yad ( .alt (oN 17 (.callq zae [(.t 16)])) ( .step (oN 18 (.callq zQ [(.t 15),(.t 17)])) ( .alt Yac ( .step Yaa ( .alt Yab ( .done) ( .stop))) ( .stop))) ( .stop)) ( .stop)))) ( .alt Yad ( .alt (oN 17 (.callq zae [(.t 16)])) ( .step (oN 18 (.callq zQ [(.t 15),(.t 17)])) ( .alt (oL 20 19) ( .step Yah ( .alt Yac ( .step Yaa ( .alt Yab ( .done) ( .stop))) ( .stop))) ( .stop))) ( .alt (oL 20 19) ( .step Yah ( .alt (oN 17 (.callq zae [(.t 16)])) ( .step (oN 18 (.callq zQ [(.t 15),(.t 17)])) ( .alt Yac ( .step Yaa ( .alt Yab ( .done) ( .stop))) ( .stop))) ( .stop))) ( .stop))) ( .stop))))) ( .alt (oN 17 (.callq zae [(.t 16)])) ( .alt (oL 13 12) ( .step Yae ( .alt (oN 18 (.callq zQ [(.t 15),(.t 17)])) ( .alt (oL 20 19) ( .step Yah ( .alt Yac ( .step Yaa ( .alt Yad ( .alt Yab ( .done) ( .stop)) ( .stop))) ( .alt Yad ( .alt Yac ( .step Yaa ( .alt Yab ( .done) ( .stop))) ( .stop)) ( .stop)))) ( .alt Yad ( .alt (oL 20 19) ( .step Yah ( .alt Yac ( .step Yaa ( .alt Yab ( .done) ( .stop))) ( .stop))) ( .stop)) ( .stop))) ( .alt (oL 20 19) ( .step Yah ( .alt (oN 18 (.callq zQ [(.t 15),(.t 17)])) ( .alt Yac ( .step Yaa ( .alt Yad ( .alt Yab ( .done) ( .stop)) ( .stop))) ( .alt Yad ( .alt Yac ( .step Yaa ( .alt Yab ( .done) ( .stop))) ( .stop)) ( .stop))) ( .alt Yad ( .step (oN 18 (.callq zQ [(.t 15),(.t 17)])) ( .alt Yac ( .step Yaa ( .alt Yab ( .done) ( .stop))) ( .stop))) ( .stop)))) ( .alt Yad ( .step (oN 18 (.callq zQ [(.t 15),(.t 17)])) ( .alt (oL 20 19) ( .step Yah ( .alt Yac ( .step Yaa ( .alt Yab ( .done) ( .stop))) ( .stop))) ( .stop))) ( .stop))))) ( .alt (oN 18 (.callq zQ [(.t 15),(.t 17)])) ( .alt (oL 13 12) ( .step Yae ( .alt (oL 20 19) ( .step Yah ( .alt Yac ( .step Yaa ( .alt Yad ( .alt Yab ( .done) ( .stop)) ( .stop))) ( .alt Yad ( .alt Yac ( .step Yaa ( .alt Yab ( .done) ( .stop))) ( .stop)) ( .stop)))) ( .alt Yad ( .alt (oL 20 19) ( .step Yah ( .alt Yac ( .step Yaa ( .alt Yab ( .done) ( .stop))) ( .stop))) ( .stop)) ( .stop)))) ( .alt (oL 20 19) ( .step Yah ( .alt (oL 13 12) ( .step Yae ( .alt Yac ( .step Yaa ( .alt Yad ( .alt Yab ( .done) ( .stop)) ( .stop))) ( .alt Yad ( .alt Yac ( .step Yaa ( .alt Yab ( .done) ( .stop))) ( .stop)) ( .stop)))) ( .alt Yac ( .alt (oL 13 12) ( .step Yae ( .step Yaa ( .alt Yad ( .alt Yab ( .done) ( .stop)) ( .stop)))) ( .alt Yad ( .step (oL 13 12) ( .step Yae ( .step Yaa ( .alt Yab ( .done) ( .stop))))) ( .stop))) ( .alt Yad ( .alt (oL 13 12) ( .step Yae ( .alt Yac ( .step Yaa ( .alt Yab ( .done) ( .stop))) ( .stop))) ( .alt Yac ( .step (oL 13 12) ( .step Yae ( .step Yaa ( .alt Yab ( .done) ( .stop))))) ( .stop))) ( .stop))))) ( .alt Yad ( .alt (oL 13 12) ( .step Yae ( .alt (oL 20 19) ( .step Yah ( .alt Yac ( .step Yaa ( .alt Yab ( .done) ( .stop))) ( .stop))) ( .stop))) ( .alt (oL 20 19) ( .step Yah ( .alt (oL 13 12) ( .step Yae ( .alt Yac ( .step Yaa ( .alt Yab ( .done) ( .stop))) ( .stop))) ( .alt Yac ( .step (oL 13 12) ( .step Yae ( .step Yaa ( .alt Yab ( .done) ( .stop))))) ( .stop)))) ( .stop))) ( .stop)))) ( .alt (oL 20 19) ( .step Yah ( .alt (oL 13 12) ( .step Yae ( .alt (oN 18 (.callq zQ [(.t 15),(.t 17)])) ( .alt Yac ( .step Yaa ( .alt Yad ( .alt Yab ( .done) ( .stop)) ( .stop))) ( .alt Yad ( .alt Yac ( .step Yaa ( .alt Yab ( .done) ( .stop))) ( .stop)) ( .stop))) ( .alt Yad ( .step (oN 18 (.callq zQ [(.t 15),(.t 17)])) ( .alt Yac ( .step Yaa ( .alt Yab ( .done) ( .stop))) ( .stop))) ( .stop)))) ( .alt (oN 18 (.callq zQ [(.t 15),(.t 17)])) ( .alt (oL 13 12) ( .step Yae ( .alt Yac ( .step Yaa ( .alt Yad ( .alt Yab ( .done) ( .stop)) ( .stop))) ( .alt Yad ( .alt Yac ( .step Yaa ( .alt Yab ( .done) ( .stop))) ( .stop)) ( .stop)))) ( .alt Yac ( .alt (oL 13 12) ( .step Yae ( .step Yaa ( .alt Yad ( .alt Yab ( .done) ( .stop)) ( .stop)))) ( .alt Yad ( .step (oL 13 12) ( .step Yae ( .step Yaa ( .alt Yab ( .done) ( .stop))))) ( .stop))) ( .alt Yad ( .alt (oL 13 12) ( .step Yae ( .alt Yac ( .step Yaa ( .alt Yab ( .done) ( .stop))) ( .stop))) ( .alt Yac ( .step (oL 13 12) ( .step Yae ( .step Yaa ( .alt Yab ( .done) ( .stop))))) ( .stop))) ( .stop)))) ( .alt Yad ( .step (oN 18 (.callq zQ [(.t 15),(.t 17)])) ( .alt (oL 13 12) ( .step Yae ( .alt Yac ( .step Yaa ( .alt Yab ( .done) ( .stop))) ( .stop))) ( .alt Yac ( .step (oL 13 12) ( .step Yae ( .step Yaa ( .alt Yab ( .done) ( .stop))))) ( .stop)))) ( .stop))))) ( .alt Yad ( .step (oN 18 (.callq zQ [(.t 15),(.t 17)])) ( .alt (oL 13 12) ( .step Yae ( .alt (oL 20 19) ( .step Yah ( .alt Yac ( .step Yaa ( .alt Yab ( .done) ( .stop))) ( .stop))) ( .stop))) ( .alt (oL 20 19) ( .step Yah ( .alt (oL 13 12) ( .step Yae ( .alt Yac ( .step Yaa ( .alt Yab ( .done) ( .stop))) ( .stop))) ( .alt Yac ( .step (oL 13 12) ( .step Yae ( .step Yaa ( .alt Yab ( .done) ( .stop))))) ( .stop)))) ( .stop)))) ( .stop))))) ( .alt (oL 20 19) ( .step Yah ( .alt (oL 13 12) ( .step Yae ( .alt (oN 17 (.callq zae [(.t 16)])) ( .alt (oN 18 (.callq zQ [(.t 15),(.t 17)])) ( .alt Yac ( .step Yaa ( .alt Yad ( .alt Yab ( .done) ( .stop)) ( .stop))) ( .alt Yad ( .alt Yac ( .step Yaa ( .alt Yab ( .done) ( .stop))) ( .stop)) ( .stop))) ( .alt Yad ( .step (oN 18 (.callq zQ [(.t 15),(.t 17)])) ( .alt Yac ( .step Yaa ( .alt Yab ( .done) ( .stop))) ( .stop))) ( .stop))) ( .alt Yad ( .alt (oN 17 (.callq zae [(.t 16)])) ( .step (oN 18 (.callq zQ [(.t 15),(.t 17)])) ( .alt Yac ( .step Yaa ( .alt Yab ( .done) ( .stop))) ( .stop))) ( .stop)) ( .stop)))) ( .alt (oN 17 (.callq zae [(.t 16)])) ( .alt (oL 13 12) ( .step Yae ( .alt (oN 18 (.callq zQ [(.t 15),(.t 17)])) ( .alt Yac ( .step Yaa ( .alt Yad ( .alt Yab ( .done) ( .stop)) ( .stop))) ( .alt Yad ( .alt Yac ( .step Yaa ( .alt Yab ( .done) ( .stop))) ( .stop)) ( .stop))) ( .alt Yad ( .step (oN 18 (.callq zQ [(.t 15),(.t 17)])) ( .alt Yac ( .step Yaa ( .alt Yab ( .done) ( .stop))) ( .stop))) ( .stop)))) ( .alt (oN 18 (.callq zQ [(.t 15),(.t 17)])) ( .alt (oL 13 12) ( .step Yae ( .alt Yac ( .step Yaa ( .alt Yad ( .alt Yab ( .done) ( .stop)) ( .stop))) ( .alt Yad ( .alt Yac ( .step Yaa ( .alt Yab ( .done) ( .stop))) ( .stop)) ( .stop)))) ( .alt Yac ( .alt (oL 13 12) ( .step Yae ( .step Yaa ( .alt Yad ( .alt Yab ( .done) ( .stop)) ( .stop)))) ( .alt Yad ( .step (oL 13 12) ( .step Yae ( .step Yaa ( .alt Yab ( .done) ( .stop))))) ( .stop))) ( .alt Yad ( .alt (oL 13 12) ( .step Yae ( .alt Yac ( .step Yaa ( .alt Yab ( .done) ( .stop))) ( .stop))) ( .alt Yac ( .step (oL 13 12) ( .step Yae ( .step Yaa ( .alt Yab ( .done) ( .stop))))) ( .stop))) ( .stop)))) ( .alt Yad ( .step (oN 18 (.callq zQ [(.t 15),(.t 17)])) ( .alt (oL 13 12) ( .step Yae ( .alt Yac ( .step Yaa ( .alt Yab ( .done) ( .stop))) ( .stop))) ( .alt Yac ( .step (oL 13 12) ( .step Yae ( .step Yaa ( .alt Yab ( .done) ( .stop))))) ( .stop)))) ( .stop)))) ( .alt Yad ( .alt (oL 13 12) ( .step Yae ( .alt (oN 17 (.callq zae [(.t 16)])) ( .step (oN 18 (.callq zQ [(.t 15),(.t 17)])) ( .alt Yac ( .step Yaa ( .alt Yab ( .done) ( .stop))) ( .stop))) ( .stop))) ( .alt (oN 17 (.callq zae [(.t 16)])) ( .step (oN 18 (.callq zQ [(.t 15),(.t 17)])) ( .alt (oL 13 12) ( .step Yae ( .alt Yac ( .step Yaa ( .alt Yab ( .done) ( .stop))) ( .stop))) ( .alt Yac ( .step (oL 13 12) ( .step Yae ( .step Yaa ( .alt Yab ( .done) ( .stop))))) ( .stop)))) ( .stop))) ( .stop))))) ( .alt Yad ( .alt (oL 13 12) ( .step Yae ( .alt (oN 17 (.callq zae [(.t 16)])) ( .step (oN 18 (.callq zQ [(.t 15),(.t 17)])) ( .alt (oL 20 19) ( .step Yah ( .alt Yac ( .step Yaa ( .alt Yab ( .done) ( .stop))) ( .stop))) ( .stop))) ( .alt (oL 20 19) ( .step Yah ( .alt (oN 17 (.callq zae [(.t 16)])) ( .step (oN 18 (.callq zQ [(.t 15),(.t 17)])) ( .alt Yac ( .step Yaa ( .alt Yab ( .done) ( .stop))) ( .stop))) ( .stop))) ( .stop)))) ( .alt (oN 17 (.callq zae [(.t 16)])) ( .step (oN 18 (.callq zQ [(.t 15),(.t 17)])) ( .alt (oL 13 12) ( .step Yae ( .alt (oL 20 19) ( .step Yah ( .alt Yac ( .step Yaa ( .alt Yab ( .done) ( .stop))) ( .stop))) ( .stop))) ( .alt (oL 20 19) ( .step Yah ( .alt (oL 13 12) ( .step Yae ( .alt Yac ( .step Yaa ( .alt Yab ( .done) ( .stop))) ( .stop))) ( .alt Yac ( .step (oL 13 12) ( .step Yae ( .step Yaa ( .alt Yab ( .done) ( .stop))))) ( .stop)))) ( .stop)))) ( .alt (oL 20 19) ( .step Yah ( .alt (oL 13 12) ( .step Yae ( .alt (oN 17 (.callq zae [(.t 16)])) ( .step (oN 18 (.callq zQ [(.t 15),(.t 17)])) ( .alt Yac ( .step Yaa ( .alt Yab ( .done) ( .stop))) ( .stop))) ( .stop))) ( .alt (oN 17 (.callq zae [(.t 16)])) ( .step (oN 18 (.callq zQ [(.t 15),(.t 17)])) ( .alt (oL 13 12) ( .step Yae ( .alt Yac ( .step Yaa ( .alt Yab ( .done) ( .stop))) ( .stop))) ( .alt Yac ( .step (oL 13 12) ( .step Yae ( .step Yaa ( .alt Yab ( .done) ( .stop))))) ( .stop)))) ( .stop)))) ( .stop)))) ( .stop))))))))) [1,2,12,13,14,15,16,17,18,19,20,21,22,23]) (zbW))
def zcd:List ARet:=[.cell 8 true 3]
theorem zra:zT Tryz.prog zg9 (qRo [4])=some (zla.strip,zcd,78):=by kernel_rfl
def setE (v:Int) (e:Ex):St:=⟨1,v,0,0,0,0,[e],[]⟩
theorem zvn (n:Int):zu Tryz.prog zae [.int .u32 n] (·=.agg (encX (.mk 1 n 0 0 []))):=by
 refine fn_x zvI rfl ?_;unfold zos;have hB:=hBig
 (repeat first|simp(disch:=try exact dis1) only[evD,Nat.reduceBEq,Nat.reduceAdd,Nat.reduceLeDiff,zoo]|with_reducible first|intro _|refine aJ ?_)
 refine⟨_,.agg _ _ [.int .i64 1,.int .u32 n,.int .i64 0,.int .i64 0,encL 5 encX []] rfl (zgI ?_).2,by rw[zbl]⟩;simp only[VwL];exact⟨.int _ _ _,.int _ _ _,.int _ _ _,.int _ _ _,.nil0 _ _ _,trivial⟩
theorem zyK (n:Int):zu Tryz.prog zgf [.int .i64 n] (·=.agg (encX (.mk 2 0 n 0 []))):=by
 refine fn_x zy5 rfl ?_;unfold zrO;have hB:=hBig
 (repeat first|simp(disch:=try exact dis1) only[evD,Nat.reduceBEq,Nat.reduceAdd,Nat.reduceLeDiff,zst]|with_reducible first|intro _|refine aJ ?_)
 refine⟨_,.agg _ _ [.int .i64 2,.int .u32 0,.int .i64 n,.int .i64 0,encL 5 encX []] rfl (zgI ?_).2,by rw[zbl]⟩;simp only[VwL];exact⟨.int _ _ _,.int _ _ _,.int _ _ _,.int _ _ _,.nil0 _ _ _,trivial⟩
theorem zy2 (v:Int) (e:Ex):zu Tryz.prog zQ [.int .i64 v,.agg (encX e)] (·=.agg (setE v e).cells):=by
 refine fn_x zzr rfl ?_;unfold zru;have hB:=hBig;obtain⟨op,n,x,w,l⟩:=e;have he:=zbl op n x w l;rw[he]
 (repeat first|simp(disch:=try exact dis1) only[evD,Nat.reduceBEq,Nat.reduceAdd,Nat.reduceLeDiff,fldP,zad,zsv]|with_reducible first|intro _|refine aJ ?_)
 refine⟨_,.agg _ _ [.int .i64 1,.int .i64 v,.int .i64 0,.int .i64 0,.int .i64 0,.int .u32 0,encL 5 encX [.mk op n x w l],za []] rfl (zgI ?_).2,rfl⟩;simp only[VwL];refine⟨.int _ _ _,.int _ _ _,.int _ _ _,.int _ _ _,.int _ _ _,.int _ _ _,?_,.nil0 _ _ _,trivial⟩;exact zoS (l:=[.mk op n x w l]) trivial (by rw[Wt,he];rfl) (by rw[hB];simp)
section
variable {H H2:AH} {σ:Nat→Nat→Option (Nat × Nat × Nat)} {D:Nat→Nat→Prop}
theorem zD2 {A A2 B B2:List (List AV)} (h:RowV H H2 σ D A A2) (k:RowV H H2 σ D B B2):RowV H H2 σ D (A++B) (A2++B2):=by
 refine⟨by rw[Wg,Wg,h.1,k.1],fun i c hi=>?_⟩;have hl:=h.1;rw[List.getElem?_append] at hi ⊢;split at hi
 · rw[if_pos (by omega)];exact h.2 i c hi
 · rw[if_neg (by omega),←hl];exact k.2 _ c hi
def VwLL (H H2:AH) (σ:Nat→Nat→Option (Nat × Nat × Nat)) (D:Nat→Nat→Prop):List (List AV)→List (List AV)→Prop
 | [],[]=>True
 | c::cs,d::ds=>VwL H H2 σ D false c d∧VwLL H H2 σ D cs ds
 | _,_=>False
theorem zyz:∀ {A A2 B B2:List (List AV)},VwLL H H2 σ D A A2→VwLL H H2 σ D B B2→VwLL H H2 σ D (A++B) (A2++B2)
 | [],[],_,_,_,k=>k
 | [],_::_,_,_,h,_=>h.elim
 | _::_,[],_,_,h,_=>h.elim
 | _::_,_::_,_,_,h,k=>⟨h.1,zyz h.2 k⟩
theorem zxY {α:Type} {f g:α→List AV} (h:∀a,VwL H H2 σ D false (f a) (g a)):∀l:List α,VwLL H H2 σ D (l.map f) (l.map g)
 | []=>trivial
 | a::l=>⟨h a,zxY h l⟩
theorem zj6 {c d:List AV} {cs ds:List (List AV)} (h:VwL H H2 σ D false c d) (k:VwLL H H2 σ D cs ds):VwLL H H2 σ D (c::cs) (d::ds):=⟨h,k⟩
theorem zqL:∀ {A:List (List AV)},zy A→VwLL H H2 σ D A A
 | [],_=>trivial
 | c::A,h=>⟨zcU (h c Wu),zqL fun d hd=>h d (Wv _ hd)⟩
theorem zyd:∀ {A B:List (List AV)},VwLL H H2 σ D A B→A.length=B.length∧∀(i:Nat),VwL H H2 σ D false (A.getD i []) (B.getD i [])
 | [],[],_=>⟨rfl,fun i=>trivial⟩
 | [],_::_,h=>h.elim
 | _::_,[],h=>h.elim
 |
  c::A,d::B,h=>by
  obtain⟨h1,h2⟩:=zyd h.2;refine⟨by simp[h1],fun i=>?_⟩
  cases i with
  | zero=>exact h.1
  | succ i=>exact h2 i
theorem zyg {t:Bool}:∀ {l m:List AV},VwL H H2 σ D t l m→∀j,Vw H H2 σ D t (l.getD j .undef) (m.getD j .undef)
 | [],[],_,j=>.undef _ _
 | [],_::_,h,_=>h.elim
 | _::_,[],h,_=>h.elim
 |
  x::l,y::m,h,j=>by
  cases j with
  | zero=>exact h.1
  | succ j=>exact zyg h.2 j
theorem zGY {α:Type} {t:Bool} {r q g sz:Nat} {f:α→List AV} {l:List α} {els:List (List AV)} (hD:D r q) (hg:H.get r q=some (.row sz els g)) (hb:l.length≤big) (h:VwLL H H2 σ D els (l.map f)):Vw H H2 σ D t (.own r q g 0 l.length) (encL sz f l):=by
 obtain⟨h1,h2⟩:=zyd h;rw[List.length_map] at h1
 refine .frz _ _ _ _ _ _ _ _ _ hD hg hb (by omega) fun i j hi hj=>?_
 rw[Nat.zero_add];exact zyg (h2 i) j
end
theorem znw {H H2:AH} {σ:Nat→Nat→Option (Nat × Nat × Nat)} {D:Nat→Nat→Prop} {α:Type} {t:Bool} {r q g sz n:Nat} {f:α→List AV} {l:List α} {els:List (List AV)} (hn:n=l.length) (hD:D r q) (hg:H.get r q=some (.row sz els g)) (hb:l.length≤big) (h:VwLL H H2 σ D els (l.map f)):Vw H H2 σ D t (.own r q g 0 n) (encL sz f l):=by rw[hn];exact zGY hD hg hb h
def zzd:List Sct:=[⟨⟨#[100,97,116,97]⟩,8192,Wa 32 0,true,false⟩,⟨⟨#[114,111,100,97,116,97]⟩,12288,Wa 16 0,false,false⟩]
def zbU (g:G) (v n:Int) (exit:List Int):Pg:=⟨[zlX v n g.addr exit,g],zzd,IntKind.u32.wrap (g.addr+1)⟩
def setC (v n:Int):List AV:=[.int .i64 1,.int .i64 v,.int .i64 0,.int .i64 0,.int .i64 0,.int .u32 0,encL 5 encX [.mk 1 n 0 0 []],za []]
def zA9 (a:Int):List AV:=[.int .i64 5,.int .i64 0,.int .i64 0,.int .i64 0,.int .i64 0,.int .u32 a,.nilsl,.nilsl]
def outC (w:Int):List AV:=[.int .i64 4,.int .i64 0,.int .i64 0,.int .i64 0,.int .i64 0,.int .u32 0,encL 5 encX [.mk 2 0 w 0 []],.nilsl]
def haltC:List AV:=[.int .i64 10,.int .i64 0,.int .i64 0,.int .i64 0,.int .i64 0,.int .u32 0,.nilsl,.nilsl]
def zib (v n a:Int) (l:List Int):List (List AV):=setC v n::zA9 a::l.map outC
def ztp:List AV:=[.nilsl,.nilsl,.int .u32 0]
theorem zDj {l:List Int} {i:Nat} (h:i < l.length):lowG (l.take (i+1))=if 0≤l[i]∧l[i] < 12 then lowG (l.take i)++[l[i]] else lowG (l.take i):=by
 unfold lowG;rw[Wj,Wi h,Wk,List.filter_append];split
 · rename_i hc;rw[List.filter_cons_of_pos (by simpa using hc)];rfl
 · rename_i hc;rw[List.filter_cons_of_neg (by simpa using hc),List.filter_nil,List.append_nil]
theorem zy3 {v n a w:Int} {l:List Int}:zib v n a (l++[w])=zib v n a l++[outC w]:=by unfold zib;simp
theorem zva {v n a:Int} {l:List Int}:(zib v n a l).length=l.length+2:=by unfold zib;simp
theorem zAd {v n a:Int} {l:List Int}:zy (zib v n a l):=zm rfl (zm rfl (zj fun _=>rfl))
theorem zAL {H H2:AH} {σ:Nat→Nat→Option (Nat × Nat × Nat)} {D:Nat→Nat→Prop} (v n a:Int) (exit:List Int):VwLL H H2 σ D (zib v n a (lowG exit)++[haltC]) ((zjo v n a exit).map St.cells):=by
 have e:(zjo v n a exit).map St.cells=((zrl v n).cells::(zk4 a).cells::(lowG exit).map fun w=>(zjB w).cells)++[zjV.cells]:=by unfold zjo;rw[Wl,Wl,List.map_append,List.map_map];rfl
 rw[e];unfold zib;refine zyz ⟨zcU rfl,?_,zxY (fun w=>?_) _⟩ ⟨?_,trivial⟩
 · unfold zA9 St.cells zk4;simp only[VwL];exact⟨.int _ _ _,.int _ _ _,.int _ _ _,.int _ _ _,.int _ _ _,.int _ _ _,.nil0 _ _ _,.nil0 _ _ _,trivial⟩
 · unfold outC St.cells zjB;simp only[VwL];exact⟨.int _ _ _,.int _ _ _,.int _ _ _,.int _ _ _,.int _ _ _,.int _ _ _,zO rfl,.nil0 _ _ _,trivial⟩
 · unfold haltC St.cells zjV;simp only[VwL];exact⟨.int _ _ _,.int _ _ _,.int _ _ _,.int _ _ _,.int _ _ _,.int _ _ _,.nil0 _ _ _,.nil0 _ _ _,trivial⟩
theorem Qbx {p:Prop}(h:p:=by(try simp only[evWB,Nat.reduceBEq,Nat.reduceAdd,Nat.reduceSub,Nat.reduceLeDiff,Nat.reduceLT,implies_true,ztp,List.map_nil,setC,zA9])<;>exact fin2):p:=h
set_option maxHeartbeats 1000000 in
theorem zml (g:G) (v n:Int) (exit:List Int) (hx:exit.length≤1000):zu Tryz.prog zg9 [.agg g.cells,.int .i64 v,.int .u32 n,za exit] (·=.agg (zbU g v n exit).cells):=by
 refine fn_x zra rfl ?_;unfold zla;have hB:=hBig;have hconst:=zvn n;have hset:=zy2 v (.mk 1 n 0 0 []);rw[zbl] at hconst hset;obtain⟨ga,bl⟩:=g;unfold G.cells;unfold St.cells setE at hset;simp only at hset ⊢
 have hbody:∀(gg:Nat) (L:List Int) (w:Int) (i:Nat),Ent 0 [(3,za exit),(4,encP 2 [.int .u32 ga,encL 2 Bl.cells bl]),(8,.ptr 0 0 0 0 0),(9,.ptr 2 0 0 0 0),(10,.int .i64 i)]
   [(0,.row 3 [ztp] 0),(1,.row 8 (zib v n ga L++[[.int .i64 4,.int .i64 0,.int .i64 0,.int .i64 0,.int .i64 0,.int .u32 0,.own 3 0 0 0 1,.nilsl]]) (gg+1)),(2,.row 2 [[.int .u32 (IntKind.u32.wrap (ga+1)),.own 1 0 (gg+1) 0 (L.length+2+1)]] 0),(3,.row 5 [[.int .i64 2,.int .u32 0,.int .i64 w,.int .i64 0,encL 5 encX []]] 0),(4,.row 8 [[.int .i64 4,.int .i64 0,.int .i64 0,.int .i64 0,.int .i64 0,.int .u32 0,.own 3 0 0 0 1,.nilsl]] 0)] 5
   [(3,za exit),(4,encP 2 [.int .u32 ga,encL 2 Bl.cells bl]),(8,.ptr 0 0 0 0 0),(9,.ptr 2 0 0 0 0),(10,.int .i64 i)]
   [(0,.row 3 [ztp] 0),(1,.row 8 (zib v n ga (L++[w])) (gg+1)),(2,.row 2 [[.int .u32 (IntKind.u32.wrap (ga+1)),.own 1 0 (gg+1) 0 (L.length+1+2)]] 0)] 3:=by
  intro gg L w i;refine Ent.vs (fun x=>if x < 3 then some x else none) (fun x=>3≤x) (Wd _) (fun r hr=>absurd hr (by omega)) ?_ ?_ ?_ ?_ ⟨zO rfl,zO rfl,.ptr _ _ _ _ _ _ _ _ _ (zcM (if_pos (by decide)) 0) rfl,.ptr _ _ _ _ _ _ _ _ _ (zcM (if_pos (by decide)) 0) rfl,.int _ _ _,trivial⟩
  ·
   intro x1 x2 y h1 h2;split at h1
   ·
    split at h2
    · cases h1;cases h2;rfl
    · cases h2
   · cases h1
  ·
   intro x y h1;split at h1
   · cases h1;omega
   · cases h1
  ·
   intro x y h1;split at h1
   · cases h1;omega
   · cases h1
  ·
   intro r o2 ho
   match r with
   | 0=>cases ho;exact⟨0,_,_,_,_,if_pos (by decide),rfl,rfl,.of_flat (zx rfl)⟩
   |
    1 =>
    cases ho;refine⟨1,_,_,_,_,if_pos (by decide),rfl,rfl,?_⟩;rw[zy3];refine zD2 (.of_flat zAd) (zgm ?_ zin);unfold outC;simp only[VwL];refine⟨.int _ _ _,.int _ _ _,.int _ _ _,.int _ _ _,.int _ _ _,.int _ _ _,?_,.nilsl _,trivial⟩;exact zoS (l:=[.mk 2 0 w 0 []]) (r:=3) (q:=0) (Wn 3) (by rw[Wt,zbl];rfl) (by rw[hB];simp)
   |
    2 =>
    cases ho;refine⟨2,_,_,_,_,if_pos (by decide),rfl,rfl,zgm ?_ zin⟩;simp only[VwL];refine⟨.int _ _ _,?_,trivial⟩;rw[show L.length+2+1=L.length+1+2 by omega];exact .own _ _ _ _ _ _ _ _ _ (zcM (if_pos (by decide)) 0) rfl
   | r+3=>cases (show (none:Option AObj)=some o2 from ho)
 have hloop:∀K H nx,Ent 0 K H nx [(3,za exit),(4,encP 2 [.int .u32 ga,encL 2 Bl.cells bl]),(8,.ptr 0 0 0 0 0),(9,.ptr 2 0 0 0 0),(10,.int .i64 0)] [(0,.row 3 [ztp] 0),(1,.row 8 (zib v n ga []) 0),(2,.row 2 [[.int .u32 (IntKind.u32.wrap (ga+1)),.own 1 0 0 0 2]] 0)] 3 →
   zjG Tryz.prog 0 zew (zbv 0 (seqQ Tryz.prog 0 zeF (retK zcd fun v1 H' _=>∃a,Frz H' v1 a∧a=.agg (zbU ⟨ga,bl⟩ v n exit).cells))) K H nx:=by
  intro K H nx hent;refine zk (fun x:Nat × Nat=>([(3,za exit),(4,encP 2 [.int .u32 ga,encL 2 Bl.cells bl]),(8,.ptr 0 0 0 0 0),(9,.ptr 2 0 0 0 0),(10,.int .i64 x.1)],[(0,.row 3 [ztp] 0),(1,.row 8 (zib v n ga (lowG (exit.take x.1))) x.2),(2,.row 2 [[.int .u32 (IntKind.u32.wrap (ga+1)),.own 1 0 x.2 0 ((lowG (exit.take x.1)).length+2)]] 0)])) 3 (fun x=>x.1≤exit.length) (fun x=>exit.length - x.1) (0,0) (Wd _) hent ?_;rintro⟨i,gg⟩ hi wf;simp only at hi
  have hll:(lowG (exit.take i)).length≤1000:=by unfold lowG;have:=Ww (fun w=>decide (0≤w∧w < 12)) (exit.take i);rw[Wo] at this;omega
  have e1:(zib v n ga (lowG (exit.take i))).take ((lowG (exit.take i)).length+2)=zib v n ga (lowG (exit.take i)):=We (by rw[zva];exact Wn _);have e2:(zib v n ga (lowG (exit.take i))).length=(lowG (exit.take i)).length+2:=zva;unfold zew
  by_cases hil:i < exit.length
  ·
   have hg:(exit.map fun n=>[AV.int .i64 n]).getD i []=[.int .i64 exit[i]]:=zq (d:=[]) hil;have hvar:=zyK exit[i];rw[zbl] at hvar;have hsn:=zDj hil
   by_cases h0:0≤exit[i]
   ·
    by_cases h1:exit[i] < 12
    ·
     rw[if_pos ⟨h0,h1⟩] at hsn
     (repeat first|simp(disch:=try exact dis1) only[evD,Nat.reduceBEq,Nat.reduceAdd,Nat.reduceLeDiff,fldP,zad,dT,dF,hg,za,e1,e2]|with_reducible first|intro _|refine aJ ?_)
     (repeat' with_reducible apply Wf)
     all_goals try omega
     all_goals (refine zai (zd hvar rfl) ?_;(repeat first|simp(disch:=try exact dis1) only[evD,Nat.reduceBEq,Nat.reduceAdd,Nat.reduceLeDiff,fldP,zad,dT,dF,hg,e1,e2]|with_reducible first|intro _|refine aJ ?_);(repeat' with_reducible apply Wf))
     all_goals try omega
     all_goals try (first|decide | (rw[e2];done))
     all_goals refine⟨(i+1,gg+1),?_,?_,?_⟩
     all_goals first
      | (show i+1≤exit.length;omega)
      | (show exit.length - (i+1) < exit.length - i;omega)
      | skip
     all_goals simp only
     all_goals rw[hsn,Wg,List.length_singleton]
     all_goals exact hbody gg (lowG (exit.take i)) exit[i] (i+1)
    ·
     rw[if_neg (fun h=>h1 h.2)] at hsn
     (repeat first|simp(disch:=try exact dis1) only[evD,Nat.reduceBEq,Nat.reduceAdd,Nat.reduceLeDiff,fldP,zad,dT,dF,hg,za]|with_reducible first|intro _|refine aJ ?_)
     refine⟨(i+1,gg),?_,?_,?_⟩
     · show i+1≤exit.length;omega
     · show exit.length - (i+1) < exit.length - i;omega
     · simp only;rw[hsn];exact Ent.keep rfl fin5
   ·
    rw[if_neg (fun h=>h0 h.1)] at hsn
    (repeat first|simp(disch:=try exact dis1) only[evD,Nat.reduceBEq,Nat.reduceAdd,Nat.reduceLeDiff,fldP,zad,dT,dF,hg,za]|with_reducible first|intro _|refine aJ ?_)
    refine⟨(i+1,gg),?_,?_,?_⟩
    · show i+1≤exit.length;omega
    · show exit.length - (i+1) < exit.length - i;omega
    · simp only;rw[hsn];exact Ent.keep rfl fin5
  ·
   have hie:exit.take i=exit:=We (by omega);rw[hie] at e1 e2 hll ⊢
   (repeat first|simp(disch:=try exact dis1) only[evD,Nat.reduceBEq,Nat.reduceAdd,Nat.reduceLeDiff,fldP,zad,dT,dF,za]|with_reducible first|intro _|refine aJ ?_)
   unfold zeF
   (repeat first|simp(disch:=try exact dis1) only[evD,Nat.reduceBEq,Nat.reduceAdd,Nat.reduceLeDiff,fldP,zad,dT,dF,e1,e2,zcd]|with_reducible first|intro _|refine aJ ?_)
   (repeat' with_reducible apply Wf)
   all_goals try omega
   all_goals intros
   all_goals (repeat' with_reducible apply Wf)
   all_goals try omega
   all_goals intros
   all_goals try (repeat first|simp(disch:=try exact dis1) only[evD,Nat.reduceBEq,Nat.reduceAdd,Nat.reduceLeDiff,fldP,zad,dT,dF,zcd]|with_reducible first|intro _|refine aJ ?_)
   all_goals refine⟨_,.agg _ _ [encL 2 G.cells [zlX v n ga exit,⟨ga,bl⟩],encL 5 Sct.cells zzd,.int .u32 (IntKind.u32.wrap (ga+1))] rfl (zgI ?_).2,rfl⟩
   all_goals simp only[VwL]
   all_goals refine⟨znw rfl trivial rfl (by rw[hB];simp) ?_,znw rfl trivial rfl (by rw[hB];decide) ?_,.int _ _ _,trivial⟩
   all_goals first
    | refine zj6 (d:=(zlX v n ga exit).cells) ?_ (zj6 (zcU rfl) trivial)
    | refine zj6 (d:=Sct.cells ⟨⟨#[100,97,116,97]⟩,8192,Wa 32 0,true,false⟩) ?_ (zj6 (d:=Sct.cells ⟨⟨#[114,111,100,97,116,97]⟩,12288,Wa 16 0,false,false⟩) ?_ trivial)
   all_goals first|unfold G.cells zlX|unfold Sct.cells zqT
   all_goals simp only[VwL]
   all_goals first
    | refine⟨.int _ _ _,znw (l:=[(⟨IntKind.u32.wrap (ga+1),zjo v n ga exit⟩:Bl)]) rfl trivial rfl (by rw[hB];simp) (zj6 (d:=[.int .u32 (IntKind.u32.wrap (ga+1)),encL 8 St.cells (zjo v n ga exit)]) ?_ trivial),trivial⟩
    | refine⟨.str _ _,.int _ _ _,znw (l:=Wa 32 (0:Int)) rfl trivial rfl (by rw[hB];decide) (zqL (A:=(Wa 32 (0:Int)).map fun n=>[.int .u8 n]) (zj fun _=>rfl)),.bool _ _,.bool _ _,trivial⟩
    | refine⟨.str _ _,.int _ _ _,znw (l:=Wa 16 (0:Int)) rfl trivial rfl (by rw[hB];decide) (zqL (A:=(Wa 16 (0:Int)).map fun n=>[.int .u8 n]) (zj fun _=>rfl)),.bool _ _,.bool _ _,trivial⟩
   all_goals simp only[VwL]
   all_goals refine⟨.int _ _ _,znw (by rw[zms]) trivial rfl (by rw[zms,hB];omega) (zAL v n ga exit),trivial⟩
 have hV1:wpX Tryz.prog 0 zbW (retK zcd fun v1 H' _=>∃a,Frz H' v1 a∧a=.agg (zbU ⟨ga,bl⟩ v n exit).cells) [(3,za exit),(4,encP 2 [.int .u32 ga,encL 2 Bl.cells bl]),(8,.ptr 0 0 0 0 0),(9,.ptr 2 0 0 0 0)] [(0,.row 3 [ztp] 0),(1,.row 8 (zib v n ga []) 0),(2,.row 2 [[.int .u32 (IntKind.u32.wrap (ga+1)),.own 1 0 0 0 2]] 0)] 3:=by
  unfold zbW
  (refine Qa ?_;intros)
  refine hloop _ _ _ ?_;exact Ent.keep rfl fin5
 have hV2:wpX Tryz.prog 0 zbW (retK zcd fun v1 H' _=>∃a,Frz H' v1 a∧a=.agg (zbU ⟨ga,bl⟩ v n exit).cells) [(3,za exit),(4,encP 2 [.int .u32 ga,encL 2 Bl.cells bl]),(8,.ptr 0 0 0 0 0),(9,.ptr 1 0 0 0 0)] [(0,.row 3 [ztp] 0),(1,.row 2 [[.int .u32 (IntKind.u32.wrap (ga+1)),.own 2 0 0 0 2]] 0),(2,.row 8 (zib v n ga []) 0)] 3:=by
  unfold zbW
  (refine Qa ?_;intros)
  refine hloop _ _ _ ?_;unfold zib;exact(Ent.tab [(0,0,0),(1,2,0),(2,1,0)] [] rfl Qbx Qbx)
 unfold zib setC zA9 ztp at hV1 hV2;simp only[Wm] at hV1 hV2
 (refine Qu ?_;intros)
 (repeat' with_reducible apply Wf)
 all_goals (refine zai (zd hconst rfl) ?_;(refine Qu ?_;intros);(repeat' with_reducible apply Wf))
 all_goals try (refine zai (zd hset rfl) ?_;(repeat first|simp(disch:=try exact dis1) only[evD,Nat.reduceBEq,Nat.reduceAdd,Nat.reduceLeDiff,fldP,zad]|with_reducible first|intro _|refine aJ ?_);(repeat' with_reducible apply Wf))
 all_goals first|decide|exact hV1|exact hV2|trace_state
def exV (v:Int):Ex:=.mk 2 0 v 0 []
def exC (n:Int):Ex:=.mk 1 n 0 0 []
def zz1 (v:Int) (e:Ex):St:=⟨1,v,0,0,0,0,[e],[]⟩
def exE1:G:=⟨0,[⟨0,[zz1 12 (exV 1),zz1 13 (exV 12),zz1 0 (exC 1),⟨9,0,0,0,0,0,[],[]⟩]⟩]⟩
def exE1d:G:=⟨0,[⟨0,[zz1 0 (exC 1),⟨9,0,0,0,0,0,[],[]⟩]⟩]⟩
def exE2:G:=⟨0,[⟨0,[zz1 12 (.mk 18 0 0 4 [exV 1]),⟨10,0,0,0,0,0,[],[]⟩]⟩]⟩
def exSt:St:=zz1 1 (.mk 3 0 0 0 [exV 1,.mk 18 0 0 4 [exV 2]])
theorem znK:SmallP exE1:=(zpl (exit:=[0,7]) (by decide)).1
theorem zsn:SmallP exE2:=(zpl (exit:=[]) (by decide)).1
theorem zCg:zE3 exE1 [0,7]=.tup [.agg (G.cells exE1d),.int .i64 2,.int .i64 0]:=by kernel_rfl
theorem zBx:zE3 exE2 []=.tup [.agg (G.cells exE2),.int .i64 0,.int .i64 0]:=by kernel_rfl
theorem zCP:AV.tup [zmh (zbs [0,7] exE1.blocks),zmh (zGK [0,7] exE1.blocks)]=.tup [zmh [[1,7]],zmh [[]]]:=by kernel_rfl
theorem zBT:za (zfj exSt)=za [1,2]:=by kernel_rfl
def zFI:List Memo:=[⟨zed,[.agg exE1.cells,za [0,7]],.tup [.agg (G.cells exE1d),.int .i64 2,.int .i64 0]⟩,⟨zd2,[.agg exE1.cells,za [0,7]],.tup [zmh [[1,7]],zmh [[]]]⟩,
 ⟨zd8,[.agg exSt.cells],za [1,2]⟩,⟨zed,[.agg exE2.cells,za []],.tup [.agg (G.cells exE2),.int .i64 0,.int .i64 0]⟩]
theorem zBv:∀e∈zFI,zu Tryz.prog e.f e.args (·=e.res):=by
 have h1:=zi2 exE1 [0,7] _ (znK.good (by decide)) znK.few;have h2:=zi6 exE1 [0,7] _ (znK.good (exit:=[0,7]) (by decide)).univ;have h3:=ziU exSt (by decide);have h4:=zi2 exE2 [] _ (zsn.good (by decide)) zsn.few;rw[zCg] at h1;rw[zCP] at h2;rw[zBT] at h3;rw[zBx] at h4;intro e he;unfold zFI at he;simp only[Wb,Wx,or_false] at he
 rcases he with rfl|rfl|rfl|rfl
 · exact h1
 · exact h2
 · exact h3
 · exact h4
def q25:FuncId→Nat→List Nat:=zGi [(zcq,([19,21,25,32,45,47,78,79,84,90,96,109,111,114],[3583],[])),
 (zqn,([],[67126323],[])),
 (zrj,([],[33571891],[])),
 (zei,([],[1031],[])),
 (zQ,([7],[27],[])),
 (zgf,([],[5],[])),
 (zae,([],[5],[])),
 (zCV,([10],[119],[])),
 (zzo,([7],[27],[])),
 (ziv,([],[33571891],[])),
 (zoA,([],[17768111],[])),
 (zgh,([],[5],[])),
 (ze1,([],[17596514574653],[])),
 (zeU,([],[10384593871817177683247510831234831],[])),
 (zpu,([],[5],[])),
 (zdj,([],[1073746119],[])),
 (znd,([],[16661],[]))]
theorem zlM:zu Tryz.prog zcq [] (·=.bool true):=zy7 (qf:=q25) (zp5 zlC zBv) 3000 (by kernel_rfl)
def zyn:AV:=slL 5 [[.str ⟨#[100,97,116,97]⟩,.int .u32 8192,slL 1 (Wa 32 [.int .u8 0]),.bool true,.bool false],[.str ⟨#[114,111,100,97,116,97]⟩,.int .u32 12288,slL 1 (Wa 16 [.int .u8 0]),.bool false,.bool false]]
def q05:FuncId→Nat→List Nat:=zGi [(zcL,([],[75557863725915431772797],[])),
 (zdJ,([],[285],[])),
 (zA7,([],[18014950415155315],[])),
 (zmV,([],[4111],[])),
 (zAv,([],[15],[])),
 (zkC,([],[268436019],[])),
 (zzu,([],[70368744178237],[]))]
theorem zxs:zu Tryz.prog zcL [zyn] (·=.int .i64 0):=zrX (qf:=q05) zlC 3000 (by kernel_rfl)
theorem zvi:zu Tryz.prog zdJ [zyn] (·=zyn):=zrX (qf:=q05) zlC 3000 (by kernel_rfl)
theorem zs5 (l:List Int) (n:Int) (hl:l.length≤1000000):zu Tryz.prog zjZ [encL 1 cU l,.int .u32 n] (·=encL 1 cU (insU n l)):=by
 refine fn_x zsV rfl ?_;unfold zmP;have hB:=hBig
 (refine Qp ?_;intros)
 refine zk (fun i:Nat=>([(0,encL 1 cU l),(1,.int .u32 n),(5,.int .i64 i)],[])) 0 (fun i=>i≤l.length∧∀j,(h:j < l.length)→j < i→l[j] < n) (fun i=>l.length - i) 0 ⟨Wd _,fun j _ h=>by omega⟩ (Ent.tab [] [] rfl Qaz Qaz) ?_;rintro i ⟨hi,hlt⟩ wf;unfold zi3;have hat:=zAQ hlt
 by_cases hil:i < l.length
 ·
  have hgl:(l.map cU).getD i []=[.int .u32 l[i]]:=zq (f:=cU) (d:=[]) hil
  by_cases hx:l[i] < n
  ·
   (repeat first|simp(disch:=try exact dis1) only[evD,Nat.reduceBEq,Nat.reduceAdd,Nat.reduceLeDiff,dT,za,hgl]|with_reducible first|intro _|refine aJ ?_)
   refine⟨i+1,⟨by omega,fun j hj hji=>?_⟩,by omega,Ent.keep rfl fin5⟩
   by_cases hje:j=i
   · subst hje;exact hx
   · exact hlt j hj (by omega)
  ·
   rw[Wp hil,insU,if_neg hx] at hat
   (repeat first|simp(disch:=try exact dis1) only[evD,Nat.reduceBEq,Nat.reduceAdd,Nat.reduceLeDiff,dT,dF,za,hgl]|with_reducible first|intro _|refine aJ ?_)
   unfold zfi
   by_cases he:l[i]=n
   ·
    rw[if_pos he,←Wp hil,List.take_append_drop] at hat;rw[hat]
    (repeat first|simp(disch:=try exact dis1) only[evD,Nat.reduceBEq,Nat.reduceAdd,Nat.reduceLeDiff,dT,za,hgl,zfQ]|with_reducible first|intro _|refine aJ ?_)
    exact⟨_,zaq rfl,rfl⟩
   ·
    rw[if_neg he,←Wp hil] at hat;have hll:=congrArg List.length hat;simp only[Wg,Wy,Wo,Wz] at hll;rw[hat]
    have e1:=fun H=>ziG (f:=cU) (sz:=1) (H:=H) hi (fun _=>rfl)
    have e2:=fun H=>zig (f:=cU) (sz:=1) (H:=H) hi (fun _=>rfl)
    have k1:(l.take i).length=i:=by rw[Wo];omega
    have k2:((l.take i).map cU).take i=(l.take i).map cU:=We (by rw[List.length_map];omega);have k3:(((l.take i).map cU)++[[AV.int .u32 n]]).take (i+1)=((l.take i).map cU)++[[AV.int .u32 n]]:=We (by simp;omega)
    have k4:(((l.take i).map cU)++[[AV.int .u32 n]]).length=i+1:=by simp;omega
    have t1:((i:Int) - 0).toNat=i:=by omega
    have t2:((l.length:Int) - (i:Int)).toNat=l.length - i:=by omega
    (repeat first|simp(disch:=try exact dis1) only[evD,Nat.reduceBEq,Nat.reduceAdd,Nat.reduceLeDiff,dT,dF,za,hgl,zgv,zf7,e1,e2,zni,znJ,t1,t2,k1,k2,k3,k4,zfQ]|with_reducible first|intro _|refine aJ ?_)
    have er:(l.take i).map cU++[[AV.int .u32 n]]++(l.drop i).map cU=(l.take i++n::l.drop i).map cU:=by simp[cU]
    have el:i+1+(l.length - i)=(l.take i++n::l.drop i).length:=by rw[Wg,Wy,Wz,k1];omega
    rw[er,el];exact⟨_,vw_U trivial rfl (by rw[←el];omega),rfl⟩
 ·
  obtain rfl:i=l.length:=by omega
  rw[List.take_length,List.drop_length,insU] at hat
  (refine Qah ?_;intros)
  unfold zfi;rw[hat]
  have e1:=fun H=>ziG (f:=cU) (sz:=1) (H:=H) hi (fun _=>rfl)
  have e2:=fun H=>zig (f:=cU) (sz:=1) (H:=H) hi (fun _=>rfl)
  have k3:((l.map cU)++[[AV.int .u32 n]]).take (l.length+1)=(l.map cU)++[[AV.int .u32 n]]:=We (by simp)
  have k4:((l.map cU)++[[AV.int .u32 n]]).length=l.length+1:=by simp
  have t1:((l.length:Int) - 0).toNat=l.length:=by omega
  have t2:((l.length:Int) - (l.length:Int)).toNat=l.length - l.length:=by omega
  (repeat first|simp(disch:=try exact dis1) only[evD,Nat.reduceBEq,Nat.reduceAdd,Nat.reduceLeDiff,dF,za,zgv,zf7,e1,e2,zni,znJ,t1,t2,k3,k4,zfQ]|with_reducible first|intro _|refine aJ ?_)
  have er:l.map cU++[[AV.int .u32 n]]++(l.drop l.length).map cU=(l++[n]).map cU:=by simp[cU]
  have el:l.length+1+(l.length - l.length)=(l++[n]).length:=by simp
  rw[er,el];exact⟨_,vw_U trivial rfl (by rw[←el];omega),rfl⟩
theorem zGl {n:Int} {l:List Int}:insU n l≠[]:=fun h=>by have:n∈insU n l:=zoP.2 (.inl rfl);rw[h] at this;cases this
theorem zvd (a:List Int):zu Tryz.prog ziv [encL 1 cU a,encL 1 cU a] (·=.bool true):=by
 refine fn_x zvN rfl ?_;unfold zn6;have hB:=hBig
 (refine Qg ?_;intros)
 refine zk (fun i:Nat=>([(0,encL 1 cU a),(1,encL 1 cU a),(5,.int .i64 i)],[])) 0 (fun i=>i≤a.length) (fun i=>a.length - i) 0 (Wd _) (Ent.keep rfl fin5) ?_;rintro i hi wf;unfold zki
 by_cases hil:i < a.length
 ·
  have hgl:(a.map cU).getD i []=[.int .u32 a[i]]:=zq (f:=cU) (d:=[]) hil
  (repeat first|simp(disch:=try exact dis1) only[evD,Nat.reduceBEq,Nat.reduceAdd,Nat.reduceLeDiff,dT,dF,hgl]|with_reducible first|intro _|refine aJ ?_)
  exact⟨i+1,by omega,by omega,Ent.keep rfl fin5⟩
 ·
  (refine Qg ?_;intros)
  unfold zjW
  (repeat first|simp(disch:=try exact dis1) only[evD,Nat.reduceBEq,Nat.reduceAdd,Nat.reduceLeDiff,zn5]|with_reducible first|intro _|refine aJ ?_)
  exact⟨_,.bool _ _,rfl⟩
def zwu (bl:List Bl):Prop:=∀b∈bl,∀s∈b.stmts,s.op≠5
theorem zup (g:G) (hb:g.blocks.length≤1000) (hs:∀b∈g.blocks,b.stmts.length≤100):zu Tryz.prog zlP [.agg g.cells] (fun v=>∃l:List Int,v=encL 1 cU l∧l.length≤1000000∧(l=[]→zwu g.blocks)):=by
 refine fn_x zvl rfl ?_;unfold zog;have hB:=hBig;obtain⟨ad,bl⟩:=g;simp only at hb hs;unfold G.cells;simp only
 (refine Ql ?_;intros)
 refine zk (fun x:Nat × List Int=>([(1,encP 2 [.int .u32 ad,encL 2 Bl.cells bl]),(3,encL 1 cU x.2),(4,.int .i64 x.1)],[])) 0 (fun x=>x.1≤bl.length∧x.2.length≤100 * x.1∧(x.2=[]→zwu (bl.take x.1))) (fun x=>bl.length - x.1) (0,[]) ⟨Wd _,Wn _,fun _ b hb=>by simp at hb⟩ ?_ ?_
 · exact Ent.vs (fun _=>none) (fun _=>True) (Wd _) (fun r hr=>absurd hr (by omega)) (fun _ _ _ h=>by cases h) (fun _ _ h=>by cases h) (fun _ _ h=>by cases h) (fun r o h=>by cases h) ⟨zO rfl,vw_U (l:=[]) trivial rfl (by decide),.int _ _ _,trivial⟩
 rintro⟨i,l⟩ ⟨hi,hll,hnc⟩ wf;simp only at hi hll hnc;unfold zjy
 by_cases hil:i < bl.length
 ·
  have hg:(bl.map Bl.cells).getD i []=[.int .u32 bl[i].addr,encL 8 St.cells bl[i].stmts]:=zq hil;have hsl:=hs _ (List.getElem_mem hil)
  (refine Qt ?_;intros)
  refine zk (fun x:Nat × List Int=>([(1,encP 2 [.int .u32 ad,encL 2 Bl.cells bl]),(3,encL 1 cU x.2),(4,.int .i64 i),(5,.int .i64 x.1)],[])) 0 (fun x=>x.1≤bl[i].stmts.length∧x.2.length≤100 * i+x.1∧(x.2=[]→zwu (bl.take i)∧∀s∈bl[i].stmts.take x.1,s.op≠5)) (fun x=>bl[i].stmts.length - x.1) (0,l) ⟨Wd _,hll,fun h=>⟨hnc h,fun s hs=>by simp at hs⟩⟩ (Ent.keep rfl fin5) ?_;rintro⟨k,m⟩ ⟨hk,hml,hmc⟩ wf2;simp only at hk hml hmc;unfold zjQ
  by_cases hkl:k < bl[i].stmts.length
  ·
   have hg2:(bl[i].stmts.map St.cells).getD k []=[.int .i64 bl[i].stmts[k].op,.int .i64 bl[i].stmts[k].var,.int .i64 bl[i].stmts[k].width,.int .i64 bl[i].stmts[k].next,.int .i64 bl[i].stmts[k].els,.int .u32 bl[i].stmts[k].tgt,encL 5 encX bl[i].stmts[k].e,za bl[i].stmts[k].cases]:=zq (f:=St.cells) (d:=[]) hkl
   by_cases h5:bl[i].stmts[k].op=5
   ·
    (repeat first|simp(disch:=try exact dis1) only[evD,Nat.reduceBEq,Nat.reduceAdd,Nat.reduceLeDiff,fldP,zad,dT,dF,hg,hg2]|with_reducible first|intro _|refine aJ ?_)
    refine ze (zd (zs5 m _ (by omega)) rfl) ?_
    (refine Qa ?_;intros)
    refine⟨(k+1,insU bl[i].stmts[k].tgt m),⟨?_,?_,fun h=>absurd h zGl⟩,?_,(Ent.tab [] [] rfl Qau Qau)⟩
    · show k+1≤_;omega
    · have h7:(insU bl[i].stmts[k].tgt m).length≤m.length+1:=zs1;show (insU _ m).length≤100 * i+(k+1);omega
    · show _ - (k+1) < _ - k;omega
   ·
    (repeat first|simp(disch:=try exact dis1) only[evD,Nat.reduceBEq,Nat.reduceAdd,Nat.reduceLeDiff,fldP,zad,dT,dF,hg,hg2]|with_reducible first|intro _|refine aJ ?_)
    refine⟨(k+1,m),⟨?_,?_,fun h=>⟨(hmc h).1,fun s hs=>?_⟩⟩,?_,(Ent.tab [] [] rfl Qau Qau)⟩
    · show k+1≤_;omega
    · show m.length≤100 * i+(k+1);omega
    ·
     simp only at hs;rw[Wj,Wi hkl] at hs
     rcases Wq.1 hs with hs|hs
     · exact(hmc h).2 s hs
     · rw[Wk,Wc] at hs;rw[hs];exact h5
    · show _ - (k+1) < _ - k;omega
  ·
   (repeat first|simp(disch:=try exact dis1) only[evD,Nat.reduceBEq,Nat.reduceAdd,Nat.reduceLeDiff,fldP,dF,hg]|with_reducible first|intro _|refine aJ ?_)
   unfold zjK
   (refine Qa ?_;intros)
   refine⟨(i+1,m),⟨?_,?_,fun h=>?_⟩,?_,Ent.keep rfl fin5⟩
   · show i+1≤_;omega
   · show m.length≤100 * (i+1);omega
   ·
    intro b hb s hs;simp only at hb;rw[Wj,Wi hil] at hb
    rcases Wq.1 hb with hb|hb
    · exact(hmc h).1 b hb s hs
    · rw[Wk,Wc] at hb;subst hb;exact(hmc h).2 s (by rw[We (by omega)];exact hs)
   · show _ - (i+1) < _ - i;omega
 ·
  (refine Qh ?_;intros)
  unfold zjU
  (repeat first|simp(disch:=try exact dis1) only[evD,Nat.reduceBEq,Nat.reduceAdd,Nat.reduceLeDiff,zou]|with_reducible first|intro _|refine aJ ?_)
  refine⟨_,zaq rfl,l,rfl,by omega,fun h=>?_⟩;have:=hnc h
  rwa [We (by omega)] at this
theorem Qat {p q:Prop}(k:q)(h:Im q p:=by(repeat first|simp(disch:=try exact dis1) only[evD,Nat.reduceBEq,Nat.reduceAdd,Nat.reduceLeDiff,fldP,zad,dT,dF,zhz] | ((with_reducible apply Im.i);intro _) | ((with_reducible apply Im.a);omega));exact Im.r):p:=h k
theorem zrq (p q:Pg) (inp:List Int) (kp:PgOk p inp) (kq:PgOk q inp) (h:∀e out e2 out2,RunQ p inp 200 e out→RunQ q inp 200 e2 out2→e≠15→e2=e∧out2=out) :
  zu Tryz.prog ziC [.agg p.cells,.agg q.cells,encL 1 cU inp] (·=.bool true):=by
 refine fn_x zri rfl ?_;unfold zlf;have hB:=hBig;have h1:=(zr5 p inp 200 kp (by decide)).ent;have h2:=(zr5 q inp 200 kq (by decide)).ent;unfold Pg.cells at h1 h2 ⊢
 (refine Qu ?_;intros)
 refine z6 [] 0 _ (h1) rfl rfl Qax Qax ?_;rintro v H' nx' ⟨⟨e,out,st,hq,rfl⟩,rfl,rfl⟩;unfold resV
 by_cases he:e=15
 ·
  (refine Qat ?_;intros)
  exact⟨_,.bool _ _,rfl⟩
 (refine Qm ?_;intros)
 refine z6 [] 0 _ (h2) rfl rfl Qax Qax ?_;rintro v H' nx' ⟨⟨e2,out2,st2,hq2,rfl⟩,rfl,rfl⟩;obtain⟨rfl,rfl⟩:=h _ _ _ _ hq hq2 he;unfold resV
 (refine Qm ?_;intros)
 refine ze (zd (zvd out2) rfl) ?_
 (refine Qat ?_;intros)
 exact⟨_,.bool _ _,rfl⟩
theorem zDf:encL 5 Sct.cells zzd=zyn:=rfl
theorem zEn:Mem.ok ⟨zzd,[]⟩:=by
 constructor
 ·
  intro s hs;unfold zzd at hs;simp only[Wb,Wx,or_false] at hs
  rcases hs with rfl|rfl
  · constructor<;>decide
  · constructor<;>decide
 · decide
 · decide
theorem zyW {l:List St} {s:St} (h:∀x∈l,zcg x=false) (hs:zcg s=true):endsOk (l++[s])=true:=by
 induction l with
 |
  nil =>
  show ((zcg s == ([]:List St).isEmpty)&&endsOk [])=true;rw[hs];rfl
 |
  cons a l ih =>
  show ((zcg a == (l++[s]).isEmpty)&&endsOk (l++[s]))=true;rw[h a Wu,ih fun x hx=>h x (Wv _ hx)]
  cases l<;>rfl
theorem zya (exit:List Int):(lowG exit).length≤exit.length:=Ww _ _
theorem zBS {v n:Int} (hv:0≤v∧v < 65536):(zrl v n).check=0:=by
 have hc:zcj (.mk 1 n 0 0 [])=0:=by simp[zcj,zmq,zja,zdr,zcc,zw]
 unfold St.check zjD zrl zdg zdg;simp[hc,zR,zA,hv.1,hv.2]
theorem zzJ (a:Int):(zk4 a).check=0:=by unfold St.check zjD zk4 zdg;simp[zR,zA]
theorem zzU:zjV.check=0:=by unfold St.check zjD zjV zdg;simp[zR,zA]
theorem zC3 {w:Int} (hw:0≤w∧w < 12):(zjB w).check=0:=by
 have h2:w < 65536:=by omega
 have hc:zcj (.mk 2 0 w 0 [])=0:=by simp[zcj,zmq,zja,zdr,zcc,zw,hw.1,h2]
 unfold St.check zjD zjB zdg zdg;simp[hc,zR,zA]
theorem zx6 {v n ga:Int} {exit:List Int} (hv:0≤v∧v < 65536) (he:exit.length≤100):OkG (zlX v n ga exit):=by
 have hl:=zya exit
 have hm:∀s∈zjo v n ga exit,s=zrl v n∨s=zk4 ga∨(∃w∈lowG exit,s=zjB w)∨s=zjV:=fun s hs=>by
  unfold zjo at hs
  rcases Wb.1 hs with rfl|hs
  · exact .inl rfl
  rcases Wb.1 hs with rfl|hs
  · exact .inr (.inl rfl)
  rcases Wq.1 hs with hs|hs
  · obtain⟨w,h1,rfl⟩:=List.mem_map.1 hs;exact .inr (.inr (.inl ⟨w,h1,rfl⟩))
  · exact .inr (.inr (.inr (Wc.1 hs)))
 have hlast:zjo v n ga exit=(zrl v n::zk4 ga::(lowG exit).map zjB)++[zjV]:=rfl;refine⟨by show 1≤256;decide,?_,by unfold zlX;simp,fun b hb=>?_,fun b hb s hs=>?_⟩
 · show zJ [_]≤1024;unfold zJ;simp only[Wl,Wm,List.sum_cons,List.sum_nil];rw[zms];omega
 ·
  rw[Wc.1 hb];simp only;refine⟨by unfold zjo;simp,?_,fun t ht=>?_⟩
  ·
   rw[hlast];refine zyW (fun x hx=>?_) rfl
   rcases Wb.1 hx with rfl|hx
   · rfl
   rcases Wb.1 hx with rfl|hx
   · rfl
   obtain⟨w,_,rfl⟩:=List.mem_map.1 hx;rfl
  · unfold zI at ht;rw[hlast,List.getLast?_concat] at ht;cases ht
 ·
  rw[Wc.1 hb] at hs
  rcases hm s hs with rfl|rfl | ⟨w,hw,rfl⟩|rfl
  · exact zBS hv
  · exact zzJ _
  · exact zC3 (zyc.1 hw).2
  · exact zzU
theorem znQ {g:G} {v n:Int} {exit:List Int} (hv:0≤v∧v < 65536) (he:exit.length≤100) (hg:OkG g):zcC (zbU g v n exit)=0:=by
 have h0:=zv3.2 (zx6 (n:=n) (ga:=g.addr) hv he);have h1:=zv3.2 hg
 have hne:IntKind.u32.wrap (g.addr+1)≠g.addr:=by have e:IntKind.u32.wrap (g.addr+1)=(g.addr+1) % 4294967296:=rfl;rw[e];omega
 unfold zcC zbU;rw[if_neg (by simp)]
 have f0:za6 (zlX v n g.addr exit).addr [zlX v n g.addr exit,g] 0=0:=by unfold za6;rw[if_pos rfl]
 have f1:za6 g.addr [zlX v n g.addr exit,g] 0=1:=by
  unfold za6 za6;rw[if_neg,if_pos rfl]
  · rfl
  · exact hne
 have f2:za6 (IntKind.u32.wrap (g.addr+1)) [zlX v n g.addr exit,g] 0=0:=f0;unfold zjv;simp only;rw[h0,if_neg (fun h=>h rfl),f0,if_neg (fun h=>h rfl)];unfold zjv;simp only;rw[h1,if_neg (fun h=>h rfl),f1,if_neg (fun h=>h rfl)];unfold zjv;simp only;rw[f2,if_neg (by decide)]
inductive PartR:List St→List St→Prop
 | nil:PartR [] []
 | keep {s:St} {a b:List St}:PartR a b→PartR (s::a) (s::b)
 | drop {s:St} {a b:List St}:PartR a b→s.op=1→PartR a (s::b)
theorem zvt {g:G} {v n:Int} {exit inp:List Int} (hv:0≤v∧v < 65536) (he:exit.length≤100) (hg:OkG g) (hf:fewB g) (hi:inp.length≤4096):PgOk (zbU g v n exit) inp:=by
 have hs:(zbU g v n exit).secs=zzd:=rfl;have hgs:(zbU g v n exit).gs=[zlX v n g.addr exit,g]:=rfl;have hm:=zx6 (n:=n) (ga:=g.addr) hv he
 have f0:za6 (zbU g v n exit).entry (zbU g v n exit).gs 0=0:=by show za6 (IntKind.u32.wrap (g.addr+1)) [zlX v n g.addr exit,g] 0=0;unfold za6;exact if_pos rfl
 refine⟨by rw[hs,zDf];exact zxs,by rw[hs,zDf];exact zvi,fun a ha=>?_,by rw[hgs];simp,hi,by rw[hs];exact zEn,fun _ a ha=>?_,fun _=>by rw[f0];exact Int.le_refl 0⟩
 ·
  rw[hgs] at ha
  rcases Wb.1 ha with rfl|ha
  · refine⟨by show 1≤300;decide,fun b hb=>?_⟩;rw[Wc.1 hb];simp only;rw[zms];have:=zya exit;omega
  · rw[Wc.1 ha];exact hf
 ·
  rw[hgs] at ha
  rcases Wb.1 ha with rfl|ha
  · exact hm
  · rw[Wc.1 ha];exact hg
theorem zCD {exit inp:List Int} {x y:List Bl} {v n n2 ga:Int} (h:SimP exit x y v n n2 ga) (hv:v < 65536) (he:exit.length≤100):∀e out e2 out2,RunQ (zbU ⟨ga,y⟩ v n exit) inp 200 e out→RunQ (zbU ⟨ga,x⟩ v n2 exit) inp 200 e2 out2→e≠15→e2=e∧out2=out:=by
 intro e out e2 out2 h1 h2 hne;have hx:=h.ok.rel h.rel;have c1:=znQ (g:=⟨ga,y⟩) (n:=n) ⟨h.v0,hv⟩ he h.ok;have c2:=znQ (g:=⟨ga,x⟩) (n:=n2) ⟨h.v0,hv⟩ he hx
 rcases h1 with ⟨h1,_⟩ | ⟨_,r1,h1,rfl,rfl⟩
 · exact absurd c1 h1
 rcases h2 with ⟨h2,_⟩ | ⟨_,r2,h2,rfl,rfl⟩
 · exact absurd c2 h2
 have f:∀(z:List Bl) (m:Int),za6 (zbU ⟨ga,z⟩ v m exit).entry (zbU ⟨ga,z⟩ v m exit).gs 0=0:=fun z m=>by show za6 (IntKind.u32.wrap (ga+1)) [zlX v m ga exit,⟨ga,z⟩] 0=0;unfold za6;exact if_pos rfl
 refine sim h (p:=zbU ⟨ga,y⟩ v n exit) (q:=zbU ⟨ga,x⟩ v n2 exit) ⟨rfl,rfl⟩ h1 hne (t:=zc7 (zbU ⟨ga,x⟩ v n2 exit)) ⟨⟨rfl,rfl,rfl,rfl,rfl,Int.le_refl _,by show 12≤zmI.length;decide,by show 12≤zmI.length;decide,rfl,fun i f g hf=>by simp[zc7] at hf⟩,fun _=>.inl ⟨0,by omega,⟨f y n,rfl,rfl,f x n2,rfl,rfl⟩,fun _ _=>rfl⟩⟩ h2
theorem QD {p q:Prop}(k:q)(h:Im q p:=by(repeat first|simp(disch:=try exact dis1) only[evD,Nat.reduceBEq,Nat.reduceAdd,Nat.reduceLeDiff,fldP,zad,tab,List.getD_cons_zero,List.getD_cons_succ] | ((with_reducible apply Im.i);intro _) | ((with_reducible apply Im.a);omega));exact Im.r):p:=h k
theorem Qq {p q:Prop}(k:q)(h:Im q p:=by(repeat first|simp(disch:=try exact dis1) only[evD,Nat.reduceBEq,Nat.reduceAdd,Nat.reduceLeDiff,zac] | ((with_reducible apply Im.i);intro _) | ((with_reducible apply Im.a);omega));exact Im.r):p:=h k
theorem Qr {p q:Prop}(k:q)(h:Im q p:=by(repeat first|simp(disch:=try exact dis1) only[evD,Nat.reduceBEq,Nat.reduceAdd,Nat.reduceLeDiff,dT,dF,fldP,zad,tab,List.getD_cons_zero,List.getD_cons_succ] | ((with_reducible apply Im.i);intro _) | ((with_reducible apply Im.a);omega));exact Im.r):p:=h k
set_option maxHeartbeats 1000000 in
theorem L25_LivenessUnused_ok (g:G) (exit:List Int) (v n m:Int) (inp:List Int) (hv0:0≤v):zu Tryz.prog zfs [.agg g.cells,za exit,.int .u8 v,.int .u32 n,.int .u32 m,encL 1 cU inp] (·=.bool true):=by
 refine fn_x zkg rfl ?_;unfold zeS;have hB:=hBig;have hsm:=zuw g exit;have hex:=zlM
 cases hs:ztL g exit with
 |
  false =>
  rw[hs] at hsm;obtain⟨ad,bl⟩:=g;simp only[G.cells] at hsm ⊢
  (refine QD ?_;intros)
  refine ze (zd hsm rfl) ?_
  (refine Qa ?_;intros)
  refine ze (zd hex rfl) ?_
  (refine Qq ?_;intros)
  exact⟨_,.bool _ _,rfl⟩
 |
  true =>
  rw[hs] at hsm;obtain⟨hp,hel⟩:=zpl hs;have hcg:=zhL g hp.few;have hcl:=(zup g (by have:=hp.blocks;omega) (fun b hb=>by have:=hp.stmts b hb;omega)).ent;have hhas:=zrz exit (IntKind.i64.wrap (Wh v 12));have hlive:=zi6 g exit _ (hp.good (exit:=exit) (by omega)).univ
  by_cases hil:20 < inp.length
  ·
   obtain⟨ad,bl⟩:=g;simp only[G.cells] at hsm ⊢
   (refine QD ?_;intros)
   refine ze (zd hsm rfl) ?_
   (refine QC ?_;intros)
   refine ze (zd hex rfl) ?_
   (refine Qq ?_;intros)
   exact⟨_,.bool _ _,rfl⟩
  by_cases hc:zfE g=0
  case neg =>
   obtain⟨ad,bl⟩:=g;simp only[G.cells] at hsm hcg ⊢;generalize hce:zfE ⟨ad,bl⟩=ce at hc hcg
   (refine QD ?_;intros)
   refine ze (zd hsm rfl) ?_
   (refine Qr ?_;intros)
   refine ze (zd hcg rfl) ?_
   (refine QC ?_;intros)
   refine ze (zd hex rfl) ?_
   (refine Qq ?_;intros)
   exact⟨_,.bool _ _,rfl⟩
  have hok:=zv3.1 hc;rw[hc] at hcg;obtain⟨ad,bl⟩:=g;simp only[G.cells] at hsm hcg hcl hlive ⊢
  (refine QD ?_;intros)
  refine ze (zd hsm rfl) ?_
  (refine Qr ?_;intros)
  refine ze (zd hcg rfl) ?_
  (refine Qr ?_;intros)
  refine z6 [] 0 _ (hcl) rfl rfl Qax Qax ?_;rintro v1 H' nx' ⟨⟨l,rfl,hll,hln⟩,rfl,rfl⟩
  by_cases hl0:l.length=0
  case neg =>
   (refine Qj ?_;intros)
   refine ze (zd hex rfl) ?_
   (refine Qq ?_;intros)
   exact⟨_,.bool _ _,rfl⟩
  have hnc:=hln (List.eq_nil_of_length_eq_zero hl0)
  (refine Qj ?_;intros)
  refine ze (zd hhas rfl) ?_
  have hk:0≤IntKind.i64.wrap (Wh v 12)∧IntKind.i64.wrap (Wh v 12) < 12:=by have e:Wh v 12=v % 12:=Int.tmod_eq_emod_of_nonneg hv0;rw[e,ztJ (by omega) (by omega)];omega
  generalize IntKind.i64.wrap (Wh v 12)=k at hk ⊢
  by_cases hkx:k∈exit
  ·
   rw[decide_eq_true hkx]
   (refine Qj ?_;intros)
   refine ze (zd hex rfl) ?_
   (refine Qq ?_;intros)
   exact⟨_,.bool _ _,rfl⟩
  rw[decide_eq_false hkx];have hlen:(zbs exit bl).length=bl.length:=zrR;have hbl:0 < bl.length:=List.length_pos_iff.2 hok.ne
  have hl0:0 < (zbs exit bl).length:=by omega
  have hg0:((zbs exit bl).map cLL).getD (Int.toNat 0) []=[za ((zbs exit bl)[0])]:=zq (f:=cLL) (d:=[]) hl0;have hh2:=zrz ((zbs exit bl)[0]) k
  have hgd:(zbs exit bl).getD 0 []=(zbs exit bl)[0]:=by rw[List.getD_eq_getElem?_getD,Wi hl0,Option.getD_some]
  have hsame:=fun hnl=>zCD (inp:=inp) (exit:=exit) (x:=bl) (y:=bl) (v:=k) (n:=n) (n2:=m) (ga:=ad) ⟨RelD.refl,hok,hk.1,.inr (by rw[hgd];exact hnl),.inr hnc⟩ (by omega) (by omega)
  have ha1:=zml ⟨ad,bl⟩ k n exit (by omega);have ha2:=zml ⟨ad,bl⟩ k m exit (by omega)
  have hbh:=fun hnl=>zrq (zbU ⟨ad,bl⟩ k n exit) (zbU ⟨ad,bl⟩ k m exit) inp (zvt ⟨hk.1,by omega⟩ (by omega) hok hp.few (by omega)) (zvt ⟨hk.1,by omega⟩ (by omega) hok hp.few (by omega)) (hsame hnl)
  unfold Pg.cells at ha1 ha2 hbh;simp only[G.cells] at ha1 ha2;generalize (zbs exit bl)[0]=L0 at hg0 hh2 hgd hsame hbh;generalize zbs exit bl=LI at hlive hlen hl0 hg0 hgd;generalize zGK exit bl=LO at hlive
  (refine Qr ?_;intros)
  refine ze (zd hlive rfl) ?_
  (repeat first|simp(disch:=try exact dis1) only[evD,Nat.reduceBEq,Nat.reduceAdd,Nat.reduceLeDiff,dT,dF,fldP,zad,zmh,tab,Wr,Ws,hg0]|with_reducible first|intro _|refine aJ ?_)
  refine zai (zd hh2 rfl) ?_
  by_cases hkl:k∈L0
  ·
   rw[decide_eq_true hkl]
   (refine Qj ?_;intros)
   refine zai (zd hex rfl) ?_
   (refine Qq ?_;intros)
   exact⟨_,.bool _ _,rfl⟩
  ·
   rw[decide_eq_false hkl]
   (refine Qr ?_;intros)
   refine zai (zd ha1 rfl) ?_
   (refine Qr ?_;intros)
   refine zai (zd ha2 rfl) ?_
   (refine Qr ?_;intros)
   refine zai (zd (hbh hkl) rfl) ?_
   (refine Qj ?_;intros)
   refine zai (zd hex rfl) ?_
   (refine Qq ?_;intros)
   exact⟨_,.bool _ _,rfl⟩
end Go.Ab
