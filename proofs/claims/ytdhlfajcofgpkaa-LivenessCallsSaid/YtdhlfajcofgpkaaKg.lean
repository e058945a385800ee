/-
  Part 7 of the proof: how the calls of this program run, over values instead of memory, and what each function computes.
-/
import Derived.Shelf.SortM.Plain
import Derived.KernelRfl
import Derived.Test.YtdhlfajcofgpkaaKf
set_option maxRecDepth 100000
set_option linter.unusedVariables false
set_option linter.unusedSimpArgs false
set_option linter.unnecessarySimpa false
set_option linter.unusedSectionVars false
namespace Go.Ab
open Go.RowKit Go.Proofs Go.Maps Go.Sort Go.Shelf
def insI (x:Int):List Int→List Int
 | []=>[x]
 | y::r=>bif decide (x≤y) then x::y::r else y::insI x r
def zcd:List Int→List Int
 | []=>[]
 | x::r=>insI x (zcd r)
theorem zmx (x:Int):∀ l:List Int,(insI x l).Perm (x::l)
 | []=>.refl _
 |
  y::r=>by
  rw [insI]
  cases decide (x≤y)
  · exact ((zmx x r).cons y).trans (.swap x y r)
  · exact .refl _
theorem zZ:∀ l:List Int,(zcd l).Perm l
 | []=>.refl _
 | x::r=>(zmx x _).trans ((zZ r).cons x)
theorem zmN (x:Int):∀ l:List Int,l.Pairwise (·≤·)→(insI x l).Pairwise (·≤·)
 | [],_=>by simp [insI]
 |
  y::r,h=>by
  rw [insI]
  rw [List.pairwise_cons] at h
  cases hd:decide (x≤y) with
  |
   true =>
   have hxy:x≤y:=of_decide_eq_true hd
   refine List.pairwise_cons.2 ⟨fun z hz=>?_,List.pairwise_cons.2 h⟩
   rcases List.mem_cons.1 hz with rfl | hz
   · exact hxy
   · exact Int.le_trans hxy (h.1 z hz)
  |
   false =>
   have hxy:¬ x≤y:=of_decide_eq_false hd
   refine List.pairwise_cons.2 ⟨fun z hz=>?_,zmN x r h.2⟩
   rcases List.mem_cons.1 ((zmx x r).mem_iff.1 hz) with rfl | hz
   · omega
   · exact h.1 z hz
theorem zcJ:∀ l:List Int,(zcd l).Pairwise (·≤·)
 | []=>.nil
 | x::r=>zmN x _ (zcJ r)
theorem zmZ {l m:List Int} (h:l.Perm m) (hl:l.Pairwise (·≤·)) (hm:m.Pairwise (·≤·)):l=m :=
 List.Perm.eq_of_pairwise (fun _ _ _ _ h1 h2=>Int.le_antisymm h1 h2) hl hm h
theorem zii {l m:List Int} (h:l.Perm m):l.mergeSort (fun x y=>decide (x≤y))=zcd m:=by
 refine zmZ ((List.mergeSort_perm _ _).trans (h.trans (zZ m).symm)) ?_ (zcJ m)
 have:=List.pairwise_mergeSort (le:=fun x y:Int=>decide (x≤y)) (fun a b c h1 h2=>by simp only [decide_eq_true_eq] at *;exact Int.le_trans h1 h2) (fun a b=>by simp only [Bool.or_eq_true,decide_eq_true_eq];exact Int.le_total a b) l
 exact this.imp fun h=>of_decide_eq_true h
section
variable {w:World} {L:Nat→Prop} {ι:Inj} {H:AH} {nx:Nat}
theorem ziv {α β:Type} {f:α→β}:∀ {l:List α},(l.map f).Nodup→l.Nodup
 | [],_=>.nil
 |
  a::l,h=>by
  rw [List.map_cons,List.nodup_cons] at h
  exact List.nodup_cons.2 ⟨fun hm=>h.1 (List.mem_map_of_mem hm),ziv h.2⟩
end
end Go.Ab
namespace Go.Ab
open Go.RowKit Go.Proofs
def cW (n:Int):List AV:=[.int .u32 n]
def rW (d:Array Int):List (List AV):=d.toList.map cW
theorem zfn {d:Array Int}:(rW d).length=d.size:=by simp [rW]
theorem zaI {d:Array Int} {i:Nat} (h:i < d.size):(rW d).getD i []=[.int .u32 d[i]!]:=by
 unfold rW
 rw [List.getD_eq_getElem?_getD,List.getElem?_map,Array.getElem?_toList,Array.getElem?_eq_getElem h,getElem!_pos d i h]
 rfl
theorem zys {d:Array Int} {i:Nat} {x:Int}:(rW d).set i [.int .u32 x]=rW (d.setIfInBounds i x):=by
 unfold rW
 rw [Array.toList_setIfInBounds,List.map_set]
 rfl
theorem zeE {d:Array Int} {i j:Nat}:((rW d).set i [.int .u32 d[j]!]).set j [.int .u32 d[i]!]=rW (Sort.swp d i j):=by
 rw [zys,zys]
 rfl
theorem zbz {d:Array Int} {i j:Nat}:(Sort.swp d i j).size=d.size:=by simp [Sort.swp]
theorem zcX {ρ:Nat→Nat} {d:Array Int} {g:Nat}:AObj.ren ρ (.row 1 (rW d) g)=.row 1 (rW d) g:=by
 simp only [AObj.ren,rW]
 rw [zfO (ze fun _=>rfl)]
def len8:ByteArray:=⟨#[0,1,2,2,3,3,3,3,4,4,4,4,4,4,4,4,5,5,5,5,5,5,5,5,5,5,5,5,5,5,5,5,6,6,6,6,6,6,6,6,6,6,6,6,6,6,6,6,6,6,6,6,6,6,6,6,6,6,6,6,6,6,6,6,7,7,7,7,7,7,7,7,7,7,7,7,7,7,7,7,7,7,7,7,7,7,7,7,7,7,7,7,7,7,7,7,7,7,7,7,7,7,7,7,7,7,7,7,7,7,7,7,7,7,7,7,7,7,7,7,7,7,7,7,7,7,7,7,8,8,8,8,8,8,8,8,8,8,8,8,8,8,8,8,8,8,8,8,8,8,8,8,8,8,8,8,8,8,8,8,8,8,8,8,8,8,8,8,8,8,8,8,8,8,8,8,8,8,8,8,8,8,8,8,8,8,8,8,8,8,8,8,8,8,8,8,8,8,8,8,8,8,8,8,8,8,8,8,8,8,8,8,8,8,8,8,8,8,8,8,8,8,8,8,8,8,8,8,8,8,8,8,8,8,8,8,8,8,8,8,8,8,8,8,8,8,8,8,8,8,8,8,8,8,8,8]⟩
def zc7:ACode:=.seq (.region [ (oN 3 (.mov (.t 0))),(oN 4 (.len (.t 3))),(oN 2 (.mov (.t 4)))] [3,4]) (.region [ (oN 5 (.mov (.t 0))),(oN 6 (.mov (.t 2))),(oN 7 (.mov (.t 2))),(oN 8 (.conv .u64 (.t 7))),(oN 9 (.call zdc [(.t 8)])),(oN 10 (.call zO [(.t 5),(.c (.int .i64 0)),(.t 6),(.t 9)]))] [0,2,5,6,7,8,9,10])
def zc6:List ARet:=[]
theorem zfC:zac Try.prog zaM (qRo [])=some (zc7.strip,zc6,11):=by kernel_rfl
def zb1:ACode:=.seq (.seq (.draw ( .step (oN 73 (.mov (.t 1))) ( .step (oN 74 (.bin .gtr (.t 73) (.c (.int .i64 0)))) ( .step (oN 75 (.mov (.t 74))) ( .step (oG 76 75 true (.mov (.t 0))) ( .step (oG 77 75 true (.mov (.t 1))) ( .step (oG 78 75 true (.bin .sub (.t 77) (.c (.int .i64 1)))) ( .step (oG 79 75 true (.idx 1 (.t 76) (.t 78))) ( .step (oG 80 75 true (.load false 1 (.t 79))) ( .step (oG 81 75 true (.mov (.t 0))) ( .step (oG 82 75 true (.mov (.t 11))) ( .step (oG 83 75 true (.idx 1 (.t 81) (.t 82))) ( .step (oG 84 75 true (.load false 1 (.t 83))) ( .step (oG 85 75 true (.callq zC [(.t 80),(.t 84)])) ( .step (oG 86 75 true (.un .not (.t 85))) ( .step (oN 87 (.pick (.t 75) (.t 86) (.c (.bool false)))) ( .done)))))))))))))))) [68,72,73,74,75,76,77,78,79,80,81,82,83,84,85,86]) (.cond (.t 87) (.seq (.region [ (oN 88 (.mov (.t 0))),(oN 89 (.mov (.t 1))),(oN 90 (.mov (.t 2))),(oN 91 (.mov (.t 11))),(oN 92 (.call zai [(.t 88),(.t 89),(.t 90),(.t 91)])),(oN 13 (.mov (.t 92)))] [1,10,11,87,88,89,90,91,92]) (.seq (.region [ (oN 93 (.mov (.t 13))),(oN 1 (.mov (.t 93)))] [13,93]) (.exit 1))) (.skip))) (.seq (.region [ (oN 95 (.mov (.t 0))),(oN 96 (.mov (.t 1))),(oN 97 (.mov (.t 2))),(oN 98 (.mov (.t 11))),(oN 99 (.call zaP [(.t 95),(.t 96),(.t 97),(.t 98)])),(oN 94 (.mov (.t 99))),(oN 100 (.ext 0 (.t 94))),(oN 101 (.ext 1 (.t 94))),(oN 14 (.mov (.t 100))),(oN 15 (.mov (.t 101)))] [8,9,11,87,94,95,96,97,98,99,100,101]) (.seq (.region [ (oN 102 (.mov (.t 15))),(oN 9 (.mov (.t 102)))] [15,102]) (.seq (.region [ (oN 103 (.mov (.t 14))),(oN 104 (.mov (.t 1))),(oN 105 (.bin .sub (.t 103) (.t 104))),(oN 106 (.mov (.t 2))),(oN 107 (.mov (.t 14))),(oN 108 (.bin .sub (.t 106) (.t 107))),(oN 16 (.mov (.t 105))),(oN 17 (.mov (.t 108)))] [103,104,105,106,107,108]) (.seq (.region [ (oN 109 (.mov (.t 10))),(oN 110 (.bin .quo (.t 109) (.c (.int .i64 8)))),(oN 18 (.mov (.t 110)))] [10,109,110]) (.seq (.region [ (oN 111 (.mov (.t 16))),(oN 112 (.mov (.t 17))),(oN 113 (.bin .lss (.t 111) (.t 112)))] [111,112]) (.cond (.t 113) (.seq (.region [ (oN 114 (.mov (.t 16))),(oN 115 (.mov (.t 18))),(oN 116 (.bin .geq (.t 114) (.t 115))),(oN 8 (.mov (.t 116)))] [16,17,18,113,114,115,116]) (.seq (.region [ (oN 117 (.mov (.t 0))),(oN 118 (.mov (.t 1))),(oN 119 (.mov (.t 14))),(oN 120 (.mov (.t 3))),(oN 121 (.call zO [(.t 117),(.t 118),(.t 119),(.t 120)]))] [1,117,118,119,120,121]) (.region [ (oN 122 (.mov (.t 14))),(oN 123 (.bin .add (.t 122) (.c (.int .i64 1)))),(oN 1 (.mov (.t 123)))] [14,122,123]))) (.seq (.region [ (oN 124 (.mov (.t 17))),(oN 125 (.mov (.t 18))),(oN 126 (.bin .geq (.t 124) (.t 125))),(oN 8 (.mov (.t 126)))] [16,17,18,113,124,125,126]) (.seq (.region [ (oN 127 (.mov (.t 0))),(oN 128 (.mov (.t 14))),(oN 129 (.bin .add (.t 128) (.c (.int .i64 1)))),(oN 130 (.mov (.t 2))),(oN 131 (.mov (.t 3))),(oN 132 (.call zO [(.t 127),(.t 129),(.t 130),(.t 131)]))] [2,127,128,129,130,131,132]) (.region [ (oN 133 (.mov (.t 14))),(oN 2 (.mov (.t 133)))] [14,133])))))))))
def zb7:ACode:=.join (.seq (.region [ (oN 61 (.mov (.t 8))),(oN 62 (.mov (.t 61))),(oG 63 62 true (.mov (.t 9))),(oN 64 (.pick (.t 62) (.t 63) (.c (.bool false)))),(oN 65 (.mov (.t 64))),(oG 66 65 true (.mov (.t 12))),(oG 67 65 true (.bin .eql (.t 66) (.c (.int .i64 1)))),(oN 68 (.pick (.t 65) (.t 67) (.c (.bool false))))] [12,50,61,62,63,64,65,66,67]) (.cond (.t 68) (.seq (.region [ (oN 69 (.mov (.t 0))),(oN 70 (.mov (.t 1))),(oN 71 (.mov (.t 2))),(oN 72 (.call zV [(.t 69),(.t 70),(.t 71)]))] [68,69,70,71]) (.cond (.t 72) (.ret) (.skip))) (.skip))) (zb1)
def zb5:ACode:=.seq (.region [ (oN 43 (.mov (.t 0))),(oN 44 (.mov (.t 1))),(oN 45 (.mov (.t 2))),(oN 46 (.call zaH [(.t 43),(.t 44),(.t 45)])),(oN 42 (.mov (.t 46))),(oN 47 (.ext 0 (.t 42))),(oN 48 (.ext 1 (.t 42))),(oN 11 (.mov (.t 47))),(oN 12 (.mov (.t 48)))] [35,42,43,44,45,46,47,48]) (.join (.seq (.region [ (oN 49 (.mov (.t 12))),(oN 50 (.bin .eql (.t 49) (.c (.int .i64 2))))] [49]) (.cond (.t 50) (.seq (.region [ (oN 51 (.mov (.t 0))),(oN 52 (.mov (.t 1))),(oN 53 (.mov (.t 2))),(oN 54 (.call zaE [(.t 51),(.t 52),(.t 53)]))] [12,50,51,52,53,54]) (.seq (.region [ (oN 55 (.mov (.t 2))),(oN 56 (.bin .sub (.t 55) (.c (.int .i64 1)))),(oN 57 (.mov (.t 11))),(oN 58 (.mov (.t 1))),(oN 59 (.bin .sub (.t 57) (.t 58))),(oN 60 (.bin .sub (.t 56) (.t 59))),(oN 11 (.mov (.t 60)))] [55,56,57,58,59,60]) (.region [ (oN 12 (.mov (.c (.int .i64 1))))] []))) (.skip))) (zb7))
def zb0:ACode:=.block 1 (.seq (.region [ (oN 19 (.mov (.t 2))),(oN 20 (.mov (.t 1))),(oN 21 (.bin .sub (.t 19) (.t 20))),(oN 10 (.mov (.t 21)))] [19,20,21]) (.seq (.seq (.region [ (oN 22 (.mov (.t 10))),(oN 23 (.bin .leq (.t 22) (.c (.int .i64 12))))] [22]) (.cond (.t 23) (.seq (.region [ (oN 24 (.mov (.t 0))),(oN 25 (.mov (.t 1))),(oN 26 (.mov (.t 2))),(oN 27 (.call zU [(.t 24),(.t 25),(.t 26)]))] [0,1,2,3,8,9,10,23,24,25,26,27]) (.ret)) (.skip))) (.seq (.seq (.region [ (oN 28 (.mov (.t 3))),(oN 29 (.bin .eql (.t 28) (.c (.int .i64 0))))] [23,28]) (.cond (.t 29) (.seq (.region [ (oN 30 (.mov (.t 0))),(oN 31 (.mov (.t 1))),(oN 32 (.mov (.t 2))),(oN 33 (.call za2 [(.t 30),(.t 31),(.t 32)]))] [0,1,2,3,8,9,10,29,30,31,32,33]) (.ret)) (.skip))) (.join (.seq (.region [ (oN 34 (.mov (.t 8))),(oN 35 (.un .not (.t 34)))] [29,34]) (.cond (.t 35) (.seq (.region [ (oN 36 (.mov (.t 0))),(oN 37 (.mov (.t 1))),(oN 38 (.mov (.t 2))),(oN 39 (.call zax [(.t 36),(.t 37),(.t 38)]))] [35,36,37,38,39]) (.region [ (oN 40 (.mov (.t 3))),(oN 41 (.bin .sub (.t 40) (.c (.int .i64 1)))),(oN 3 (.mov (.t 41)))] [40,41])) (.skip))) (zb5)))))
def zcB:ACode:=.seq (.region [ (oN 8 (.mov (.c (.bool true))))] []) (.seq (.region [ (oN 9 (.mov (.c (.bool true))))] []) (.block 0 (.loop zb0)))
def zag:List ARet:=[]
theorem zeQ:zac Try.prog zO (qRo [])=some (zcB.strip,zag,134):=by kernel_rfl
def zhJ:ACode:=.seq (.region [ (oN 2 (.mov (.c (.int .i64 0))))] [2]) (.seq (.cond (.c (.bool false)) (.seq (.region [ (oN 3 (.mov (.t 0))),(oN 4 (.conv .u32 (.t 3))),(oN 5 (.call zki [(.t 4)])),(oN 2 (.mov (.t 5)))] [0,3,4,5]) (.ret)) (.skip)) (.seq (.region [ (oN 6 (.mov (.t 0))),(oN 7 (.call zdu [(.t 6)])),(oN 2 (.mov (.t 7)))] [0,6,7]) (.ret)))
def zhB:List ARet:=[.tmp 2]
theorem zll:zac Try.prog zdc (qRo [])=some (zhJ.strip,zhB,8):=by kernel_rfl
def za5:ACode:=.seq (.seq (.draw ( .step (oN 16 (.mov (.t 7))) ( .step (oN 17 (.mov (.t 1))) ( .step (oN 18 (.bin .gtr (.t 16) (.t 17))) ( .step (oN 19 (.mov (.t 18))) ( .step (oG 20 19 true (.mov (.t 0))) ( .step (oG 21 19 true (.mov (.t 7))) ( .step (oG 22 19 true (.idx 1 (.t 20) (.t 21))) ( .step (oG 23 19 true (.load false 1 (.t 22))) ( .step (oG 24 19 true (.mov (.t 0))) ( .step (oG 25 19 true (.mov (.t 7))) ( .step (oG 26 19 true (.bin .sub (.t 25) (.c (.int .i64 1)))) ( .step (oG 27 19 true (.idx 1 (.t 24) (.t 26))) ( .step (oG 28 19 true (.load false 1 (.t 27))) ( .step (oG 29 19 true (.callq zC [(.t 23),(.t 28)])) ( .step (oN 30 (.pick (.t 19) (.t 29) (.c (.bool false)))) ( .done)))))))))))))))) [16,17,18,19,20,21,22,23,24,25,26,27,28,29]) (.cond (.t 30) (.skip) (.exit 2))) (.seq (.block 3 (.draw ( .step (oN 33 (.mov (.t 0))) ( .step (oN 34 (.mov (.t 7))) ( .step (oN 35 (.mov (.t 0))) ( .step (oN 36 (.mov (.t 7))) ( .step (oN 37 (.bin .sub (.t 36) (.c (.int .i64 1)))) ( .step (oN 38 (.mov (.t 0))) ( .step (oN 39 (.mov (.t 7))) ( .step (oN 40 (.bin .sub (.t 39) (.c (.int .i64 1)))) ( .step (oN 41 (.idx 1 (.t 38) (.t 40))) ( .step (oN 42 (.load false 1 (.t 41))) ( .step (oN 43 (.mov (.t 0))) ( .step (oN 44 (.mov (.t 7))) ( .alt (oN 45 (.idx 1 (.t 43) (.t 44))) ( .step (oN 46 (.load false 1 (.t 45))) ( .step (oN 47 (.idx 1 (.t 33) (.t 34))) ( .alt ⟨none, .store 1 (.t 47) (.t 42),none⟩ ( .step (oN 48 (.idx 1 (.t 35) (.t 37))) ( .alt ⟨none, .store 1 (.t 48) (.t 46),none⟩ ( .done) ( .stop))) ( .stop)))) ( .stop)))))))))))))) [30,33,34,35,36,37,38,39,40,41,42,43,44,45,46,47,48])) (.region [ (oN 31 (.mov (.t 7))),(oN 32 (.bin .sub (.t 31) (.c (.int .i64 1)))),(oN 7 (.mov (.t 32)))] [31,32]))
def zaa:ACode:=.region [ (oN 13 (.mov (.t 6))),(oN 14 (.bin .add (.t 13) (.c (.int .i64 1)))),(oN 6 (.mov (.t 14)))] [7,13,14]
def zbd:ACode:=.seq (.seq (.region [ (oN 10 (.mov (.t 6))),(oN 11 (.mov (.t 2))),(oN 12 (.bin .lss (.t 10) (.t 11)))] [10,11]) (.cond (.t 12) (.skip) (.exit 0))) (.seq (.block 1 (.seq (.region [ (oN 15 (.mov (.t 6))),(oN 7 (.mov (.t 15)))] [12,15]) (.block 2 (.loop za5)))) (zaa))
def zbs:ACode:=.seq (.region [ (oN 8 (.mov (.t 1))),(oN 9 (.bin .add (.t 8) (.c (.int .i64 1)))),(oN 6 (.mov (.t 9)))] [8,9]) (.block 0 (.loop zbd))
def zbt:List ARet:=[]
theorem zdE:zac Try.prog zU (qRo [])=some (zbs.strip,zbt,49):=by kernel_rfl
def zbV:ACode:=.seq (.seq (.region [ (oN 18 (.mov (.t 9))),(oN 19 (.bin .geq (.t 18) (.c (.int .i64 0))))] [18]) (.cond (.t 19) (.skip) (.exit 0))) (.seq (.block 1 (.region [ (oN 22 (.mov (.t 0))),(oN 23 (.mov (.t 9))),(oN 24 (.mov (.t 8))),(oN 25 (.mov (.t 6))),(oN 26 (.call zJ [(.t 22),(.t 23),(.t 24),(.t 25)]))] [19,22,23,24,25,26])) (.region [ (oN 20 (.mov (.t 9))),(oN 21 (.bin .sub (.t 20) (.c (.int .i64 1)))),(oN 9 (.mov (.t 21)))] [20,21]))
def zbO:ACode:=.seq (.seq (.region [ (oN 29 (.mov (.t 10))),(oN 30 (.bin .geq (.t 29) (.c (.int .i64 0))))] [29]) (.cond (.t 30) (.skip) (.exit 2))) (.seq (.block 3 (.seq (.draw ( .step (oN 33 (.mov (.t 0))) ( .step (oN 34 (.mov (.t 6))) ( .step (oN 35 (.mov (.t 0))) ( .step (oN 36 (.mov (.t 6))) ( .step (oN 37 (.mov (.t 10))) ( .step (oN 38 (.bin .add (.t 36) (.t 37))) ( .step (oN 39 (.mov (.t 0))) ( .step (oN 40 (.mov (.t 6))) ( .step (oN 41 (.mov (.t 10))) ( .step (oN 42 (.bin .add (.t 40) (.t 41))) ( .step (oN 43 (.idx 1 (.t 39) (.t 42))) ( .step (oN 44 (.load false 1 (.t 43))) ( .step (oN 45 (.mov (.t 0))) ( .step (oN 46 (.mov (.t 6))) ( .alt (oN 47 (.idx 1 (.t 45) (.t 46))) ( .step (oN 48 (.load false 1 (.t 47))) ( .step (oN 49 (.idx 1 (.t 33) (.t 34))) ( .alt ⟨none, .store 1 (.t 49) (.t 44),none⟩ ( .step (oN 50 (.idx 1 (.t 35) (.t 38))) ( .alt ⟨none, .store 1 (.t 50) (.t 48),none⟩ ( .done) ( .stop))) ( .stop)))) ( .stop)))))))))))))))) [30,33,34,35,36,37,38,39,40,41,42,43,44,45,46,47,48,49,50]) (.region [ (oN 51 (.mov (.t 0))),(oN 52 (.mov (.t 7))),(oN 53 (.mov (.t 10))),(oN 54 (.mov (.t 6))),(oN 55 (.call zJ [(.t 51),(.t 52),(.t 53),(.t 54)]))] [51,52,53,54,55]))) (.region [ (oN 31 (.mov (.t 10))),(oN 32 (.bin .sub (.t 31) (.c (.int .i64 1)))),(oN 10 (.mov (.t 32)))] [31,32]))
def zbS:ACode:=.seq (.region [ (oN 27 (.mov (.t 8))),(oN 28 (.bin .sub (.t 27) (.c (.int .i64 1)))),(oN 10 (.mov (.t 28)))] [8,9,27,28]) (.block 2 (.loop zbO))
def zcu:ACode:=.seq (.region [ (oN 11 (.mov (.t 1))),(oN 6 (.mov (.t 11)))] [11]) (.seq (.region [ (oN 7 (.mov (.c (.int .i64 0))))] []) (.seq (.region [ (oN 12 (.mov (.t 2))),(oN 13 (.mov (.t 1))),(oN 14 (.bin .sub (.t 12) (.t 13))),(oN 8 (.mov (.t 14)))] [1,2,12,13,14]) (.seq (.seq (.region [ (oN 15 (.mov (.t 8))),(oN 16 (.bin .sub (.t 15) (.c (.int .i64 1)))),(oN 17 (.bin .quo (.t 16) (.c (.int .i64 2)))),(oN 9 (.mov (.t 17)))] [15,16,17]) (.block 0 (.loop zbV))) (zbS))))
def zcs:List ARet:=[]
theorem zeC:zac Try.prog za2 (qRo [])=some (zcu.strip,zcs,56):=by kernel_rfl
def za4:ACode:=.seq (.seq (.region [ (oN 26 (.mov (.t 9))),(oN 27 (.mov (.t 1))),(oN 28 (.mov (.t 6))),(oN 29 (.bin .quo (.t 28) (.c (.int .i64 4)))),(oN 30 (.bin .mul (.t 29) (.c (.int .i64 2)))),(oN 31 (.bin .add (.t 27) (.t 30))),(oN 32 (.bin .add (.t 31) (.c (.int .i64 1)))),(oN 33 (.bin .leq (.t 26) (.t 32)))] [26,27,28,29,30,31,32]) (.cond (.t 33) (.skip) (.exit 0))) (.seq (.block 1 (.seq (.region [ (oN 36 (.call zcV [(.t 7)])),(oN 37 (.mov (.t 8))),(oN 38 (.bin .sub (.t 37) (.c (.int .u64 1)))),(oN 39 (.bin .and (.t 36) (.t 38))),(oN 40 (.conv .i64 (.t 39))),(oN 10 (.mov (.t 40)))] [33,36,37,38,39,40]) (.seq (.seq (.region [ (oN 41 (.mov (.t 10))),(oN 42 (.mov (.t 6))),(oN 43 (.bin .geq (.t 41) (.t 42)))] [41,42]) (.cond (.t 43) (.region [ (oN 44 (.mov (.t 10))),(oN 45 (.mov (.t 6))),(oN 46 (.bin .sub (.t 44) (.t 45))),(oN 10 (.mov (.t 46)))] [43,44,45,46]) (.skip))) (.draw ( .step (oN 47 (.mov (.t 0))) ( .step (oN 48 (.mov (.t 9))) ( .step (oN 49 (.mov (.t 0))) ( .step (oN 50 (.mov (.t 1))) ( .step (oN 51 (.mov (.t 10))) ( .step (oN 52 (.bin .add (.t 50) (.t 51))) ( .step (oN 53 (.mov (.t 0))) ( .step (oN 54 (.mov (.t 1))) ( .step (oN 55 (.mov (.t 10))) ( .step (oN 56 (.bin .add (.t 54) (.t 55))) ( .step (oN 57 (.idx 1 (.t 53) (.t 56))) ( .step (oN 58 (.load false 1 (.t 57))) ( .step (oN 59 (.mov (.t 0))) ( .step (oN 60 (.mov (.t 9))) ( .alt (oN 61 (.idx 1 (.t 59) (.t 60))) ( .step (oN 62 (.load false 1 (.t 61))) ( .step (oN 63 (.idx 1 (.t 47) (.t 48))) ( .alt ⟨none, .store 1 (.t 63) (.t 58),none⟩ ( .step (oN 64 (.idx 1 (.t 49) (.t 52))) ( .alt ⟨none, .store 1 (.t 64) (.t 62),none⟩ ( .done) ( .stop))) ( .stop)))) ( .stop)))))))))))))))) [10,43,47,48,49,50,51,52,53,54,55,56,57,58,59,60,61,62,63,64])))) (.region [ (oN 34 (.mov (.t 9))),(oN 35 (.bin .add (.t 34) (.c (.int .i64 1)))),(oN 9 (.mov (.t 35)))] [34,35]))
def zbv:ACode:=.seq (.region [ (oN 11 (.mov (.t 2))),(oN 12 (.mov (.t 1))),(oN 13 (.bin .sub (.t 11) (.t 12))),(oN 6 (.mov (.t 13)))] [2,11,12,13]) (.seq (.region [ (oN 14 (.mov (.t 6))),(oN 15 (.bin .geq (.t 14) (.c (.int .i64 8))))] [14]) (.cond (.t 15) (.seq (.region [ (oN 16 (.mov (.t 6))),(oN 17 (.conv .u64 (.t 16))),(oN 7 (.alloc [.int .u64 0])),⟨none, .store 1 (.t 7) (.t 17),none⟩] [15,16,17]) (.seq (.region [ (oN 18 (.mov (.t 6))),(oN 19 (.call zcN [(.t 18)])),(oN 8 (.mov (.t 19)))] [18,19]) (.seq (.region [ (oN 20 (.mov (.t 1))),(oN 21 (.mov (.t 6))),(oN 22 (.bin .quo (.t 21) (.c (.int .i64 4)))),(oN 23 (.bin .mul (.t 22) (.c (.int .i64 2)))),(oN 24 (.bin .add (.t 20) (.t 23))),(oN 25 (.bin .sub (.t 24) (.c (.int .i64 1)))),(oN 9 (.mov (.t 25)))] [20,21,22,23,24,25]) (.block 0 (.loop za4))))) (.skip)))
def zaj:List ARet:=[]
theorem zdH:zac Try.prog zax (qRo [])=some (zbv.strip,zaj,65):=by kernel_rfl
def zbU:ACode:=.seq (.region [ (oN 6 (.mov (.c (.int .i64 0)))),(oN 7 (.mov (.c (.int .i64 0))))] [6,7]) (.seq (.region [ (oN 13 (.mov (.t 2))),(oN 14 (.mov (.t 1))),(oN 15 (.bin .sub (.t 13) (.t 14))),(oN 8 (.mov (.t 15)))] [2,13,14,15]) (.seq (.region [ (oN 9 (.alloc [.int .i64 0]))] []) (.seq (.region [ (oN 16 (.mov (.t 1))),(oN 17 (.mov (.t 8))),(oN 18 (.bin .quo (.t 17) (.c (.int .i64 4)))),(oN 19 (.bin .mul (.t 18) (.c (.int .i64 1)))),(oN 20 (.bin .add (.t 16) (.t 19))),(oN 10 (.mov (.t 20)))] [16,17,18,19,20]) (.seq (.region [ (oN 21 (.mov (.t 1))),(oN 22 (.mov (.t 8))),(oN 23 (.bin .quo (.t 22) (.c (.int .i64 4)))),(oN 24 (.bin .mul (.t 23) (.c (.int .i64 2)))),(oN 25 (.bin .add (.t 21) (.t 24))),(oN 11 (.mov (.t 25)))] [21,22,23,24,25]) (.seq (.region [ (oN 26 (.mov (.t 1))),(oN 27 (.mov (.t 8))),(oN 28 (.bin .quo (.t 27) (.c (.int .i64 4)))),(oN 29 (.bin .mul (.t 28) (.c (.int .i64 3)))),(oN 30 (.bin .add (.t 26) (.t 29))),(oN 12 (.mov (.t 30)))] [1,26,27,28,29,30]) (.seq (.seq (.region [ (oN 31 (.mov (.t 8))),(oN 32 (.bin .geq (.t 31) (.c (.int .i64 8))))] [31]) (.cond (.t 32) (.seq (.seq (.region [ (oN 33 (.mov (.t 8))),(oN 34 (.bin .geq (.t 33) (.c (.int .i64 50))))] [8,32,33]) (.cond (.t 34) (.seq (.region [ (oN 35 (.mov (.t 0))),(oN 36 (.mov (.t 10))),(oN 37 (.call zI [(.t 35),(.t 36),(.t 9)])),(oN 10 (.mov (.t 37)))] [34,35,36,37]) (.seq (.region [ (oN 38 (.mov (.t 0))),(oN 39 (.mov (.t 11))),(oN 40 (.call zI [(.t 38),(.t 39),(.t 9)])),(oN 11 (.mov (.t 40)))] [38,39,40]) (.region [ (oN 41 (.mov (.t 0))),(oN 42 (.mov (.t 12))),(oN 43 (.call zI [(.t 41),(.t 42),(.t 9)])),(oN 12 (.mov (.t 43)))] [41,42,43]))) (.skip))) (.region [ (oN 44 (.mov (.t 0))),(oN 45 (.mov (.t 10))),(oN 46 (.mov (.t 11))),(oN 47 (.mov (.t 12))),(oN 48 (.call zaC [(.t 44),(.t 45),(.t 46),(.t 47),(.t 9)])),(oN 11 (.mov (.t 48)))] [0,10,12,34,44,45,46,47,48])) (.skip))) (.seq (.region [ (oN 49 (.load false 1 (.t 9)))] [0,8,9,10,12,32]) (.block 0 (.seq (.region [ (oN 52 (.bin .eql (.t 49) (.c (.int .i64 0)))),(oN 51 (.mov (.t 52)))] [52]) (.cond (.t 51) (.seq (.region [ (oN 53 (.mov (.t 11))),(oN 6 (.mov (.t 53))),(oN 7 (.mov (.c (.int .i64 1))))] [11,49,51,53]) (.ret)) (.seq (.region [ (oN 55 (.bin .eql (.t 49) (.c (.int .i64 12)))),(oN 54 (.mov (.t 55)))] [49,51,55]) (.cond (.t 54) (.seq (.region [ (oN 56 (.mov (.t 11))),(oN 6 (.mov (.t 56))),(oN 7 (.mov (.c (.int .i64 2))))] [11,54,56]) (.ret)) (.seq (.region [ (oN 50 (.mov (.t 11))),(oN 6 (.mov (.t 50))),(oN 7 (.mov (.c (.int .i64 0))))] [11,50,54]) (.ret))))))))))))))
def zL:List ARet:=[.tmp 6, .tmp 7]
theorem zd7:zac Try.prog zaH (qRo [])=some (zbU.strip,zL,57):=by kernel_rfl
def zbj:ACode:=.seq (.seq (.region [ (oN 11 (.mov (.t 6))),(oN 12 (.mov (.t 7))),(oN 13 (.bin .lss (.t 11) (.t 12)))] [11,12]) (.cond (.t 13) (.skip) (.exit 0))) (.block 1 (.seq (.draw ( .step (oN 14 (.mov (.t 0))) ( .step (oN 15 (.mov (.t 6))) ( .step (oN 16 (.mov (.t 0))) ( .step (oN 17 (.mov (.t 7))) ( .step (oN 18 (.mov (.t 0))) ( .step (oN 19 (.mov (.t 7))) ( .step (oN 20 (.idx 1 (.t 18) (.t 19))) ( .step (oN 21 (.load false 1 (.t 20))) ( .step (oN 22 (.mov (.t 0))) ( .step (oN 23 (.mov (.t 6))) ( .alt (oN 24 (.idx 1 (.t 22) (.t 23))) ( .step (oN 25 (.load false 1 (.t 24))) ( .step (oN 26 (.idx 1 (.t 14) (.t 15))) ( .alt ⟨none, .store 1 (.t 26) (.t 21),none⟩ ( .step (oN 27 (.idx 1 (.t 16) (.t 17))) ( .alt ⟨none, .store 1 (.t 27) (.t 25),none⟩ ( .done) ( .stop))) ( .stop)))) ( .stop)))))))))))) [13,14,15,16,17,18,19,20,21,22,23,24,25,26,27]) (.seq (.region [ (oN 28 (.mov (.t 6))),(oN 29 (.bin .add (.t 28) (.c (.int .i64 1)))),(oN 6 (.mov (.t 29)))] [28,29]) (.region [ (oN 30 (.mov (.t 7))),(oN 31 (.bin .sub (.t 30) (.c (.int .i64 1)))),(oN 7 (.mov (.t 31)))] [30,31]))))
def zbB:ACode:=.seq (.region [ (oN 8 (.mov (.t 1))),(oN 6 (.mov (.t 8)))] [1,8]) (.seq (.region [ (oN 9 (.mov (.t 2))),(oN 10 (.bin .sub (.t 9) (.c (.int .i64 1)))),(oN 7 (.mov (.t 10)))] [2,9,10]) (.block 0 (.loop zbj)))
def zbM:List ARet:=[]
theorem zdP:zac Try.prog zaE (qRo [])=some (zbB.strip,zbM,32):=by kernel_rfl
def zat:ACode:=.seq (.seq (.draw ( .step (oN 17 (.mov (.t 7))) ( .step (oN 18 (.mov (.t 2))) ( .step (oN 19 (.bin .lss (.t 17) (.t 18))) ( .step (oN 20 (.mov (.t 19))) ( .step (oG 21 20 true (.mov (.t 0))) ( .step (oG 22 20 true (.mov (.t 7))) ( .step (oG 23 20 true (.idx 1 (.t 21) (.t 22))) ( .step (oG 24 20 true (.load false 1 (.t 23))) ( .step (oG 25 20 true (.mov (.t 0))) ( .step (oG 26 20 true (.mov (.t 7))) ( .step (oG 27 20 true (.bin .sub (.t 26) (.c (.int .i64 1)))) ( .step (oG 28 20 true (.idx 1 (.t 25) (.t 27))) ( .step (oG 29 20 true (.load false 1 (.t 28))) ( .step (oG 30 20 true (.callq zC [(.t 24),(.t 29)])) ( .step (oG 31 20 true (.un .not (.t 30))) ( .step (oN 32 (.pick (.t 20) (.t 31) (.c (.bool false)))) ( .done))))))))))))))))) [17,18,19,20,21,22,23,24,25,26,27,28,29,30,31]) (.cond (.t 32) (.skip) (.exit 2))) (.block 3 (.region [ (oN 33 (.mov (.t 7))),(oN 34 (.bin .add (.t 33) (.c (.int .i64 1)))),(oN 7 (.mov (.t 34)))] [32,33,34]))
def zar:ACode:=.seq (.seq (.region [ (oN 64 (.mov (.t 9))),(oN 65 (.bin .geq (.t 64) (.c (.int .i64 1))))] [64]) (.cond (.t 65) (.skip) (.exit 4))) (.seq (.block 5 (.seq (.seq (.draw ( .step (oN 68 (.mov (.t 0))) ( .step (oN 69 (.mov (.t 9))) ( .step (oN 70 (.idx 1 (.t 68) (.t 69))) ( .step (oN 71 (.load false 1 (.t 70))) ( .step (oN 72 (.mov (.t 0))) ( .step (oN 73 (.mov (.t 9))) ( .step (oN 74 (.bin .sub (.t 73) (.c (.int .i64 1)))) ( .step (oN 75 (.idx 1 (.t 72) (.t 74))) ( .step (oN 76 (.load false 1 (.t 75))) ( .step (oN 77 (.callq zC [(.t 71),(.t 76)])) ( .step (oN 78 (.un .not (.t 77))) ( .done)))))))))))) [65,68,69,70,71,72,73,74,75,76,77]) (.cond (.t 78) (.exit 4) (.skip))) (.draw ( .step (oN 79 (.mov (.t 0))) ( .step (oN 80 (.mov (.t 9))) ( .step (oN 81 (.mov (.t 0))) ( .step (oN 82 (.mov (.t 9))) ( .step (oN 83 (.bin .sub (.t 82) (.c (.int .i64 1)))) ( .step (oN 84 (.mov (.t 0))) ( .step (oN 85 (.mov (.t 9))) ( .step (oN 86 (.bin .sub (.t 85) (.c (.int .i64 1)))) ( .step (oN 87 (.idx 1 (.t 84) (.t 86))) ( .step (oN 88 (.load false 1 (.t 87))) ( .step (oN 89 (.mov (.t 0))) ( .step (oN 90 (.mov (.t 9))) ( .alt (oN 91 (.idx 1 (.t 89) (.t 90))) ( .step (oN 92 (.load false 1 (.t 91))) ( .step (oN 93 (.idx 1 (.t 79) (.t 80))) ( .alt ⟨none, .store 1 (.t 93) (.t 88),none⟩ ( .step (oN 94 (.idx 1 (.t 81) (.t 83))) ( .alt ⟨none, .store 1 (.t 94) (.t 92),none⟩ ( .done) ( .stop))) ( .stop)))) ( .stop)))))))))))))) [78,79,80,81,82,83,84,85,86,87,88,89,90,91,92,93,94]))) (.region [ (oN 66 (.mov (.t 9))),(oN 67 (.bin .sub (.t 66) (.c (.int .i64 1)))),(oN 9 (.mov (.t 67)))] [66,67]))
def zan:ACode:=.seq (.seq (.region [ (oN 101 (.mov (.t 10))),(oN 102 (.mov (.t 2))),(oN 103 (.bin .lss (.t 101) (.t 102)))] [101,102]) (.cond (.t 103) (.skip) (.exit 6))) (.seq (.block 7 (.seq (.seq (.draw ( .step (oN 106 (.mov (.t 0))) ( .step (oN 107 (.mov (.t 10))) ( .step (oN 108 (.idx 1 (.t 106) (.t 107))) ( .step (oN 109 (.load false 1 (.t 108))) ( .step (oN 110 (.mov (.t 0))) ( .step (oN 111 (.mov (.t 10))) ( .step (oN 112 (.bin .sub (.t 111) (.c (.int .i64 1)))) ( .step (oN 113 (.idx 1 (.t 110) (.t 112))) ( .step (oN 114 (.load false 1 (.t 113))) ( .step (oN 115 (.callq zC [(.t 109),(.t 114)])) ( .step (oN 116 (.un .not (.t 115))) ( .done)))))))))))) [103,106,107,108,109,110,111,112,113,114,115]) (.cond (.t 116) (.exit 6) (.skip))) (.draw ( .step (oN 117 (.mov (.t 0))) ( .step (oN 118 (.mov (.t 10))) ( .step (oN 119 (.mov (.t 0))) ( .step (oN 120 (.mov (.t 10))) ( .step (oN 121 (.bin .sub (.t 120) (.c (.int .i64 1)))) ( .step (oN 122 (.mov (.t 0))) ( .step (oN 123 (.mov (.t 10))) ( .step (oN 124 (.bin .sub (.t 123) (.c (.int .i64 1)))) ( .step (oN 125 (.idx 1 (.t 122) (.t 124))) ( .step (oN 126 (.load false 1 (.t 125))) ( .step (oN 127 (.mov (.t 0))) ( .step (oN 128 (.mov (.t 10))) ( .alt (oN 129 (.idx 1 (.t 127) (.t 128))) ( .step (oN 130 (.load false 1 (.t 129))) ( .step (oN 131 (.idx 1 (.t 117) (.t 118))) ( .alt ⟨none, .store 1 (.t 131) (.t 126),none⟩ ( .step (oN 132 (.idx 1 (.t 119) (.t 121))) ( .alt ⟨none, .store 1 (.t 132) (.t 130),none⟩ ( .done) ( .stop))) ( .stop)))) ( .stop)))))))))))))) [116,117,118,119,120,121,122,123,124,125,126,127,128,129,130,131,132]))) (.region [ (oN 104 (.mov (.t 10))),(oN 105 (.bin .add (.t 104) (.c (.int .i64 1)))),(oN 10 (.mov (.t 105)))] [104,105]))
def zaw:ACode:=.seq (.region [ (oN 95 (.mov (.t 2))),(oN 96 (.mov (.t 7))),(oN 97 (.bin .sub (.t 95) (.t 96))),(oN 98 (.bin .geq (.t 97) (.c (.int .i64 2))))] [9,61,95,96,97]) (.cond (.t 98) (.seq (.region [ (oN 99 (.mov (.t 7))),(oN 100 (.bin .add (.t 99) (.c (.int .i64 1)))),(oN 10 (.mov (.t 100)))] [98,99,100]) (.block 6 (.loop zan))) (.skip))
def zR:ACode:=.seq (.seq (.region [ (oN 35 (.mov (.t 7))),(oN 36 (.mov (.t 2))),(oN 37 (.bin .eql (.t 35) (.t 36)))] [35,36]) (.cond (.t 37) (.seq (.region [ (oN 6 (.mov (.c (.bool true))))] [0,1,2,7,8,37]) (.ret)) (.skip))) (.seq (.seq (.region [ (oN 38 (.mov (.t 2))),(oN 39 (.mov (.t 1))),(oN 40 (.bin .sub (.t 38) (.t 39))),(oN 41 (.bin .lss (.t 40) (.c (.int .i64 50))))] [6,37,38,39,40]) (.cond (.t 41) (.seq (.region [ (oN 6 (.mov (.c (.bool false))))] [0,1,2,7,8,41]) (.ret)) (.skip))) (.seq (.draw ( .step (oN 42 (.mov (.t 0))) ( .step (oN 43 (.mov (.t 7))) ( .step (oN 44 (.mov (.t 0))) ( .step (oN 45 (.mov (.t 7))) ( .step (oN 46 (.bin .sub (.t 45) (.c (.int .i64 1)))) ( .step (oN 47 (.mov (.t 0))) ( .step (oN 48 (.mov (.t 7))) ( .step (oN 49 (.bin .sub (.t 48) (.c (.int .i64 1)))) ( .step (oN 50 (.idx 1 (.t 47) (.t 49))) ( .step (oN 51 (.load false 1 (.t 50))) ( .step (oN 52 (.mov (.t 0))) ( .step (oN 53 (.mov (.t 7))) ( .alt (oN 54 (.idx 1 (.t 52) (.t 53))) ( .step (oN 55 (.load false 1 (.t 54))) ( .step (oN 56 (.idx 1 (.t 42) (.t 43))) ( .alt ⟨none, .store 1 (.t 56) (.t 51),none⟩ ( .step (oN 57 (.idx 1 (.t 44) (.t 46))) ( .alt ⟨none, .store 1 (.t 57) (.t 55),none⟩ ( .done) ( .stop))) ( .stop)))) ( .stop)))))))))))))) [6,41,42,43,44,45,46,47,48,49,50,51,52,53,54,55,56,57]) (.seq (.seq (.region [ (oN 58 (.mov (.t 7))),(oN 59 (.mov (.t 1))),(oN 60 (.bin .sub (.t 58) (.t 59))),(oN 61 (.bin .geq (.t 60) (.c (.int .i64 2))))] [58,59,60]) (.cond (.t 61) (.seq (.region [ (oN 62 (.mov (.t 7))),(oN 63 (.bin .sub (.t 62) (.c (.int .i64 1)))),(oN 9 (.mov (.t 63)))] [61,62,63]) (.block 4 (.loop zar))) (.skip))) (zaw))))
def zS:ACode:=.region [ (oN 15 (.mov (.t 8))),(oN 16 (.bin .add (.t 15) (.c (.int .i64 1)))),(oN 8 (.mov (.t 16)))] [10,15,16,98]
def zay:ACode:=.seq (.seq (.region [ (oN 13 (.mov (.t 8))),(oN 14 (.bin .lss (.t 13) (.c (.int .i64 5))))] [13]) (.cond (.t 14) (.skip) (.exit 0))) (.seq (.block 1 (.seq (.block 2 (.loop zat)) (zR))) (zS))
def zao:ACode:=.seq (.region [ (oN 6 (.mov (.c (.bool false))))] [0,1,2,7,8]) (.ret)
def zaJ:ACode:=.seq (.region [ (oN 6 (.mov (.c (.bool false))))] [6]) (.seq (.region [ (oN 11 (.mov (.t 1))),(oN 12 (.bin .add (.t 11) (.c (.int .i64 1)))),(oN 7 (.mov (.t 12)))] [11,12]) (.seq (.seq (.region [ (oN 8 (.mov (.c (.int .i64 0))))] []) (.block 0 (.loop zay))) (zao)))
def zH:List ARet:=[.tmp 6]
theorem zcC:zac Try.prog zV (qRo [])=some (zaJ.strip,zH,133):=by kernel_rfl
def zgn:ACode:=.seq (.region [ (oN 4 (.mov (.c (.bool false))))] [4]) (.seq (.region [ (oN 5 (.mov (.t 0))),(oN 6 (.call zcZ [(.t 5)])),(oN 7 (.mov (.t 6))),(oG 8 7 true (.mov (.t 1))),(oG 9 7 true (.call zcZ [(.t 8)])),(oG 10 7 true (.un .not (.t 9))),(oN 11 (.pick (.t 7) (.t 10) (.c (.bool false)))),(oN 12 (.mov (.t 11))),(oG 13 12 false (.mov (.t 0))),(oG 14 12 false (.mov (.t 1))),(oG 15 12 false (.bin .lss (.t 13) (.t 14))),(oN 16 (.pick (.t 12) (.c (.bool true)) (.t 15))),(oN 4 (.mov (.t 16)))] [0,1,5,6,7,8,9,10,11,12,13,14,15,16]) (.ret))
def zgD:List ARet:=[.tmp 4]
theorem zjD:zac Try.prog zC (qRo [])=some (zgn.strip,zgD,17):=by kernel_rfl
def zaU:ACode:=.seq (.seq (.draw ( .step (oN 29 (.mov (.t 9))) ( .step (oN 30 (.mov (.t 10))) ( .step (oN 31 (.bin .leq (.t 29) (.t 30))) ( .step (oN 32 (.mov (.t 31))) ( .step (oG 33 32 true (.mov (.t 0))) ( .step (oG 34 32 true (.mov (.t 1))) ( .step (oG 35 32 true (.idx 1 (.t 33) (.t 34))) ( .step (oG 36 32 true (.load false 1 (.t 35))) ( .step (oG 37 32 true (.mov (.t 0))) ( .step (oG 38 32 true (.mov (.t 9))) ( .step (oG 39 32 true (.idx 1 (.t 37) (.t 38))) ( .step (oG 40 32 true (.load false 1 (.t 39))) ( .step (oG 41 32 true (.callq zC [(.t 36),(.t 40)])) ( .step (oG 42 32 true (.un .not (.t 41))) ( .step (oN 43 (.pick (.t 32) (.t 42) (.c (.bool false)))) ( .done)))))))))))))))) [29,30,31,32,33,34,35,36,37,38,39,40,41,42]) (.cond (.t 43) (.skip) (.exit 2))) (.block 3 (.region [ (oN 44 (.mov (.t 9))),(oN 45 (.bin .add (.t 44) (.c (.int .i64 1)))),(oN 9 (.mov (.t 45)))] [43,44,45]))
def zaR:ACode:=.seq (.seq (.draw ( .step (oN 46 (.mov (.t 9))) ( .step (oN 47 (.mov (.t 10))) ( .step (oN 48 (.bin .leq (.t 46) (.t 47))) ( .step (oN 49 (.mov (.t 48))) ( .step (oG 50 49 true (.mov (.t 0))) ( .step (oG 51 49 true (.mov (.t 1))) ( .step (oG 52 49 true (.idx 1 (.t 50) (.t 51))) ( .step (oG 53 49 true (.load false 1 (.t 52))) ( .step (oG 54 49 true (.mov (.t 0))) ( .step (oG 55 49 true (.mov (.t 10))) ( .step (oG 56 49 true (.idx 1 (.t 54) (.t 55))) ( .step (oG 57 49 true (.load false 1 (.t 56))) ( .step (oG 58 49 true (.callq zC [(.t 53),(.t 57)])) ( .step (oN 59 (.pick (.t 49) (.t 58) (.c (.bool false)))) ( .done))))))))))))))) [46,47,48,49,50,51,52,53,54,55,56,57,58]) (.cond (.t 59) (.skip) (.exit 4))) (.block 5 (.region [ (oN 60 (.mov (.t 10))),(oN 61 (.bin .sub (.t 60) (.c (.int .i64 1)))),(oN 10 (.mov (.t 61)))] [59,60,61]))
def zaW:ACode:=.seq (.seq (.region [ (oN 62 (.mov (.t 9))),(oN 63 (.mov (.t 10))),(oN 64 (.bin .gtr (.t 62) (.t 63)))] [62,63]) (.cond (.t 64) (.exit 0) (.skip))) (.seq (.draw ( .step (oN 65 (.mov (.t 0))) ( .step (oN 66 (.mov (.t 9))) ( .step (oN 67 (.mov (.t 0))) ( .step (oN 68 (.mov (.t 10))) ( .step (oN 69 (.mov (.t 0))) ( .step (oN 70 (.mov (.t 10))) ( .step (oN 71 (.idx 1 (.t 69) (.t 70))) ( .step (oN 72 (.load false 1 (.t 71))) ( .step (oN 73 (.mov (.t 0))) ( .step (oN 74 (.mov (.t 9))) ( .alt (oN 75 (.idx 1 (.t 73) (.t 74))) ( .step (oN 76 (.load false 1 (.t 75))) ( .step (oN 77 (.idx 1 (.t 65) (.t 66))) ( .alt ⟨none, .store 1 (.t 77) (.t 72),none⟩ ( .step (oN 78 (.idx 1 (.t 67) (.t 68))) ( .alt ⟨none, .store 1 (.t 78) (.t 76),none⟩ ( .done) ( .stop))) ( .stop)))) ( .stop)))))))))))) [64,65,66,67,68,69,70,71,72,73,74,75,76,77,78]) (.seq (.region [ (oN 79 (.mov (.t 9))),(oN 80 (.bin .add (.t 79) (.c (.int .i64 1)))),(oN 9 (.mov (.t 80)))] [79,80]) (.region [ (oN 81 (.mov (.t 10))),(oN 82 (.bin .sub (.t 81) (.c (.int .i64 1)))),(oN 10 (.mov (.t 82)))] [81,82])))
def zaT:ACode:=.seq (.block 4 (.loop zaR)) (zaW)
def zaV:ACode:=.block 1 (.seq (.block 2 (.loop zaU)) (zaT))
def zaS:ACode:=.seq (.region [ (oN 83 (.mov (.t 9))),(oN 8 (.mov (.t 83)))] [0,1,9,10,83]) (.ret)
def zbp:ACode:=.seq (.region [ (oN 8 (.mov (.c (.int .i64 0))))] [8]) (.seq (.draw ( .step (oN 11 (.mov (.t 0))) ( .step (oN 12 (.mov (.t 1))) ( .step (oN 13 (.mov (.t 0))) ( .step (oN 14 (.mov (.t 3))) ( .step (oN 15 (.mov (.t 0))) ( .step (oN 16 (.mov (.t 3))) ( .step (oN 17 (.idx 1 (.t 15) (.t 16))) ( .step (oN 18 (.load false 1 (.t 17))) ( .step (oN 19 (.mov (.t 0))) ( .step (oN 20 (.mov (.t 1))) ( .alt (oN 21 (.idx 1 (.t 19) (.t 20))) ( .step (oN 22 (.load false 1 (.t 21))) ( .step (oN 23 (.idx 1 (.t 11) (.t 12))) ( .alt ⟨none, .store 1 (.t 23) (.t 18),none⟩ ( .step (oN 24 (.idx 1 (.t 13) (.t 14))) ( .alt ⟨none, .store 1 (.t 24) (.t 22),none⟩ ( .done) ( .stop))) ( .stop)))) ( .stop)))))))))))) [3,11,12,13,14,15,16,17,18,19,20,21,22,23,24]) (.seq (.region [ (oN 25 (.mov (.t 1))),(oN 26 (.bin .add (.t 25) (.c (.int .i64 1)))),(oN 27 (.mov (.t 2))),(oN 28 (.bin .sub (.t 27) (.c (.int .i64 1)))),(oN 9 (.mov (.t 26))),(oN 10 (.mov (.t 28)))] [2,25,26,27,28]) (.seq (.block 0 (.loop zaV)) (zaS))))
def zbn:List ARet:=[.tmp 8]
theorem zdw:zac Try.prog zai (qRo [])=some (zbp.strip,zbn,84):=by kernel_rfl
def zbE:ACode:=.seq (.seq (.draw ( .step (oN 30 (.mov (.t 10))) ( .step (oN 31 (.mov (.t 11))) ( .step (oN 32 (.bin .leq (.t 30) (.t 31))) ( .step (oN 33 (.mov (.t 32))) ( .step (oG 34 33 true (.mov (.t 0))) ( .step (oG 35 33 true (.mov (.t 10))) ( .step (oG 36 33 true (.idx 1 (.t 34) (.t 35))) ( .step (oG 37 33 true (.load false 1 (.t 36))) ( .step (oG 38 33 true (.mov (.t 0))) ( .step (oG 39 33 true (.mov (.t 1))) ( .step (oG 40 33 true (.idx 1 (.t 38) (.t 39))) ( .step (oG 41 33 true (.load false 1 (.t 40))) ( .step (oG 42 33 true (.callq zC [(.t 37),(.t 41)])) ( .step (oN 43 (.pick (.t 33) (.t 42) (.c (.bool false)))) ( .done))))))))))))))) [30,31,32,33,34,35,36,37,38,39,40,41,42]) (.cond (.t 43) (.skip) (.exit 0))) (.block 1 (.region [ (oN 44 (.mov (.t 10))),(oN 45 (.bin .add (.t 44) (.c (.int .i64 1)))),(oN 10 (.mov (.t 45)))] [43,44,45]))
def zbF:ACode:=.seq (.seq (.draw ( .step (oN 46 (.mov (.t 10))) ( .step (oN 47 (.mov (.t 11))) ( .step (oN 48 (.bin .leq (.t 46) (.t 47))) ( .step (oN 49 (.mov (.t 48))) ( .step (oG 50 49 true (.mov (.t 0))) ( .step (oG 51 49 true (.mov (.t 11))) ( .step (oG 52 49 true (.idx 1 (.t 50) (.t 51))) ( .step (oG 53 49 true (.load false 1 (.t 52))) ( .step (oG 54 49 true (.mov (.t 0))) ( .step (oG 55 49 true (.mov (.t 1))) ( .step (oG 56 49 true (.idx 1 (.t 54) (.t 55))) ( .step (oG 57 49 true (.load false 1 (.t 56))) ( .step (oG 58 49 true (.callq zC [(.t 53),(.t 57)])) ( .step (oG 59 49 true (.un .not (.t 58))) ( .step (oN 60 (.pick (.t 49) (.t 59) (.c (.bool false)))) ( .done)))))))))))))))) [46,47,48,49,50,51,52,53,54,55,56,57,58,59]) (.cond (.t 60) (.skip) (.exit 2))) (.block 3 (.region [ (oN 61 (.mov (.t 11))),(oN 62 (.bin .sub (.t 61) (.c (.int .i64 1)))),(oN 11 (.mov (.t 62)))] [60,61,62]))
def zbI:ACode:=.seq (.seq (.draw ( .step (oN 99 (.mov (.t 10))) ( .step (oN 100 (.mov (.t 11))) ( .step (oN 101 (.bin .leq (.t 99) (.t 100))) ( .step (oN 102 (.mov (.t 101))) ( .step (oG 103 102 true (.mov (.t 0))) ( .step (oG 104 102 true (.mov (.t 10))) ( .step (oG 105 102 true (.idx 1 (.t 103) (.t 104))) ( .step (oG 106 102 true (.load false 1 (.t 105))) ( .step (oG 107 102 true (.mov (.t 0))) ( .step (oG 108 102 true (.mov (.t 1))) ( .step (oG 109 102 true (.idx 1 (.t 107) (.t 108))) ( .step (oG 110 102 true (.load false 1 (.t 109))) ( .step (oG 111 102 true (.callq zC [(.t 106),(.t 110)])) ( .step (oN 112 (.pick (.t 102) (.t 111) (.c (.bool false)))) ( .done))))))))))))))) [99,100,101,102,103,104,105,106,107,108,109,110,111]) (.cond (.t 112) (.skip) (.exit 6))) (.block 7 (.region [ (oN 113 (.mov (.t 10))),(oN 114 (.bin .add (.t 113) (.c (.int .i64 1)))),(oN 10 (.mov (.t 114)))] [112,113,114]))
def zbH:ACode:=.seq (.seq (.draw ( .step (oN 115 (.mov (.t 10))) ( .step (oN 116 (.mov (.t 11))) ( .step (oN 117 (.bin .leq (.t 115) (.t 116))) ( .step (oN 118 (.mov (.t 117))) ( .step (oG 119 118 true (.mov (.t 0))) ( .step (oG 120 118 true (.mov (.t 11))) ( .step (oG 121 118 true (.idx 1 (.t 119) (.t 120))) ( .step (oG 122 118 true (.load false 1 (.t 121))) ( .step (oG 123 118 true (.mov (.t 0))) ( .step (oG 124 118 true (.mov (.t 1))) ( .step (oG 125 118 true (.idx 1 (.t 123) (.t 124))) ( .step (oG 126 118 true (.load false 1 (.t 125))) ( .step (oG 127 118 true (.callq zC [(.t 122),(.t 126)])) ( .step (oG 128 118 true (.un .not (.t 127))) ( .step (oN 129 (.pick (.t 118) (.t 128) (.c (.bool false)))) ( .done)))))))))))))))) [115,116,117,118,119,120,121,122,123,124,125,126,127,128]) (.cond (.t 129) (.skip) (.exit 8))) (.block 9 (.region [ (oN 130 (.mov (.t 11))),(oN 131 (.bin .sub (.t 130) (.c (.int .i64 1)))),(oN 11 (.mov (.t 131)))] [129,130,131]))
def zbD:ACode:=.seq (.seq (.region [ (oN 132 (.mov (.t 10))),(oN 133 (.mov (.t 11))),(oN 134 (.bin .gtr (.t 132) (.t 133)))] [132,133]) (.cond (.t 134) (.exit 4) (.skip))) (.seq (.draw ( .step (oN 135 (.mov (.t 0))) ( .step (oN 136 (.mov (.t 10))) ( .step (oN 137 (.mov (.t 0))) ( .step (oN 138 (.mov (.t 11))) ( .step (oN 139 (.mov (.t 0))) ( .step (oN 140 (.mov (.t 11))) ( .step (oN 141 (.idx 1 (.t 139) (.t 140))) ( .step (oN 142 (.load false 1 (.t 141))) ( .step (oN 143 (.mov (.t 0))) ( .step (oN 144 (.mov (.t 10))) ( .alt (oN 145 (.idx 1 (.t 143) (.t 144))) ( .step (oN 146 (.load false 1 (.t 145))) ( .step (oN 147 (.idx 1 (.t 135) (.t 136))) ( .alt ⟨none, .store 1 (.t 147) (.t 142),none⟩ ( .step (oN 148 (.idx 1 (.t 137) (.t 138))) ( .alt ⟨none, .store 1 (.t 148) (.t 146),none⟩ ( .done) ( .stop))) ( .stop)))) ( .stop)))))))))))) [134,135,136,137,138,139,140,141,142,143,144,145,146,147,148]) (.seq (.region [ (oN 149 (.mov (.t 10))),(oN 150 (.bin .add (.t 149) (.c (.int .i64 1)))),(oN 10 (.mov (.t 150)))] [149,150]) (.region [ (oN 151 (.mov (.t 11))),(oN 152 (.bin .sub (.t 151) (.c (.int .i64 1)))),(oN 11 (.mov (.t 152)))] [151,152])))
def zbL:ACode:=.seq (.block 8 (.loop zbH)) (zbD)
def zbJ:ACode:=.block 5 (.seq (.block 6 (.loop zbI)) (zbL))
def zbC:ACode:=.seq (.draw ( .step (oN 153 (.mov (.t 0))) ( .step (oN 154 (.mov (.t 11))) ( .step (oN 155 (.mov (.t 0))) ( .step (oN 156 (.mov (.t 1))) ( .step (oN 157 (.mov (.t 0))) ( .step (oN 158 (.mov (.t 1))) ( .step (oN 159 (.idx 1 (.t 157) (.t 158))) ( .step (oN 160 (.load false 1 (.t 159))) ( .step (oN 161 (.mov (.t 0))) ( .step (oN 162 (.mov (.t 11))) ( .alt (oN 163 (.idx 1 (.t 161) (.t 162))) ( .step (oN 164 (.load false 1 (.t 163))) ( .step (oN 165 (.idx 1 (.t 153) (.t 154))) ( .alt ⟨none, .store 1 (.t 165) (.t 160),none⟩ ( .step (oN 166 (.idx 1 (.t 155) (.t 156))) ( .alt ⟨none, .store 1 (.t 166) (.t 164),none⟩ ( .done) ( .stop))) ( .stop)))) ( .stop)))))))))))) [0,1,10,153,154,155,156,157,158,159,160,161,162,163,164,165,166]) (.seq (.region [ (oN 167 (.mov (.t 11))),(oN 8 (.mov (.t 167))),(oN 9 (.mov (.c (.bool false))))] [11,167]) (.ret))
def zbG:ACode:=.seq (.seq (.region [ (oN 63 (.mov (.t 10))),(oN 64 (.mov (.t 11))),(oN 65 (.bin .gtr (.t 63) (.t 64)))] [63,64]) (.cond (.t 65) (.seq (.draw ( .step (oN 66 (.mov (.t 0))) ( .step (oN 67 (.mov (.t 11))) ( .step (oN 68 (.mov (.t 0))) ( .step (oN 69 (.mov (.t 1))) ( .step (oN 70 (.mov (.t 0))) ( .step (oN 71 (.mov (.t 1))) ( .step (oN 72 (.idx 1 (.t 70) (.t 71))) ( .step (oN 73 (.load false 1 (.t 72))) ( .step (oN 74 (.mov (.t 0))) ( .step (oN 75 (.mov (.t 11))) ( .alt (oN 76 (.idx 1 (.t 74) (.t 75))) ( .step (oN 77 (.load false 1 (.t 76))) ( .step (oN 78 (.idx 1 (.t 66) (.t 67))) ( .alt ⟨none, .store 1 (.t 78) (.t 73),none⟩ ( .step (oN 79 (.idx 1 (.t 68) (.t 69))) ( .alt ⟨none, .store 1 (.t 79) (.t 77),none⟩ ( .done) ( .stop))) ( .stop)))) ( .stop)))))))))))) [0,1,10,65,66,67,68,69,70,71,72,73,74,75,76,77,78,79]) (.seq (.region [ (oN 80 (.mov (.t 11))),(oN 8 (.mov (.t 80))),(oN 9 (.mov (.c (.bool true))))] [11,80]) (.ret))) (.skip))) (.seq (.draw ( .step (oN 81 (.mov (.t 0))) ( .step (oN 82 (.mov (.t 10))) ( .step (oN 83 (.mov (.t 0))) ( .step (oN 84 (.mov (.t 11))) ( .step (oN 85 (.mov (.t 0))) ( .step (oN 86 (.mov (.t 11))) ( .step (oN 87 (.idx 1 (.t 85) (.t 86))) ( .step (oN 88 (.load false 1 (.t 87))) ( .step (oN 89 (.mov (.t 0))) ( .step (oN 90 (.mov (.t 10))) ( .alt (oN 91 (.idx 1 (.t 89) (.t 90))) ( .step (oN 92 (.load false 1 (.t 91))) ( .step (oN 93 (.idx 1 (.t 81) (.t 82))) ( .alt ⟨none, .store 1 (.t 93) (.t 88),none⟩ ( .step (oN 94 (.idx 1 (.t 83) (.t 84))) ( .alt ⟨none, .store 1 (.t 94) (.t 92),none⟩ ( .done) ( .stop))) ( .stop)))) ( .stop)))))))))))) [8,9,65,81,82,83,84,85,86,87,88,89,90,91,92,93,94]) (.seq (.region [ (oN 95 (.mov (.t 10))),(oN 96 (.bin .add (.t 95) (.c (.int .i64 1)))),(oN 10 (.mov (.t 96)))] [95,96]) (.seq (.region [ (oN 97 (.mov (.t 11))),(oN 98 (.bin .sub (.t 97) (.c (.int .i64 1)))),(oN 11 (.mov (.t 98)))] [97,98]) (.seq (.block 4 (.loop zbJ)) (zbC)))))
def zbK:ACode:=.seq (.block 2 (.loop zbF)) (zbG)
def zci:ACode:=.seq (.region [ (oN 8 (.mov (.c (.int .i64 0)))),(oN 9 (.mov (.c (.bool false))))] [8,9]) (.seq (.draw ( .step (oN 12 (.mov (.t 0))) ( .step (oN 13 (.mov (.t 1))) ( .step (oN 14 (.mov (.t 0))) ( .step (oN 15 (.mov (.t 3))) ( .step (oN 16 (.mov (.t 0))) ( .step (oN 17 (.mov (.t 3))) ( .step (oN 18 (.idx 1 (.t 16) (.t 17))) ( .step (oN 19 (.load false 1 (.t 18))) ( .step (oN 20 (.mov (.t 0))) ( .step (oN 21 (.mov (.t 1))) ( .alt (oN 22 (.idx 1 (.t 20) (.t 21))) ( .step (oN 23 (.load false 1 (.t 22))) ( .step (oN 24 (.idx 1 (.t 12) (.t 13))) ( .alt ⟨none, .store 1 (.t 24) (.t 19),none⟩ ( .step (oN 25 (.idx 1 (.t 14) (.t 15))) ( .alt ⟨none, .store 1 (.t 25) (.t 23),none⟩ ( .done) ( .stop))) ( .stop)))) ( .stop)))))))))))) [3,12,13,14,15,16,17,18,19,20,21,22,23,24,25]) (.seq (.region [ (oN 26 (.mov (.t 1))),(oN 27 (.bin .add (.t 26) (.c (.int .i64 1)))),(oN 28 (.mov (.t 2))),(oN 29 (.bin .sub (.t 28) (.c (.int .i64 1)))),(oN 10 (.mov (.t 27))),(oN 11 (.mov (.t 29)))] [2,26,27,28,29]) (.seq (.block 0 (.loop zbE)) (zbK))))
def zaK:List ARet:=[.tmp 8, .tmp 9]
theorem zeu:zac Try.prog zaP (qRo [])=some (zci.strip,zaK,168):=by kernel_rfl
def zgw:ACode:=.seq (.region [ (oN 2 (.mov (.c (.int .i64 0))))] []) (.seq (.seq (.region [ (oN 3 (.mov (.t 0))),(oN 4 (.bin .geq (.t 3) (.c (.int .u64 4294967296))))] [3]) (.cond (.t 4) (.seq (.region [ (oN 5 (.mov (.t 0))),(oN 6 (.bin .shr (.t 5) (.c (.int .u64 32)))),(oN 0 (.mov (.t 6)))] [2,4,5,6]) (.region [ (oN 2 (.mov (.c (.int .i64 32))))] [])) (.skip))) (.seq (.seq (.region [ (oN 7 (.mov (.t 0))),(oN 8 (.bin .geq (.t 7) (.c (.int .u64 65536))))] [4,7]) (.cond (.t 8) (.seq (.region [ (oN 9 (.mov (.t 0))),(oN 10 (.bin .shr (.t 9) (.c (.int .u64 16)))),(oN 0 (.mov (.t 10)))] [8,9,10]) (.region [ (oN 11 (.mov (.t 2))),(oN 12 (.bin .add (.t 11) (.c (.int .i64 16)))),(oN 2 (.mov (.t 12)))] [11,12])) (.skip))) (.seq (.seq (.region [ (oN 13 (.mov (.t 0))),(oN 14 (.bin .geq (.t 13) (.c (.int .u64 256))))] [8,13]) (.cond (.t 14) (.seq (.region [ (oN 15 (.mov (.t 0))),(oN 16 (.bin .shr (.t 15) (.c (.int .u64 8)))),(oN 0 (.mov (.t 16)))] [14,15,16]) (.region [ (oN 17 (.mov (.t 2))),(oN 18 (.bin .add (.t 17) (.c (.int .i64 8)))),(oN 2 (.mov (.t 18)))] [17,18])) (.skip))) (.seq (.region [ (oN 19 (.mov (.t 2))),(oN 20 (.mov (.t 0))),(oN 21 (.conv .u8 (.t 20))),(oN 22 (.xop .sidx [(.c (.str len8)),(.t 21)])),(oN 23 (.conv .i64 (.t 22))),(oN 24 (.bin .add (.t 19) (.t 23))),(oN 2 (.mov (.t 24)))] [0,14,19,20,21,22,23,24]) (.ret)))))
def zgs:List ARet:=[.tmp 2]
theorem zjU:zac Try.prog zdu (qRo [])=some (zgw.strip,zgs,25):=by kernel_rfl
def zbT:ACode:=.block 1 (.seq (.region [ (oN 11 (.mov (.t 8))),(oN 12 (.bin .mul (.c (.int .i64 2)) (.t 11))),(oN 13 (.bin .add (.t 12) (.c (.int .i64 1)))),(oN 9 (.mov (.t 13)))] [11,12,13]) (.seq (.seq (.region [ (oN 14 (.mov (.t 9))),(oN 15 (.mov (.t 2))),(oN 16 (.bin .geq (.t 14) (.t 15)))] [14,15]) (.cond (.t 16) (.exit 0) (.skip))) (.seq (.seq (.draw ( .step (oN 17 (.mov (.t 9))) ( .step (oN 18 (.bin .add (.t 17) (.c (.int .i64 1)))) ( .step (oN 19 (.mov (.t 2))) ( .step (oN 20 (.bin .lss (.t 18) (.t 19))) ( .step (oN 21 (.mov (.t 20))) ( .step (oG 22 21 true (.mov (.t 0))) ( .step (oG 23 21 true (.mov (.t 3))) ( .step (oG 24 21 true (.mov (.t 9))) ( .step (oG 25 21 true (.bin .add (.t 23) (.t 24))) ( .step (oG 26 21 true (.idx 1 (.t 22) (.t 25))) ( .step (oG 27 21 true (.load false 1 (.t 26))) ( .step (oG 28 21 true (.mov (.t 0))) ( .step (oG 29 21 true (.mov (.t 3))) ( .step (oG 30 21 true (.mov (.t 9))) ( .step (oG 31 21 true (.bin .add (.t 29) (.t 30))) ( .step (oG 32 21 true (.bin .add (.t 31) (.c (.int .i64 1)))) ( .step (oG 33 21 true (.idx 1 (.t 28) (.t 32))) ( .step (oG 34 21 true (.load false 1 (.t 33))) ( .step (oG 35 21 true (.callq zC [(.t 27),(.t 34)])) ( .step (oN 36 (.pick (.t 21) (.t 35) (.c (.bool false)))) ( .done))))))))))))))))))))) [16,17,18,19,20,21,22,23,24,25,26,27,28,29,30,31,32,33,34,35]) (.cond (.t 36) (.region [ (oN 37 (.mov (.t 9))),(oN 38 (.bin .add (.t 37) (.c (.int .i64 1)))),(oN 9 (.mov (.t 38)))] [36,37,38]) (.skip))) (.seq (.seq (.draw ( .step (oN 39 (.mov (.t 0))) ( .step (oN 40 (.mov (.t 3))) ( .step (oN 41 (.mov (.t 8))) ( .step (oN 42 (.bin .add (.t 40) (.t 41))) ( .step (oN 43 (.idx 1 (.t 39) (.t 42))) ( .step (oN 44 (.load false 1 (.t 43))) ( .step (oN 45 (.mov (.t 0))) ( .step (oN 46 (.mov (.t 3))) ( .step (oN 47 (.mov (.t 9))) ( .step (oN 48 (.bin .add (.t 46) (.t 47))) ( .step (oN 49 (.idx 1 (.t 45) (.t 48))) ( .step (oN 50 (.load false 1 (.t 49))) ( .step (oN 51 (.callq zC [(.t 44),(.t 50)])) ( .step (oN 52 (.un .not (.t 51))) ( .done))))))))))))))) [36,39,40,41,42,43,44,45,46,47,48,49,50,51]) (.cond (.t 52) (.ret) (.skip))) (.seq (.draw ( .step (oN 53 (.mov (.t 0))) ( .step (oN 54 (.mov (.t 3))) ( .step (oN 55 (.mov (.t 8))) ( .step (oN 56 (.bin .add (.t 54) (.t 55))) ( .step (oN 57 (.mov (.t 0))) ( .step (oN 58 (.mov (.t 3))) ( .step (oN 59 (.mov (.t 9))) ( .step (oN 60 (.bin .add (.t 58) (.t 59))) ( .step (oN 61 (.mov (.t 0))) ( .step (oN 62 (.mov (.t 3))) ( .step (oN 63 (.mov (.t 9))) ( .step (oN 64 (.bin .add (.t 62) (.t 63))) ( .step (oN 65 (.idx 1 (.t 61) (.t 64))) ( .step (oN 66 (.load false 1 (.t 65))) ( .step (oN 67 (.mov (.t 0))) ( .step (oN 68 (.mov (.t 3))) ( .step (oN 69 (.mov (.t 8))) ( .step (oN 70 (.bin .add (.t 68) (.t 69))) ( .alt (oN 71 (.idx 1 (.t 67) (.t 70))) ( .step (oN 72 (.load false 1 (.t 71))) ( .step (oN 73 (.idx 1 (.t 53) (.t 56))) ( .alt ⟨none, .store 1 (.t 73) (.t 66),none⟩ ( .step (oN 74 (.idx 1 (.t 57) (.t 60))) ( .alt ⟨none, .store 1 (.t 74) (.t 72),none⟩ ( .done) ( .stop))) ( .stop)))) ( .stop)))))))))))))))))))) [8,52,53,54,55,56,57,58,59,60,61,62,63,64,65,66,67,68,69,70,71,72,73,74]) (.region [ (oN 75 (.mov (.t 9))),(oN 8 (.mov (.t 75)))] [9,75]))))))
def zcr:ACode:=.seq (.region [ (oN 10 (.mov (.t 1))),(oN 8 (.mov (.t 10)))] [1,10]) (.block 0 (.loop zbT))
def zT:List ARet:=[]
theorem zez:zac Try.prog zJ (qRo [])=some (zcr.strip,zT,76):=by kernel_rfl
def zeb:ACode:=.seq (.region [ (oN 2 (.mov (.c (.int .u64 0))))] [2]) (.seq (.region [ (oN 3 (.mov (.t 0))),(oN 4 (.conv .u64 (.t 3))),(oN 5 (.call zdc [(.t 4)])),(oN 6 (.bin .shl (.c (.int .u64 1)) (.t 5))),(oN 2 (.mov (.t 6)))] [0,3,4,5,6]) (.ret))
def zee:List ARet:=[.tmp 2]
theorem zg7:zac Try.prog zcN (qRo [])=some (zeb.strip,zee,7):=by kernel_rfl
def zeo:ACode:=.seq (.region [ (oN 2 (.mov (.c (.int .u64 0))))] [2]) (.seq (.draw ( .step (oN 3 (.mov (.t 0))) ( .step (oN 4 (.xop .nilck [(.t 3)])) ( .step (oN 5 (.load false 1 (.t 4))) ( .step (oN 6 (.mov (.t 0))) ( .step (oN 7 (.xop .nilck [(.t 6)])) ( .step (oN 8 (.load false 1 (.t 7))) ( .step (oN 9 (.bin .shl (.t 8) (.c (.int .u64 13)))) ( .step (oN 10 (.bin .xor (.t 5) (.t 9))) ( .step (oN 11 (.xop .nilck [(.t 3)])) ( .alt ⟨none, .store 1 (.t 11) (.t 10),none⟩ ( .done) ( .stop))))))))))) [3,4,5,6,7,8,9,10,11]) (.seq (.draw ( .step (oN 12 (.mov (.t 0))) ( .step (oN 13 (.xop .nilck [(.t 12)])) ( .step (oN 14 (.load false 1 (.t 13))) ( .step (oN 15 (.mov (.t 0))) ( .step (oN 16 (.xop .nilck [(.t 15)])) ( .step (oN 17 (.load false 1 (.t 16))) ( .step (oN 18 (.bin .shr (.t 17) (.c (.int .u64 7)))) ( .step (oN 19 (.bin .xor (.t 14) (.t 18))) ( .step (oN 20 (.xop .nilck [(.t 12)])) ( .alt ⟨none, .store 1 (.t 20) (.t 19),none⟩ ( .done) ( .stop))))))))))) [12,13,14,15,16,17,18,19,20]) (.seq (.draw ( .step (oN 21 (.mov (.t 0))) ( .step (oN 22 (.xop .nilck [(.t 21)])) ( .step (oN 23 (.load false 1 (.t 22))) ( .step (oN 24 (.mov (.t 0))) ( .step (oN 25 (.xop .nilck [(.t 24)])) ( .step (oN 26 (.load false 1 (.t 25))) ( .step (oN 27 (.bin .shl (.t 26) (.c (.int .u64 17)))) ( .step (oN 28 (.bin .xor (.t 23) (.t 27))) ( .step (oN 29 (.xop .nilck [(.t 21)])) ( .alt ⟨none, .store 1 (.t 29) (.t 28),none⟩ ( .done) ( .stop))))))))))) [21,22,23,24,25,26,27,28,29]) (.seq (.region [ (oN 30 (.mov (.t 0))),(oN 31 (.xop .nilck [(.t 30)])),(oN 32 (.load false 1 (.t 31))),(oN 2 (.mov (.t 32)))] [0,30,31,32]) (.ret)))))
def zex:List ARet:=[.tmp 2]
theorem zhy:zac Try.prog zcV (qRo [])=some (zeo.strip,zex,33):=by kernel_rfl
def zbm:ACode:=.seq (.region [ (oN 6 (.mov (.c (.int .i64 0))))] [6]) (.seq (.region [ (oN 7 (.mov (.t 0))),(oN 8 (.mov (.t 1))),(oN 9 (.bin .sub (.t 8) (.c (.int .i64 1)))),(oN 10 (.mov (.t 1))),(oN 11 (.mov (.t 1))),(oN 12 (.bin .add (.t 11) (.c (.int .i64 1)))),(oN 13 (.mov (.t 2))),(oN 14 (.call zaC [(.t 7),(.t 9),(.t 10),(.t 12),(.t 13)])),(oN 6 (.mov (.t 14)))] [0,1,2,7,8,9,10,11,12,13,14]) (.ret))
def zbl:List ARet:=[.tmp 6]
theorem zdp:zac Try.prog zI (qRo [])=some (zbm.strip,zbl,15):=by kernel_rfl
def zcL:ACode:=.seq (.region [ (oN 10 (.mov (.c (.int .i64 0))))] [10]) (.seq (.region [ (oN 12 (.mov (.t 0))),(oN 13 (.mov (.t 1))),(oN 14 (.mov (.t 2))),(oN 15 (.mov (.t 4))),(oN 16 (.call zX [(.t 12),(.t 13),(.t 14),(.t 15)])),(oN 11 (.mov (.t 16))),(oN 17 (.ext 0 (.t 11))),(oN 18 (.ext 1 (.t 11))),(oN 1 (.mov (.t 17))),(oN 2 (.mov (.t 18)))] [11,12,13,14,15,16,17,18]) (.seq (.region [ (oN 20 (.mov (.t 0))),(oN 21 (.mov (.t 2))),(oN 22 (.mov (.t 3))),(oN 23 (.mov (.t 4))),(oN 24 (.call zX [(.t 20),(.t 21),(.t 22),(.t 23)])),(oN 19 (.mov (.t 24))),(oN 25 (.ext 0 (.t 19))),(oN 26 (.ext 1 (.t 19))),(oN 2 (.mov (.t 25))),(oN 3 (.mov (.t 26)))] [3,19,20,21,22,23,24,25,26]) (.seq (.region [ (oN 28 (.mov (.t 0))),(oN 29 (.mov (.t 1))),(oN 30 (.mov (.t 2))),(oN 31 (.mov (.t 4))),(oN 32 (.call zX [(.t 28),(.t 29),(.t 30),(.t 31)])),(oN 27 (.mov (.t 32))),(oN 33 (.ext 0 (.t 27))),(oN 34 (.ext 1 (.t 27))),(oN 1 (.mov (.t 33))),(oN 2 (.mov (.t 34)))] [0,1,4,27,28,29,30,31,32,33,34]) (.seq (.region [ (oN 35 (.mov (.t 2))),(oN 10 (.mov (.t 35)))] [2,35]) (.ret)))))
def zcD:List ARet:=[.tmp 10]
theorem ze5:zac Try.prog zaC (qRo [])=some (zcL.strip,zcD,36):=by kernel_rfl
def zfQ:ACode:=.seq (.region [ (oN 2 (.mov (.c (.bool false))))] [2]) (.seq (.region [ (oN 3 (.mov (.t 0))),(oN 4 (.mov (.t 0))),(oN 5 (.bin .neq (.t 3) (.t 4))),(oN 2 (.mov (.t 5)))] [0,3,4,5]) (.ret))
def zfR:List ARet:=[.tmp 2]
theorem zjh:zac Try.prog zcZ (qRo [])=some (zfQ.strip,zfR,6):=by kernel_rfl
def zcG:ACode:=.seq (.region [ (oN 8 (.mov (.c (.int .i64 0)))),(oN 9 (.mov (.c (.int .i64 0))))] [8,9]) (.seq (.seq (.draw ( .step (oN 10 (.mov (.t 0))) ( .step (oN 11 (.mov (.t 2))) ( .step (oN 12 (.idx 1 (.t 10) (.t 11))) ( .step (oN 13 (.load false 1 (.t 12))) ( .step (oN 14 (.mov (.t 0))) ( .step (oN 15 (.mov (.t 1))) ( .step (oN 16 (.idx 1 (.t 14) (.t 15))) ( .step (oN 17 (.load false 1 (.t 16))) ( .step (oN 18 (.callq zC [(.t 13),(.t 17)])) ( .done)))))))))) [0,10,11,12,13,14,15,16,17]) (.cond (.t 18) (.seq (.region [ (oN 19 (.mov (.t 3))),(oN 20 (.xop .nilck [(.t 19)])),(oN 21 (.load false 1 (.t 20))),(oN 22 (.bin .add (.t 21) (.c (.int .i64 1)))),(oN 23 (.xop .nilck [(.t 19)])),⟨none, .store 1 (.t 23) (.t 22),none⟩] [3,18,19,20,21,22,23]) (.seq (.region [ (oN 24 (.mov (.t 2))),(oN 25 (.mov (.t 1))),(oN 8 (.mov (.t 24))),(oN 9 (.mov (.t 25)))] [1,2,24,25]) (.ret))) (.skip))) (.seq (.region [ (oN 26 (.mov (.t 1))),(oN 27 (.mov (.t 2))),(oN 8 (.mov (.t 26))),(oN 9 (.mov (.t 27)))] [1,2,3,18,26,27]) (.ret)))
def zbh:List ARet:=[.tmp 8, .tmp 9]
theorem ze8:zac Try.prog zX (qRo [])=some (zcG.strip,zbh,28):=by kernel_rfl
end Go.Ab
namespace Go.Ab
open Go.RowKit Go.Proofs Go.Sort
theorem zwZ (x:Int):zE Try.prog zcZ [.int .u32 x] (·=.bool false):=by
 refine fn_x zjh rfl ?_
 unfold zfQ
 (repeat first | simp (disch:=try exact dis1) only [evD,Nat.reduceBEq,Nat.reduceAdd,Nat.reduceLeDiff,zfR,ne_eq,not_true_eq_false,decide_false] | with_reducible intro _ | ((with_reducible apply And.intro);omega))
 exact ⟨_, .bool _ _,rfl⟩
theorem zdC (x y:Int):zE Try.prog zC [.int .u32 x, .int .u32 y] (·=.bool (Sort.ltInt x y)):=by
 refine fn_x zjD rfl ?_
 unfold zgn
 (repeat first | simp (disch:=try exact dis1) only [evD,Nat.reduceBEq,Nat.reduceAdd,Nat.reduceLeDiff] | with_reducible intro _ | ((with_reducible apply And.intro);omega))
 refine zp (zm (zwZ x) rfl) ?_
 (repeat first | simp (disch:=try exact dis1) only [evD,Nat.reduceBEq,Nat.reduceAdd,Nat.reduceLeDiff,zgD] | with_reducible intro _ | ((with_reducible apply And.intro);omega))
 exact ⟨_, .bool _ _,rfl⟩
theorem zlv (d:Array Int) (g a b:Nat) (hab:a≤b) (hb:b≤d.size) (hs:d.size≤1000000) :
  zN Try.prog zU [.own 0 0 g 0 d.size, .int .i64 a, .int .i64 b] [(0, .row 1 (rW d) g)] 1
   (fun v H nx=>v=.tup []∧H=[(0, .row 1 (rW (insertionSort ltInt d a b)) g)]∧nx=1):=by
 refine z7 (fn_x zdE rfl ?_)
 unfold zbs
 have hB:=hBig
 (repeat first | simp (disch:=try exact dis1) only [evD,Nat.reduceBEq,Nat.reduceAdd,Nat.reduceLeDiff] | with_reducible intro _ | ((with_reducible apply And.intro);omega))
 refine zf (fun x:Nat × Array Int=>([(0, .own 0 0 g 0 d.size),(1, .int .i64 a),(2, .int .i64 b),(6, .int .i64 x.1)],[(0, .row 1 (rW x.2) g)])) 1
  (fun x=>a+1≤x.1∧x.1≤b+1∧x.2.size=d.size∧insOuter ltInt a b x.1 x.2=insertionSort ltInt d a b) (fun x=>b+1 - x.1) (a+1,d) ⟨Nat.le_refl _,by omega,rfl,rfl⟩ (Ent.tabB [(0,0,0)] [] rfl rfl rfl (by (try simp only [evWB,Nat.reduceBEq,Nat.reduceAdd,Nat.reduceSub,Nat.reduceLeDiff,Nat.reduceLT,implies_true])<;>exact fin2) (by (try simp only [evWB,Nat.reduceBEq,Nat.reduceAdd,Nat.reduceSub,Nat.reduceLeDiff,Nat.reduceLT,implies_true])<;>exact fin2)) ?_
 rintro ⟨i,e⟩ ⟨h1,h2,h3,h4⟩ wf
 simp only at h1 h2 h3 h4
 unfold zbd
 by_cases hi:i < b
 ·
  rw [insOuter_go ltInt a b i e hi] at h4
  (repeat first | simp (disch:=try exact dis1) only [evD,Nat.reduceBEq,Nat.reduceAdd,Nat.reduceLeDiff,dT] | with_reducible intro _ | ((with_reducible apply And.intro);omega))
  refine zf (fun x:Nat × Array Int=>([(0, .own 0 0 g 0 d.size),(1, .int .i64 a),(2, .int .i64 b),(6, .int .i64 i),(7, .int .i64 x.1)],[(0, .row 1 (rW x.2) g)])) 1
   (fun x=>a≤x.1∧x.1≤i∧x.2.size=d.size∧insInner ltInt a x.1 x.2=insInner ltInt a i e) (fun x=>x.1) (i,e) ⟨by omega,Nat.le_refl _,h3,rfl⟩ (Ent.tabB [(0,0,0)] [] rfl rfl rfl (by (try simp only [evWB,Nat.reduceBEq,Nat.reduceAdd,Nat.reduceSub,Nat.reduceLeDiff,Nat.reduceLT,implies_true])<;>exact fin2) (by (try simp only [evWB,Nat.reduceBEq,Nat.reduceAdd,Nat.reduceSub,Nat.reduceLeDiff,Nat.reduceLT,implies_true])<;>exact fin2)) ?_
  rintro ⟨j,f⟩ ⟨k1,k2,k3,k4⟩ wf2
  simp only at k1 k2 k3 k4
  unfold za5
  by_cases hj:a < j
  ·
   have e1:((j:Int) - 1).toNat=j - 1:=by omega
   have g1:=zaI (d:=f) (i:=j) (by omega)
   have g2:=zaI (d:=f) (i:=j - 1) (by omega)
   have hl:=zfn (d:=f)
   (repeat first | simp (disch:=try exact dis1) only [evD,Nat.reduceBEq,Nat.reduceAdd,Nat.reduceLeDiff,dT,dF,hl,k3,e1,g1,g2] | with_reducible intro _ | ((with_reducible apply And.intro);omega))
   refine zab (zm (zdC _ _) rfl) ?_
   cases hc:ltInt f[j]! f[j - 1]! with
   |
    true =>
    rw [insInner_go ltInt a j f hj hc] at k4
    (repeat first | simp (disch:=try exact dis1) only [evD,Nat.reduceBEq,Nat.reduceAdd,Nat.reduceLeDiff,dT,dF,hl,k3,e1,g1,g2,List.length_set] | with_reducible intro _ | ((with_reducible apply And.intro);omega))
    all_goals rw [zeE]
    all_goals exact ⟨(j - 1,swp f j (j - 1)),⟨by omega,by omega,by rw [zbz];exact k3,k4⟩,by omega,(Ent.tabB [(0,0,0)] [] rfl rfl rfl (by (try simp only [evWB,Nat.reduceBEq,Nat.reduceAdd,Nat.reduceSub,Nat.reduceLeDiff,Nat.reduceLT,implies_true])<;>exact fin2) (by (try simp only [evWB,Nat.reduceBEq,Nat.reduceAdd,Nat.reduceSub,Nat.reduceLeDiff,Nat.reduceLT,implies_true])<;>exact fin2))⟩
   |
    false =>
    rw [insInner_stop ltInt a j f (Or.inr hc)] at k4
    (repeat first | simp (disch:=try exact dis1) only [evD,Nat.reduceBEq,Nat.reduceAdd,Nat.reduceLeDiff,dT,dF] | with_reducible intro _ | ((with_reducible apply And.intro);omega))
    unfold zaa
    (repeat first | simp (disch:=try exact dis1) only [evD,Nat.reduceBEq,Nat.reduceAdd,Nat.reduceLeDiff,dT,dF] | with_reducible intro _ | ((with_reducible apply And.intro);omega))
    exact ⟨(i+1,f),⟨by omega,by omega,k3,by rw [k4];exact h4⟩,by omega,(Ent.tabB [(0,0,0)] [] rfl rfl rfl (by (try simp only [evWB,Nat.reduceBEq,Nat.reduceAdd,Nat.reduceSub,Nat.reduceLeDiff,Nat.reduceLT,implies_true])<;>exact fin2) (by (try simp only [evWB,Nat.reduceBEq,Nat.reduceAdd,Nat.reduceSub,Nat.reduceLeDiff,Nat.reduceLT,implies_true])<;>exact fin2))⟩
  ·
   rw [insInner_stop ltInt a j f (Or.inl (by omega))] at k4
   (repeat first | simp (disch:=try exact dis1) only [evD,Nat.reduceBEq,Nat.reduceAdd,Nat.reduceLeDiff,dT,dF] | with_reducible intro _ | ((with_reducible apply And.intro);omega))
   unfold zaa
   (repeat first | simp (disch:=try exact dis1) only [evD,Nat.reduceBEq,Nat.reduceAdd,Nat.reduceLeDiff,dT,dF] | with_reducible intro _ | ((with_reducible apply And.intro);omega))
   exact ⟨(i+1,f),⟨by omega,by omega,k3,by rw [k4];exact h4⟩,by omega,(Ent.tabB [(0,0,0)] [] rfl rfl rfl (by (try simp only [evWB,Nat.reduceBEq,Nat.reduceAdd,Nat.reduceSub,Nat.reduceLeDiff,Nat.reduceLT,implies_true])<;>exact fin2) (by (try simp only [evWB,Nat.reduceBEq,Nat.reduceAdd,Nat.reduceSub,Nat.reduceLeDiff,Nat.reduceLT,implies_true])<;>exact fin2))⟩
 ·
  rw [insOuter_stop ltInt a b i e hi] at h4
  (repeat first | simp (disch:=try exact dis1) only [evD,Nat.reduceBEq,Nat.reduceAdd,Nat.reduceLeDiff,dF,zbt] | with_reducible intro _ | ((with_reducible apply And.intro);omega))
  refine ⟨.tup [],[(0, .row 1 (rW (insertionSort ltInt d a b)) g)],1,?_,rfl,rfl,rfl⟩
  rw [← h4]
  exact (Ent.tabB [(0,0,0)] [] rfl rfl rfl (by (try simp only [evWB,Nat.reduceBEq,Nat.reduceAdd,Nat.reduceSub,Nat.reduceLeDiff,Nat.reduceLT,implies_true])<;>exact fin2) (by (try simp only [evWB,Nat.reduceBEq,Nat.reduceAdd,Nat.reduceSub,Nat.reduceLeDiff,Nat.reduceLT,implies_true])<;>exact fin2))
theorem zmj (d:Array Int) (g lo hi F:Nat) (hlo:lo≤hi) (hb:F+hi≤d.size) (hs:d.size≤1000000) :
  zN Try.prog zJ [.own 0 0 g 0 d.size, .int .i64 lo, .int .i64 hi, .int .i64 F] [(0, .row 1 (rW d) g)] 1
   (fun v H nx=>v=.tup []∧H=[(0, .row 1 (rW (siftDown ltInt hi F lo d)) g)]∧nx=1):=by
 refine z7 (fn_x zez rfl ?_)
 unfold zcr
 have hB:=hBig
 (repeat first | simp (disch:=try exact dis1) only [evD,Nat.reduceBEq,Nat.reduceAdd,Nat.reduceLeDiff] | with_reducible intro _ | ((with_reducible apply And.intro);omega))
 refine zf (fun x:Nat × Array Int=>([(0, .own 0 0 g 0 d.size),(2, .int .i64 hi),(3, .int .i64 F),(8, .int .i64 x.1)],[(0, .row 1 (rW x.2) g)])) 1
  (fun x=>x.1≤hi∧x.2.size=d.size∧siftDown ltInt hi F x.1 x.2=siftDown ltInt hi F lo d) (fun x=>hi - x.1) (lo,d) ⟨hlo,rfl,rfl⟩ (Ent.tabB [(0,0,0)] [] rfl rfl rfl (by (try simp only [evWB,Nat.reduceBEq,Nat.reduceAdd,Nat.reduceSub,Nat.reduceLeDiff,Nat.reduceLT,implies_true])<;>exact fin2) (by (try simp only [evWB,Nat.reduceBEq,Nat.reduceAdd,Nat.reduceSub,Nat.reduceLeDiff,Nat.reduceLT,implies_true])<;>exact fin2)) ?_
 rintro ⟨r,e⟩ ⟨h1,h3,h4⟩ wf
 simp only at h1 h3 h4
 have hl:=zfn (d:=e)
 have fin:siftDown ltInt hi F r e=e→zyo 1 (fun v H nx=>v=.tup []∧H=[(0, .row 1 (rW (siftDown ltInt hi F lo d)) g)]∧nx=1) (.tup []) [(0, .row 1 (rW e) g)] 1:=fun h=>by
  refine ⟨.tup [],[(0, .row 1 (rW (siftDown ltInt hi F lo d)) g)],1,?_,rfl,rfl,rfl⟩
  rw [← h4,h]
  exact (Ent.tabB [(0,0,0)] [] rfl rfl rfl (by (try simp only [evWB,Nat.reduceBEq,Nat.reduceAdd,Nat.reduceSub,Nat.reduceLeDiff,Nat.reduceLT,implies_true])<;>exact fin2) (by (try simp only [evWB,Nat.reduceBEq,Nat.reduceAdd,Nat.reduceSub,Nat.reduceLeDiff,Nat.reduceLT,implies_true])<;>exact fin2))
 unfold zbT
 by_cases h0:2 * r+1 < hi
 ·
  have g0:=zaI (d:=e) (i:=F+r) (by omega)
  have g1:=zaI (d:=e) (i:=F+(2 * r+1)) (by omega)
  have e0:((F:Int)+(r:Int)).toNat=F+r:=by omega
  have e1:((F:Int)+(2 * (r:Int)+1)).toNat=F+(2 * r+1):=by omega
  have e2:((F:Int)+(2 * (r:Int)+1+1)).toNat=F+(2 * r+2):=by omega
  have e3:((F:Int)+(2 * (r:Int)+1)+1).toNat=F+(2 * r+2):=by omega
  by_cases h5:2 * r+2 < hi
  ·
   have g2:=zaI (d:=e) (i:=F+(2 * r+2)) (by omega)
   (repeat first | simp (disch:=try exact dis1) only [evD,Nat.reduceBEq,Nat.reduceAdd,Nat.reduceLeDiff,dT,dF,hl,h3,e0,e1,e2,e3,g0,g1,g2] | with_reducible intro _ | ((with_reducible apply And.intro);omega))
   refine zab (zm (zdC _ _) rfl) ?_
   cases hc:ltInt e[F+(2 * r+1)]! e[F+(2 * r+2)]! with
   |
    true =>
    (repeat first | simp (disch:=try exact dis1) only [evD,Nat.reduceBEq,Nat.reduceAdd,Nat.reduceLeDiff,dT,dF,hl,h3,e0,e1,e2,e3,g0,g1,g2] | with_reducible intro _ | ((with_reducible apply And.intro);omega))
    refine zab (zm (zdC _ _) rfl) ?_
    cases hc2:ltInt e[F+r]! e[F+(2 * r+2)]! with
    |
     true =>
     rw [sd_right_go ltInt e h5 hc hc2] at h4
     (repeat first | simp (disch:=try exact dis1) only [evD,Nat.reduceBEq,Nat.reduceAdd,Nat.reduceLeDiff,dT,dF,hl,h3,e0,e1,e2,e3,g0,g1,g2,List.length_set] | with_reducible intro _ | ((with_reducible apply And.intro);omega))
     all_goals rw [zeE]
     all_goals exact ⟨(2 * r+2,swp e (F+r) (F+(2 * r+2))),⟨by omega,by rw [zbz];exact h3,h4⟩,by omega,(Ent.tabB [(0,0,0)] [] rfl rfl rfl (by (try simp only [evWB,Nat.reduceBEq,Nat.reduceAdd,Nat.reduceSub,Nat.reduceLeDiff,Nat.reduceLT,implies_true])<;>exact fin2) (by (try simp only [evWB,Nat.reduceBEq,Nat.reduceAdd,Nat.reduceSub,Nat.reduceLeDiff,Nat.reduceLT,implies_true])<;>exact fin2))⟩
    |
     false =>
     (repeat first | simp (disch:=try exact dis1) only [evD,Nat.reduceBEq,Nat.reduceAdd,Nat.reduceLeDiff,dT,dF,zT] | with_reducible intro _ | ((with_reducible apply And.intro);omega))
     exact fin (sd_right_stop ltInt e h5 hc hc2)
   |
    false =>
    (repeat first | simp (disch:=try exact dis1) only [evD,Nat.reduceBEq,Nat.reduceAdd,Nat.reduceLeDiff,dT,dF,hl,h3,e0,e1,e2,e3,g0,g1,g2] | with_reducible intro _ | ((with_reducible apply And.intro);omega))
    refine zab (zm (zdC _ _) rfl) ?_
    cases hc2:ltInt e[F+r]! e[F+(2 * r+1)]! with
    |
     true =>
     rw [sd_left_go ltInt e h0 (fun _=>hc) hc2] at h4
     (repeat first | simp (disch:=try exact dis1) only [evD,Nat.reduceBEq,Nat.reduceAdd,Nat.reduceLeDiff,dT,dF,hl,h3,e0,e1,e2,e3,g0,g1,g2,List.length_set] | with_reducible intro _ | ((with_reducible apply And.intro);omega))
     all_goals rw [zeE]
     all_goals exact ⟨(2 * r+1,swp e (F+r) (F+(2 * r+1))),⟨by omega,by rw [zbz];exact h3,h4⟩,by omega,(Ent.tabB [(0,0,0)] [] rfl rfl rfl (by (try simp only [evWB,Nat.reduceBEq,Nat.reduceAdd,Nat.reduceSub,Nat.reduceLeDiff,Nat.reduceLT,implies_true])<;>exact fin2) (by (try simp only [evWB,Nat.reduceBEq,Nat.reduceAdd,Nat.reduceSub,Nat.reduceLeDiff,Nat.reduceLT,implies_true])<;>exact fin2))⟩
    |
     false =>
     (repeat first | simp (disch:=try exact dis1) only [evD,Nat.reduceBEq,Nat.reduceAdd,Nat.reduceLeDiff,dT,dF,zT] | with_reducible intro _ | ((with_reducible apply And.intro);omega))
     exact fin (sd_left_stop ltInt e h0 (fun _=>hc) hc2)
  ·
   (repeat first | simp (disch:=try exact dis1) only [evD,Nat.reduceBEq,Nat.reduceAdd,Nat.reduceLeDiff,dT,dF,hl,h3,e0,e1,e2,e3,g0,g1] | with_reducible intro _ | ((with_reducible apply And.intro);omega))
   refine zab (zm (zdC _ _) rfl) ?_
   cases hc2:ltInt e[F+r]! e[F+(2 * r+1)]! with
   |
    true =>
    rw [sd_left_go ltInt e h0 (fun h=>absurd h h5) hc2] at h4
    (repeat first | simp (disch:=try exact dis1) only [evD,Nat.reduceBEq,Nat.reduceAdd,Nat.reduceLeDiff,dT,dF,hl,h3,e0,e1,e2,e3,g0,g1,List.length_set] | with_reducible intro _ | ((with_reducible apply And.intro);omega))
    all_goals rw [zeE]
    all_goals exact ⟨(2 * r+1,swp e (F+r) (F+(2 * r+1))),⟨by omega,by rw [zbz];exact h3,h4⟩,by omega,(Ent.tabB [(0,0,0)] [] rfl rfl rfl (by (try simp only [evWB,Nat.reduceBEq,Nat.reduceAdd,Nat.reduceSub,Nat.reduceLeDiff,Nat.reduceLT,implies_true])<;>exact fin2) (by (try simp only [evWB,Nat.reduceBEq,Nat.reduceAdd,Nat.reduceSub,Nat.reduceLeDiff,Nat.reduceLT,implies_true])<;>exact fin2))⟩
   |
    false =>
    (repeat first | simp (disch:=try exact dis1) only [evD,Nat.reduceBEq,Nat.reduceAdd,Nat.reduceLeDiff,dT,dF,zT] | with_reducible intro _ | ((with_reducible apply And.intro);omega))
    exact fin (sd_left_stop ltInt e h0 (fun h=>absurd h h5) hc2)
 ·
  (repeat first | simp (disch:=try exact dis1) only [evD,Nat.reduceBEq,Nat.reduceAdd,Nat.reduceLeDiff,dT,dF,zT] | with_reducible intro _ | ((with_reducible apply And.intro);omega))
  exact fin (sd_end ltInt e (by omega))
theorem zqP (d:Array Int) (g a b:Nat) (hab:a≤b) (hb:b≤d.size) (hs:d.size≤1000000) :
  zN Try.prog za2 [.own 0 0 g 0 d.size, .int .i64 a, .int .i64 b] [(0, .row 1 (rW d) g)] 1
   (fun v H nx=>v=.tup []∧H=[(0, .row 1 (rW (heapSort ltInt d a b)) g)]∧nx=1):=by
 refine z7 (fn_x zeC rfl ?_)
 unfold zcu
 have hB:=hBig
 have ecast:(b:Int) - (a:Int)=((b - a:Nat):Int):=by omega
 have hhalf:=half_start hab
 rw [ecast] at hhalf
 (repeat first | simp (disch:=try exact dis1) only [evD,Nat.reduceBEq,Nat.reduceAdd,Nat.reduceLeDiff,ecast,hhalf] | with_reducible intro _ | ((with_reducible apply And.intro);omega))
 refine zf (fun x:Nat × Array Int=>([(0, .own 0 0 g 0 d.size),(6, .int .i64 a),(7, .int .i64 0),(8, .int .i64 (b - a:Nat)),(9, .int .i64 ((x.1:Int) - 1))],[(0, .row 1 (rW x.2) g)])) 1
  (fun x=>x.1≤(b - a - 1) / 2+1∧x.2.size=d.size∧heapBuild ltInt (b - a) a x.1 x.2=heapBuild ltInt (b - a) a ((b - a - 1) / 2+1) d) (fun x=>x.1) ((b - a - 1) / 2+1,d) ⟨Nat.le_refl _,rfl,rfl⟩ (Ent.tabB [(0,0,0)] [] rfl rfl rfl (by (try simp only [evWB,Nat.reduceBEq,Nat.reduceAdd,Nat.reduceSub,Nat.reduceLeDiff,Nat.reduceLT,implies_true])<;>exact fin2) (by (try simp only [evWB,Nat.reduceBEq,Nat.reduceAdd,Nat.reduceSub,Nat.reduceLeDiff,Nat.reduceLT,implies_true])<;>exact fin2)) ?_
 rintro ⟨k,e⟩ ⟨h1,h3,h4⟩ wf
 simp only at h1 h3 h4
 unfold zbV
 have hl:=zfn (d:=e)
 cases k with
 |
  succ k =>
  have hsz:=size_siftDown ltInt (b - a) a (b - a) k e (by omega)
  have h5:zN Try.prog zJ [.own 0 0 g 0 e.size, .int .i64 k, .int .i64 (b - a:Nat), .int .i64 a] [(0, .row 1 (rW e) g)] 1
    (fun v H nx=>v=.tup []∧H=[(0, .row 1 (rW (siftDown ltInt (b - a) a k e)) g)]∧nx=1):=zmj e g k (b - a) a (by omega) (by omega) (by omega)
  rw [h3] at h5
  have ek:(((k+1:Nat):Int) - 1)=(k:Int):=by omega
  (repeat first | simp (disch:=try exact dis1) only [evD,Nat.reduceBEq,Nat.reduceAdd,Nat.reduceLeDiff,dT,dF,ek,hl,h3] | with_reducible intro _ | ((with_reducible apply And.intro);omega))
  refine zw [(0,0,0)] 1 _ (h5) rfl rfl fin9 fin9 ?_
  rintro v H nx ⟨rfl,rfl,rfl⟩
  (repeat first | simp (disch:=try exact dis1) only [evD,Nat.reduceBEq,Nat.reduceAdd,Nat.reduceLeDiff,dT,dF,zcX] | with_reducible intro _ | ((with_reducible apply And.intro);omega))
  exact ⟨(k,siftDown ltInt (b - a) a k e),⟨by simp only;omega,by simp only;omega,by simp only;rw [← h4];rfl⟩,by simp only;omega,(Ent.tabB [(0,0,0)] [] rfl rfl rfl (by (try simp only [evWB,Nat.reduceBEq,Nat.reduceAdd,Nat.reduceSub,Nat.reduceLeDiff,Nat.reduceLT,implies_true])<;>exact fin2) (by (try simp only [evWB,Nat.reduceBEq,Nat.reduceAdd,Nat.reduceSub,Nat.reduceLeDiff,Nat.reduceLT,implies_true])<;>exact fin2))⟩
 |
  zero =>
  (repeat first | simp (disch:=try exact dis1) only [evD,Nat.reduceBEq,Nat.reduceAdd,Nat.reduceLeDiff,dT,dF] | with_reducible intro _ | ((with_reducible apply And.intro);omega))
  unfold zbS
  (repeat first | simp (disch:=try exact dis1) only [evD,Nat.reduceBEq,Nat.reduceAdd,Nat.reduceLeDiff,dT,dF] | with_reducible intro _ | ((with_reducible apply And.intro);omega))
  refine zf (fun x:Nat × Array Int=>([(0, .own 0 0 g 0 d.size),(6, .int .i64 a),(7, .int .i64 0),(10, .int .i64 ((x.1:Int) - 1))],[(0, .row 1 (rW x.2) g)])) 1
   (fun x=>x.1≤b - a∧x.2.size=d.size∧heapPop ltInt a x.1 x.2=heapSort ltInt d a b) (fun x=>x.1) (b - a,e) ⟨Nat.le_refl _,h3,by simp only;rw [heapSort,← h4];rfl⟩ (Ent.tabB [(0,0,0)] [] rfl rfl rfl (by (try simp only [evWB,Nat.reduceBEq,Nat.reduceAdd,Nat.reduceSub,Nat.reduceLeDiff,Nat.reduceLT,implies_true])<;>exact fin2) (by (try simp only [evWB,Nat.reduceBEq,Nat.reduceAdd,Nat.reduceSub,Nat.reduceLeDiff,Nat.reduceLT,implies_true])<;>exact fin2)) ?_
  rintro ⟨k,f⟩ ⟨j1,j3,j4⟩ wf2
  simp only at j1 j3 j4
  unfold zbO
  have hl:=zfn (d:=f)
  cases k with
  |
   succ k =>
   have ek:(((k+1:Nat):Int) - 1)=(k:Int):=by omega
   have e0:((a:Int)+(k:Int)).toNat=a+k:=by omega
   have g0:=zaI (d:=f) (i:=a) (by omega)
   have g1:=zaI (d:=f) (i:=a+k) (by omega)
   have h5:zN Try.prog zJ [.own 0 0 g 0 (swp f a (a+k)).size, .int .i64 (0:Nat), .int .i64 k, .int .i64 a] [(0, .row 1 (rW (swp f a (a+k))) g)] 1
     (fun v H nx=>v=.tup []∧H=[(0, .row 1 (rW (siftDown ltInt k a 0 (swp f a (a+k)))) g)]∧nx=1):=zmj (swp f a (a+k)) g 0 k a (by omega) (by rw [zbz];omega) (by rw [zbz];omega)
   have hsz:=size_siftDown ltInt k a k 0 (swp f a (a+k)) (by omega)
   rw [zbz] at hsz
   rw [zbz,j3] at h5
   have h6:((0:Nat):Int)=0:=rfl
   rw [h6] at h5
   (repeat first | simp (disch:=try exact dis1) only [evD,Nat.reduceBEq,Nat.reduceAdd,Nat.reduceLeDiff,dT,dF,ek,hl,j3,e0,g0,g1,List.length_set] | with_reducible intro _ | ((with_reducible apply And.intro);omega))
   all_goals rw [zeE]
   all_goals refine zw [(0,0,0)] 1 _ (h5) rfl rfl fin9 fin9 ?_
   all_goals rintro v H nx ⟨rfl,rfl,rfl⟩
   all_goals (repeat first | simp (disch:=try exact dis1) only [evD,Nat.reduceBEq,Nat.reduceAdd,Nat.reduceLeDiff,dT,dF,zcX] | with_reducible intro _ | ((with_reducible apply And.intro);omega))
   all_goals exact ⟨(k,siftDown ltInt k a 0 (swp f a (a+k))),⟨by simp only;omega,by simp only;omega,by simp only;rw [← j4];rfl⟩,by simp only;omega,(Ent.tabB [(0,0,0)] [] rfl rfl rfl (by (try simp only [evWB,Nat.reduceBEq,Nat.reduceAdd,Nat.reduceSub,Nat.reduceLeDiff,Nat.reduceLT,implies_true])<;>exact fin2) (by (try simp only [evWB,Nat.reduceBEq,Nat.reduceAdd,Nat.reduceSub,Nat.reduceLeDiff,Nat.reduceLT,implies_true])<;>exact fin2))⟩
  |
   zero =>
   (repeat first | simp (disch:=try exact dis1) only [evD,Nat.reduceBEq,Nat.reduceAdd,Nat.reduceLeDiff,dT,dF,zcs] | with_reducible intro _ | ((with_reducible apply And.intro);omega))
   refine ⟨.tup [],[(0, .row 1 (rW (heapSort ltInt d a b)) g)],1,?_,rfl,rfl,rfl⟩
   rw [← j4]
   exact (Ent.tabB [(0,0,0)] [] rfl rfl rfl (by (try simp only [evWB,Nat.reduceBEq,Nat.reduceAdd,Nat.reduceSub,Nat.reduceLeDiff,Nat.reduceLT,implies_true])<;>exact fin2) (by (try simp only [evWB,Nat.reduceBEq,Nat.reduceAdd,Nat.reduceSub,Nat.reduceLeDiff,Nat.reduceLT,implies_true])<;>exact fin2))
theorem zmI (d:Array Int) (g a b:Nat) (hab:a < b) (hb:b≤d.size) (hs:d.size≤1000000) :
  zN Try.prog zaE [.own 0 0 g 0 d.size, .int .i64 a, .int .i64 b] [(0, .row 1 (rW d) g)] 1
   (fun v H nx=>v=.tup []∧H=[(0, .row 1 (rW (reverseRange d a b)) g)]∧nx=1):=by
 refine z7 (fn_x zdP rfl ?_)
 unfold zbB
 have hB:=hBig
 (repeat first | simp (disch:=try exact dis1) only [evD,Nat.reduceBEq,Nat.reduceAdd,Nat.reduceLeDiff] | with_reducible intro _ | ((with_reducible apply And.intro);omega))
 have eb:(b:Int) - 1=((b - 1:Nat):Int):=by omega
 rw [eb]
 refine zf (fun x:Nat × Nat × Array Int=>([(0, .own 0 0 g 0 d.size),(6, .int .i64 x.1),(7, .int .i64 x.2.1)],[(0, .row 1 (rW x.2.2) g)])) 1
  (fun x=>x.1≤x.2.1+1∧x.2.1 < b∧x.2.2.size=d.size∧reverseLoop x.1 x.2.1 x.2.2=reverseRange d a b) (fun x=>x.2.1) (a,b - 1,d) ⟨by simp only;omega,by simp only;omega,rfl,rfl⟩ (Ent.tabB [(0,0,0)] [] rfl rfl rfl (by (try simp only [evWB,Nat.reduceBEq,Nat.reduceAdd,Nat.reduceSub,Nat.reduceLeDiff,Nat.reduceLT,implies_true])<;>exact fin2) (by (try simp only [evWB,Nat.reduceBEq,Nat.reduceAdd,Nat.reduceSub,Nat.reduceLeDiff,Nat.reduceLT,implies_true])<;>exact fin2)) ?_
 rintro ⟨i,j,e⟩ ⟨h1,h2,h3,h4⟩ wf
 simp only at h1 h2 h3 h4
 unfold zbj
 have hl:=zfn (d:=e)
 by_cases hij:i < j
 ·
  rw [reverseLoop,if_pos hij] at h4
  have g0:=zaI (d:=e) (i:=i) (by omega)
  have g1:=zaI (d:=e) (i:=j) (by omega)
  (repeat first | simp (disch:=try exact dis1) only [evD,Nat.reduceBEq,Nat.reduceAdd,Nat.reduceLeDiff,dT,dF,hl,h3,g0,g1,List.length_set] | with_reducible intro _ | ((with_reducible apply And.intro);omega))
  all_goals rw [zeE]
  all_goals exact ⟨(i+1,j - 1,swp e i j),⟨by simp only;omega,by simp only;omega,by simp only;rw [zbz];exact h3,h4⟩,by simp only;omega,(Ent.tabB [(0,0,0)] [] rfl rfl rfl (by (try simp only [evWB,Nat.reduceBEq,Nat.reduceAdd,Nat.reduceSub,Nat.reduceLeDiff,Nat.reduceLT,implies_true])<;>exact fin2) (by (try simp only [evWB,Nat.reduceBEq,Nat.reduceAdd,Nat.reduceSub,Nat.reduceLeDiff,Nat.reduceLT,implies_true])<;>exact fin2))⟩
 ·
  rw [reverseLoop,if_neg hij] at h4
  (repeat first | simp (disch:=try exact dis1) only [evD,Nat.reduceBEq,Nat.reduceAdd,Nat.reduceLeDiff,dT,dF,zbM] | with_reducible intro _ | ((with_reducible apply And.intro);omega))
  refine ⟨.tup [],[(0, .row 1 (rW (reverseRange d a b)) g)],1,?_,rfl,rfl,rfl⟩
  rw [← h4]
  exact (Ent.tabB [(0,0,0)] [] rfl rfl rfl (by (try simp only [evWB,Nat.reduceBEq,Nat.reduceAdd,Nat.reduceSub,Nat.reduceLeDiff,Nat.reduceLT,implies_true])<;>exact fin2) (by (try simp only [evWB,Nat.reduceBEq,Nat.reduceAdd,Nat.reduceSub,Nat.reduceLeDiff,Nat.reduceLT,implies_true])<;>exact fin2))
theorem zkI (d:Array Int) (g a b pv:Nat) (hap:a≤pv) (hpb:pv < b) (hb:b≤d.size) (hs:d.size≤1000000) :
  zN Try.prog zai [.own 0 0 g 0 d.size, .int .i64 a, .int .i64 b, .int .i64 pv] [(0, .row 1 (rW d) g)] 1
   (fun v H nx=>v=.int .i64 (partitionEqual ltInt d a b pv).1∧H=[(0, .row 1 (rW (partitionEqual ltInt d a b pv).2) g)]∧nx=1):=by
 refine z7 (fn_x zdw rfl ?_)
 unfold zbp
 have hB:=hBig
 have hl:=zfn (d:=d)
 have g0:=zaI (d:=d) (i:=a) (by omega)
 have g1:=zaI (d:=d) (i:=pv) (by omega)
 (repeat first | simp (disch:=try exact dis1) only [evD,Nat.reduceBEq,Nat.reduceAdd,Nat.reduceLeDiff,dT,dF,hl,g0,g1,List.length_set] | with_reducible intro _ | ((with_reducible apply And.intro);omega))
 all_goals rw [zeE]
 have eb:(b:Int) - 1=((b - 1:Nat):Int):=by omega
 rw [eb]
 refine zf (fun x:Nat × Nat × Array Int=>([(0, .own 0 0 g 0 d.size),(1, .int .i64 a),(9, .int .i64 x.1),(10, .int .i64 x.2.1)],[(0, .row 1 (rW x.2.2) g)])) 1
  (fun x=>a < x.1∧x.1≤x.2.1+1∧x.2.1 < b∧x.2.2.size=d.size∧partEqLoop ltInt a x.1 x.2.1 x.2.2=partitionEqual ltInt d a b pv) (fun x=>x.2.1+1 - x.1) (a+1,b - 1,swp d a pv)
  ⟨by simp only;omega,by simp only;omega,by simp only;omega,zbz,rfl⟩ (Ent.tabB [(0,0,0)] [] rfl rfl rfl (by (try simp only [evWB,Nat.reduceBEq,Nat.reduceAdd,Nat.reduceSub,Nat.reduceLeDiff,Nat.reduceLT,implies_true])<;>exact fin2) (by (try simp only [evWB,Nat.reduceBEq,Nat.reduceAdd,Nat.reduceSub,Nat.reduceLeDiff,Nat.reduceLT,implies_true])<;>exact fin2)) ?_
 rintro ⟨i,j,e⟩ ⟨h1,h2,h3,h4,h5⟩ wf
 simp only at h1 h2 h3 h4 h5
 clear g0 g1 hl
 have hl:=zfn (d:=e)
 have ga:=zaI (d:=e) (i:=a) (by omega)
 unfold zaV
 (repeat first | simp (disch:=try exact dis1) only [evD,Nat.reduceBEq,Nat.reduceAdd,Nat.reduceLeDiff] | with_reducible intro _ | ((with_reducible apply And.intro);omega))
 refine zf (fun x:Nat=>([(0, .own 0 0 g 0 d.size),(1, .int .i64 a),(9, .int .i64 x),(10, .int .i64 j)],[(0, .row 1 (rW e) g)])) 1
  (fun x=>i≤x∧x≤j+1∧scanUp (fun x => !ltInt e[a]! x) e j x=scanUp (fun x => !ltInt e[a]! x) e j i) (fun x=>j+1 - x) i ⟨Nat.le_refl _,h2,rfl⟩ (Ent.tabB [(0,0,0)] [] rfl rfl rfl (by (try simp only [evWB,Nat.reduceBEq,Nat.reduceAdd,Nat.reduceSub,Nat.reduceLeDiff,Nat.reduceLT,implies_true])<;>exact fin2) (by (try simp only [evWB,Nat.reduceBEq,Nat.reduceAdd,Nat.reduceSub,Nat.reduceLeDiff,Nat.reduceLT,implies_true])<;>exact fin2)) ?_
 rintro i' ⟨k1,k2,k3⟩ wf2
 unfold zaU
 by_cases hle:i'≤j
 case' pos =>
  have gi:=zaI (d:=e) (i:=i') (by omega)
  (repeat first | simp (disch:=try exact dis1) only [evD,Nat.reduceBEq,Nat.reduceAdd,Nat.reduceLeDiff,dT,dF,hl,h4,ga,gi] | with_reducible intro _ | ((with_reducible apply And.intro);omega))
  refine zab (zm (zdC _ _) rfl) ?_
  cases hc:ltInt e[a]! e[i']!
  case false =>
   rw [scanUp_go (fun x => !ltInt e[a]! x) e j i' hle (by simp only [hc];rfl)] at k3
   (repeat first | simp (disch:=try exact dis1) only [evD,Nat.reduceBEq,Nat.reduceAdd,Nat.reduceLeDiff,dT,dF] | with_reducible intro _ | ((with_reducible apply And.intro);omega))
   exact ⟨i'+1,⟨by omega,by omega,k3⟩,by omega,(Ent.tabB [(0,0,0)] [] rfl rfl rfl (by (try simp only [evWB,Nat.reduceBEq,Nat.reduceAdd,Nat.reduceSub,Nat.reduceLeDiff,Nat.reduceLT,implies_true])<;>exact fin2) (by (try simp only [evWB,Nat.reduceBEq,Nat.reduceAdd,Nat.reduceSub,Nat.reduceLeDiff,Nat.reduceLT,implies_true])<;>exact fin2))⟩
  have hi2:i'=scanUp (fun x => !ltInt e[a]! x) e j i:=(scanUp_end (fun x => !ltInt e[a]! x) e j i' (Or.inr (by simp only [hc];rfl))).symm.trans k3
  clear hc gi
  (repeat first | simp (disch:=try exact dis1) only [evD,Nat.reduceBEq,Nat.reduceAdd,Nat.reduceLeDiff,dT,dF] | with_reducible intro _ | ((with_reducible apply And.intro);omega))
 case' neg =>
  have hi2:i'=scanUp (fun x => !ltInt e[a]! x) e j i:=(scanUp_end (fun x => !ltInt e[a]! x) e j i' (Or.inl hle)).symm.trans k3
  (repeat first | simp (disch:=try exact dis1) only [evD,Nat.reduceBEq,Nat.reduceAdd,Nat.reduceLeDiff,dT,dF] | with_reducible intro _ | ((with_reducible apply And.intro);omega))
 all_goals
  clear hle k3
  unfold zaT
  (repeat first | simp (disch:=try exact dis1) only [evD,Nat.reduceBEq,Nat.reduceAdd,Nat.reduceLeDiff] | with_reducible intro _ | ((with_reducible apply And.intro);omega))
  refine zf (fun x:Nat=>([(0, .own 0 0 g 0 d.size),(1, .int .i64 a),(9, .int .i64 i'),(10, .int .i64 x)],[(0, .row 1 (rW e) g)])) 1
   (fun x=>x≤j∧i'≤x+1∧scanDown (fun x=>ltInt e[a]! x) e i' x=scanDown (fun x=>ltInt e[a]! x) e i' j) (fun x=>x) j ⟨Nat.le_refl _,k2,rfl⟩ (Ent.tabB [(0,0,0)] [] rfl rfl rfl (by (try simp only [evWB,Nat.reduceBEq,Nat.reduceAdd,Nat.reduceSub,Nat.reduceLeDiff,Nat.reduceLT,implies_true])<;>exact fin2) (by (try simp only [evWB,Nat.reduceBEq,Nat.reduceAdd,Nat.reduceSub,Nat.reduceLeDiff,Nat.reduceLT,implies_true])<;>exact fin2)) ?_
  rintro j' ⟨m1,m2,m3⟩ wf3
  unfold zaR
  by_cases hle:i'≤j'
  case' pos =>
   have gj:=zaI (d:=e) (i:=j') (by omega)
   (repeat first | simp (disch:=try exact dis1) only [evD,Nat.reduceBEq,Nat.reduceAdd,Nat.reduceLeDiff,dT,dF,hl,h4,ga,gj] | with_reducible intro _ | ((with_reducible apply And.intro);omega))
   refine zab (zm (zdC _ _) rfl) ?_
   cases hc:ltInt e[a]! e[j']!
   case true =>
    rw [scanDown_go (fun x=>ltInt e[a]! x) e i' j' hle (by omega) hc] at m3
    (repeat first | simp (disch:=try exact dis1) only [evD,Nat.reduceBEq,Nat.reduceAdd,Nat.reduceLeDiff,dT,dF] | with_reducible intro _ | ((with_reducible apply And.intro);omega))
    exact ⟨j' - 1,⟨by omega,by omega,m3⟩,by omega,(Ent.tabB [(0,0,0)] [] rfl rfl rfl (by (try simp only [evWB,Nat.reduceBEq,Nat.reduceAdd,Nat.reduceSub,Nat.reduceLeDiff,Nat.reduceLT,implies_true])<;>exact fin2) (by (try simp only [evWB,Nat.reduceBEq,Nat.reduceAdd,Nat.reduceSub,Nat.reduceLeDiff,Nat.reduceLT,implies_true])<;>exact fin2))⟩
   have hj2:j'=scanDown (fun x=>ltInt e[a]! x) e i' j:=(scanDown_end (fun x=>ltInt e[a]! x) e i' j' (Or.inr hc)).symm.trans m3
   clear hc gj
   (repeat first | simp (disch:=try exact dis1) only [evD,Nat.reduceBEq,Nat.reduceAdd,Nat.reduceLeDiff,dT,dF] | with_reducible intro _ | ((with_reducible apply And.intro);omega))
  case' neg =>
   have hj2:j'=scanDown (fun x=>ltInt e[a]! x) e i' j:=(scanDown_end (fun x=>ltInt e[a]! x) e i' j' (Or.inl hle)).symm.trans m3
   (repeat first | simp (disch:=try exact dis1) only [evD,Nat.reduceBEq,Nat.reduceAdd,Nat.reduceLeDiff,dT,dF] | with_reducible intro _ | ((with_reducible apply And.intro);omega))
 all_goals
  clear hle m3
  unfold zaW
  by_cases hgt:j' < i'
  ·
   have hbr:=partEq_break ltInt a i j e hi2 hj2 hgt
   (repeat first | simp (disch:=try exact dis1) only [evD,Nat.reduceBEq,Nat.reduceAdd,Nat.reduceLeDiff,dT,dF] | with_reducible intro _ | ((with_reducible apply And.intro);omega))
   unfold zaS
   (repeat first | simp (disch:=try exact dis1) only [evD,Nat.reduceBEq,Nat.reduceAdd,Nat.reduceLeDiff,zbn] | with_reducible intro _ | ((with_reducible apply And.intro);omega))
   refine ⟨.int .i64 (partitionEqual ltInt d a b pv).1,[(0, .row 1 (rW (partitionEqual ltInt d a b pv).2) g)],1,?_,rfl,rfl,rfl⟩
   rw [← h5,hbr]
   exact (Ent.tabB [(0,0,0)] [] rfl rfl rfl (by (try simp only [evWB,Nat.reduceBEq,Nat.reduceAdd,Nat.reduceSub,Nat.reduceLeDiff,Nat.reduceLT,implies_true])<;>exact fin2) (by (try simp only [evWB,Nat.reduceBEq,Nat.reduceAdd,Nat.reduceSub,Nat.reduceLeDiff,Nat.reduceLT,implies_true])<;>exact fin2))
  ·
   have hlt:=scans_lt ltInt a i j e (by omega) hi2 hj2 (by omega)
   rw [partEq_go ltInt a i j e hi2 hj2 hgt] at h5
   have gi:=zaI (d:=e) (i:=i') (by omega)
   have gj:=zaI (d:=e) (i:=j') (by omega)
   (repeat first | simp (disch:=try exact dis1) only [evD,Nat.reduceBEq,Nat.reduceAdd,Nat.reduceLeDiff,dT,dF,hl,h4,gi,gj,List.length_set] | with_reducible intro _ | ((with_reducible apply And.intro);omega))
   all_goals rw [zeE]
   all_goals exact ⟨(i'+1,j' - 1,swp e i' j'),⟨by simp only;omega,by simp only;omega,by simp only;omega,by simp only;rw [zbz];exact h4,h5⟩,by simp only;omega,(Ent.tabB [(0,0,0)] [] rfl rfl rfl (by (try simp only [evWB,Nat.reduceBEq,Nat.reduceAdd,Nat.reduceSub,Nat.reduceLeDiff,Nat.reduceLT,implies_true])<;>exact fin2) (by (try simp only [evWB,Nat.reduceBEq,Nat.reduceAdd,Nat.reduceSub,Nat.reduceLeDiff,Nat.reduceLT,implies_true])<;>exact fin2))⟩
set_option maxHeartbeats 4000000 in
theorem zpm (d:Array Int) (g a b pv:Nat) (hap:a≤pv) (hpb:pv < b) (hb:b≤d.size) (hs:d.size≤1000000) :
  zN Try.prog zaP [.own 0 0 g 0 d.size, .int .i64 a, .int .i64 b, .int .i64 pv] [(0, .row 1 (rW d) g)] 1
   (fun v H nx=>v=.tup [.int .i64 (partition ltInt d a b pv).1, .bool (partition ltInt d a b pv).2.1]∧H=[(0, .row 1 (rW (partition ltInt d a b pv).2.2) g)]∧nx=1):=by
 refine z7 (fn_x zeu rfl ?_)
 unfold zci
 have hB:=hBig
 have hl:=zfn (d:=d)
 have g0:=zaI (d:=d) (i:=a) (by omega)
 have g1:=zaI (d:=d) (i:=pv) (by omega)
 (repeat first | simp (disch:=try exact dis1) only [evD,Nat.reduceBEq,Nat.reduceAdd,Nat.reduceLeDiff,dT,dF,hl,g0,g1,List.length_set] | with_reducible intro _ | ((with_reducible apply And.intro);omega))
 all_goals rw [zeE]
 have eb:(b:Int) - 1=((b - 1:Nat):Int):=by omega
 rw [eb]
 generalize he:swp d a pv=e
 have hes:e.size=d.size:=by rw [← he];exact zbz
 clear g0 g1 hl
 have hl:=zfn (d:=e)
 have ga:=zaI (d:=e) (i:=a) (by omega)
 refine zf (fun x:Nat=>([(0, .own 0 0 g 0 d.size),(1, .int .i64 a),(10, .int .i64 x),(11, .int .i64 (b - 1:Nat))],[(0, .row 1 (rW e) g)])) 1
  (fun x=>a+1≤x∧x≤b - 1+1∧scanUp (fun x=>ltInt x e[a]!) e (b - 1) x=scanUp (fun x=>ltInt x e[a]!) e (b - 1) (a+1)) (fun x=>b - 1+1 - x) (a+1) ⟨Nat.le_refl _,by omega,rfl⟩ (Ent.tabB [(0,0,0)] [] rfl rfl rfl (by (try simp only [evWB,Nat.reduceBEq,Nat.reduceAdd,Nat.reduceSub,Nat.reduceLeDiff,Nat.reduceLT,implies_true])<;>exact fin2) (by (try simp only [evWB,Nat.reduceBEq,Nat.reduceAdd,Nat.reduceSub,Nat.reduceLeDiff,Nat.reduceLT,implies_true])<;>exact fin2)) ?_
 rintro i' ⟨k1,k2,k3⟩ wf2
 unfold zbE
 by_cases hle:i'≤b - 1
 case' pos =>
  have gi:=zaI (d:=e) (i:=i') (by omega)
  (repeat first | simp (disch:=try exact dis1) only [evD,Nat.reduceBEq,Nat.reduceAdd,Nat.reduceLeDiff,dT,dF,hl,hes,ga,gi] | with_reducible intro _ | ((with_reducible apply And.intro);omega))
  refine zab (zm (zdC _ _) rfl) ?_
  cases hc:ltInt e[i']! e[a]!
  case true =>
   rw [scanUp_go (fun x=>ltInt x e[a]!) e (b - 1) i' hle hc] at k3
   (repeat first | simp (disch:=try exact dis1) only [evD,Nat.reduceBEq,Nat.reduceAdd,Nat.reduceLeDiff,dT,dF] | with_reducible intro _ | ((with_reducible apply And.intro);omega))
   exact ⟨i'+1,⟨by omega,by omega,k3⟩,by omega,(Ent.tabB [(0,0,0)] [] rfl rfl rfl (by (try simp only [evWB,Nat.reduceBEq,Nat.reduceAdd,Nat.reduceSub,Nat.reduceLeDiff,Nat.reduceLT,implies_true])<;>exact fin2) (by (try simp only [evWB,Nat.reduceBEq,Nat.reduceAdd,Nat.reduceSub,Nat.reduceLeDiff,Nat.reduceLT,implies_true])<;>exact fin2))⟩
  have hi2:i'=scanUp (fun x=>ltInt x e[a]!) e (b - 1) (a+1):=(scanUp_end (fun x=>ltInt x e[a]!) e (b - 1) i' (Or.inr hc)).symm.trans k3
  clear hc gi
  (repeat first | simp (disch:=try exact dis1) only [evD,Nat.reduceBEq,Nat.reduceAdd,Nat.reduceLeDiff,dT,dF] | with_reducible intro _ | ((with_reducible apply And.intro);omega))
 case' neg =>
  have hi2:i'=scanUp (fun x=>ltInt x e[a]!) e (b - 1) (a+1):=(scanUp_end (fun x=>ltInt x e[a]!) e (b - 1) i' (Or.inl hle)).symm.trans k3
  (repeat first | simp (disch:=try exact dis1) only [evD,Nat.reduceBEq,Nat.reduceAdd,Nat.reduceLeDiff,dT,dF] | with_reducible intro _ | ((with_reducible apply And.intro);omega))
 all_goals
  clear hle k3
  unfold zbK
  (repeat first | simp (disch:=try exact dis1) only [evD,Nat.reduceBEq,Nat.reduceAdd,Nat.reduceLeDiff] | with_reducible intro _ | ((with_reducible apply And.intro);omega))
  refine zf (fun x:Nat=>([(0, .own 0 0 g 0 d.size),(1, .int .i64 a),(10, .int .i64 i'),(11, .int .i64 x)],[(0, .row 1 (rW e) g)])) 1
   (fun x=>x≤b - 1∧i'≤x+1∧scanDown (fun x => !ltInt x e[a]!) e i' x=scanDown (fun x => !ltInt x e[a]!) e i' (b - 1)) (fun x=>x) (b - 1) ⟨Nat.le_refl _,k2,rfl⟩ (Ent.tabB [(0,0,0)] [] rfl rfl rfl (by (try simp only [evWB,Nat.reduceBEq,Nat.reduceAdd,Nat.reduceSub,Nat.reduceLeDiff,Nat.reduceLT,implies_true])<;>exact fin2) (by (try simp only [evWB,Nat.reduceBEq,Nat.reduceAdd,Nat.reduceSub,Nat.reduceLeDiff,Nat.reduceLT,implies_true])<;>exact fin2)) ?_
  rintro j' ⟨m1,m2,m3⟩ wf3
  unfold zbF
  by_cases hle:i'≤j'
  case' pos =>
   have gj:=zaI (d:=e) (i:=j') (by omega)
   (repeat first | simp (disch:=try exact dis1) only [evD,Nat.reduceBEq,Nat.reduceAdd,Nat.reduceLeDiff,dT,dF,hl,hes,ga,gj] | with_reducible intro _ | ((with_reducible apply And.intro);omega))
   refine zab (zm (zdC _ _) rfl) ?_
   cases hc:ltInt e[j']! e[a]!
   case false =>
    rw [scanDown_go (fun x => !ltInt x e[a]!) e i' j' hle (by omega) (by simp only [hc];rfl)] at m3
    (repeat first | simp (disch:=try exact dis1) only [evD,Nat.reduceBEq,Nat.reduceAdd,Nat.reduceLeDiff,dT,dF] | with_reducible intro _ | ((with_reducible apply And.intro);omega))
    exact ⟨j' - 1,⟨by omega,by omega,m3⟩,by omega,(Ent.tabB [(0,0,0)] [] rfl rfl rfl (by (try simp only [evWB,Nat.reduceBEq,Nat.reduceAdd,Nat.reduceSub,Nat.reduceLeDiff,Nat.reduceLT,implies_true])<;>exact fin2) (by (try simp only [evWB,Nat.reduceBEq,Nat.reduceAdd,Nat.reduceSub,Nat.reduceLeDiff,Nat.reduceLT,implies_true])<;>exact fin2))⟩
   have hj2:j'=scanDown (fun x => !ltInt x e[a]!) e i' (b - 1):=(scanDown_end (fun x => !ltInt x e[a]!) e i' j' (Or.inr (by simp only [hc];rfl))).symm.trans m3
   clear hc gj
   (repeat first | simp (disch:=try exact dis1) only [evD,Nat.reduceBEq,Nat.reduceAdd,Nat.reduceLeDiff,dT,dF] | with_reducible intro _ | ((with_reducible apply And.intro);omega))
  case' neg =>
   have hj2:j'=scanDown (fun x => !ltInt x e[a]!) e i' (b - 1):=(scanDown_end (fun x => !ltInt x e[a]!) e i' j' (Or.inl hle)).symm.trans m3
   (repeat first | simp (disch:=try exact dis1) only [evD,Nat.reduceBEq,Nat.reduceAdd,Nat.reduceLeDiff,dT,dF] | with_reducible intro _ | ((with_reducible apply And.intro);omega))
 all_goals
  clear hle m3 wf2 wf3
  unfold zbG
  have gj:=zaI (d:=e) (i:=j') (by omega)
  by_cases hgt:j' < i'
  ·
   have hbr:=part_first_break ltInt d a b pv rfl rfl he.symm hi2 hj2 hgt
   (repeat first | simp (disch:=try exact dis1) only [evD,Nat.reduceBEq,Nat.reduceAdd,Nat.reduceLeDiff,dT,dF,hl,hes,ga,gj,List.length_set,zaK] | with_reducible intro _ | ((with_reducible apply And.intro);omega))
   all_goals rw [zeE]
   all_goals rw [hbr]
   all_goals exact ⟨_,_,1,(Ent.tabB [(0,0,0)] [] rfl rfl rfl (by (try simp only [evWB,Nat.reduceBEq,Nat.reduceAdd,Nat.reduceSub,Nat.reduceLeDiff,Nat.reduceLT,implies_true])<;>exact fin2) (by (try simp only [evWB,Nat.reduceBEq,Nat.reduceAdd,Nat.reduceSub,Nat.reduceLeDiff,Nat.reduceLT,implies_true])<;>exact fin2)),rfl,rfl,rfl⟩
  have hlt:=part_scans_lt ltInt (a:=a) (a+1) (b - 1) e (by omega) hi2 hj2 (by omega)
  have hgo:=part_first_go ltInt d a b pv rfl rfl he.symm hi2 hj2 hgt
  have gi:=zaI (d:=e) (i:=i') (by omega)
  rw [hgo]
  (repeat first | simp (disch:=try exact dis1) only [evD,Nat.reduceBEq,Nat.reduceAdd,Nat.reduceLeDiff,dT,dF,hl,hes,gi,gj,List.length_set] | with_reducible intro _ | ((with_reducible apply And.intro);omega))
  all_goals rw [zeE]
  clear gi gj
  refine zf (fun x:Nat × Nat × Array Int=>([(0, .own 0 0 g 0 d.size),(1, .int .i64 a),(10, .int .i64 x.1),(11, .int .i64 x.2.1)],[(0, .row 1 (rW x.2.2) g)])) 1
   (fun x=>a < x.1∧x.1≤x.2.1+1∧x.2.1 < b∧x.2.2.size=d.size∧partLoop ltInt a x.1 x.2.1 x.2.2=partLoop ltInt a (i'+1) (j' - 1) (swp e i' j')) (fun x=>x.2.1+1 - x.1) (i'+1,j' - 1,swp e i' j')
   ⟨by simp only;omega,by simp only;omega,by simp only;omega,by simp only;rw [zbz];exact hes,rfl⟩ (Ent.tabB [(0,0,0)] [] rfl rfl rfl (by (try simp only [evWB,Nat.reduceBEq,Nat.reduceAdd,Nat.reduceSub,Nat.reduceLeDiff,Nat.reduceLT,implies_true])<;>exact fin2) (by (try simp only [evWB,Nat.reduceBEq,Nat.reduceAdd,Nat.reduceSub,Nat.reduceLeDiff,Nat.reduceLT,implies_true])<;>exact fin2)) ?_
  clear hgo hi2 hj2 hgt hlt m1 m2 k1 k2 ga hl hes he
  generalize partLoop ltInt a (i'+1) (j' - 1) (swp e i' j')=R
  clear i' j' e
  rintro ⟨i,j,e⟩ ⟨h1,h2,h3,h4,h5⟩ wf
  simp only at h1 h2 h3 h4 h5
  have hl:=zfn (d:=e)
  have ga:=zaI (d:=e) (i:=a) (by omega)
  unfold zbJ
  (repeat first | simp (disch:=try exact dis1) only [evD,Nat.reduceBEq,Nat.reduceAdd,Nat.reduceLeDiff] | with_reducible intro _ | ((with_reducible apply And.intro);omega))
  refine zf (fun x:Nat=>([(0, .own 0 0 g 0 d.size),(1, .int .i64 a),(10, .int .i64 x),(11, .int .i64 j)],[(0, .row 1 (rW e) g)])) 1
   (fun x=>i≤x∧x≤j+1∧scanUp (fun x=>ltInt x e[a]!) e j x=scanUp (fun x=>ltInt x e[a]!) e j i) (fun x=>j+1 - x) i ⟨Nat.le_refl _,h2,rfl⟩ (Ent.tabB [(0,0,0)] [] rfl rfl rfl (by (try simp only [evWB,Nat.reduceBEq,Nat.reduceAdd,Nat.reduceSub,Nat.reduceLeDiff,Nat.reduceLT,implies_true])<;>exact fin2) (by (try simp only [evWB,Nat.reduceBEq,Nat.reduceAdd,Nat.reduceSub,Nat.reduceLeDiff,Nat.reduceLT,implies_true])<;>exact fin2)) ?_
  rintro i' ⟨k1,k2,k3⟩ wf2
  unfold zbI
  by_cases hle:i'≤j
  case' pos =>
   have gi:=zaI (d:=e) (i:=i') (by omega)
   (repeat first | simp (disch:=try exact dis1) only [evD,Nat.reduceBEq,Nat.reduceAdd,Nat.reduceLeDiff,dT,dF,hl,h4,ga,gi] | with_reducible intro _ | ((with_reducible apply And.intro);omega))
   refine zab (zm (zdC _ _) rfl) ?_
   cases hc:ltInt e[i']! e[a]!
   case true =>
    rw [scanUp_go (fun x=>ltInt x e[a]!) e j i' hle hc] at k3
    (repeat first | simp (disch:=try exact dis1) only [evD,Nat.reduceBEq,Nat.reduceAdd,Nat.reduceLeDiff,dT,dF] | with_reducible intro _ | ((with_reducible apply And.intro);omega))
    exact ⟨i'+1,⟨by omega,by omega,k3⟩,by omega,(Ent.tabB [(0,0,0)] [] rfl rfl rfl (by (try simp only [evWB,Nat.reduceBEq,Nat.reduceAdd,Nat.reduceSub,Nat.reduceLeDiff,Nat.reduceLT,implies_true])<;>exact fin2) (by (try simp only [evWB,Nat.reduceBEq,Nat.reduceAdd,Nat.reduceSub,Nat.reduceLeDiff,Nat.reduceLT,implies_true])<;>exact fin2))⟩
   have hi2:i'=scanUp (fun x=>ltInt x e[a]!) e j i:=(scanUp_end (fun x=>ltInt x e[a]!) e j i' (Or.inr hc)).symm.trans k3
   clear hc gi
   (repeat first | simp (disch:=try exact dis1) only [evD,Nat.reduceBEq,Nat.reduceAdd,Nat.reduceLeDiff,dT,dF] | with_reducible intro _ | ((with_reducible apply And.intro);omega))
  case' neg =>
   have hi2:i'=scanUp (fun x=>ltInt x e[a]!) e j i:=(scanUp_end (fun x=>ltInt x e[a]!) e j i' (Or.inl hle)).symm.trans k3
   (repeat first | simp (disch:=try exact dis1) only [evD,Nat.reduceBEq,Nat.reduceAdd,Nat.reduceLeDiff,dT,dF] | with_reducible intro _ | ((with_reducible apply And.intro);omega))
 all_goals
  clear hle k3
  unfold zbL
  (repeat first | simp (disch:=try exact dis1) only [evD,Nat.reduceBEq,Nat.reduceAdd,Nat.reduceLeDiff] | with_reducible intro _ | ((with_reducible apply And.intro);omega))
  refine zf (fun x:Nat=>([(0, .own 0 0 g 0 d.size),(1, .int .i64 a),(10, .int .i64 i'),(11, .int .i64 x)],[(0, .row 1 (rW e) g)])) 1
   (fun x=>x≤j∧i'≤x+1∧scanDown (fun x => !ltInt x e[a]!) e i' x=scanDown (fun x => !ltInt x e[a]!) e i' j) (fun x=>x) j ⟨Nat.le_refl _,k2,rfl⟩ (Ent.tabB [(0,0,0)] [] rfl rfl rfl (by (try simp only [evWB,Nat.reduceBEq,Nat.reduceAdd,Nat.reduceSub,Nat.reduceLeDiff,Nat.reduceLT,implies_true])<;>exact fin2) (by (try simp only [evWB,Nat.reduceBEq,Nat.reduceAdd,Nat.reduceSub,Nat.reduceLeDiff,Nat.reduceLT,implies_true])<;>exact fin2)) ?_
  rintro j' ⟨m1,m2,m3⟩ wf3
  unfold zbH
  by_cases hle:i'≤j'
  case' pos =>
   have gj:=zaI (d:=e) (i:=j') (by omega)
   (repeat first | simp (disch:=try exact dis1) only [evD,Nat.reduceBEq,Nat.reduceAdd,Nat.reduceLeDiff,dT,dF,hl,h4,ga,gj] | with_reducible intro _ | ((with_reducible apply And.intro);omega))
   refine zab (zm (zdC _ _) rfl) ?_
   cases hc:ltInt e[j']! e[a]!
   case false =>
    rw [scanDown_go (fun x => !ltInt x e[a]!) e i' j' hle (by omega) (by simp only [hc];rfl)] at m3
    (repeat first | simp (disch:=try exact dis1) only [evD,Nat.reduceBEq,Nat.reduceAdd,Nat.reduceLeDiff,dT,dF] | with_reducible intro _ | ((with_reducible apply And.intro);omega))
    exact ⟨j' - 1,⟨by omega,by omega,m3⟩,by omega,(Ent.tabB [(0,0,0)] [] rfl rfl rfl (by (try simp only [evWB,Nat.reduceBEq,Nat.reduceAdd,Nat.reduceSub,Nat.reduceLeDiff,Nat.reduceLT,implies_true])<;>exact fin2) (by (try simp only [evWB,Nat.reduceBEq,Nat.reduceAdd,Nat.reduceSub,Nat.reduceLeDiff,Nat.reduceLT,implies_true])<;>exact fin2))⟩
   have hj2:j'=scanDown (fun x => !ltInt x e[a]!) e i' j:=(scanDown_end (fun x => !ltInt x e[a]!) e i' j' (Or.inr (by simp only [hc];rfl))).symm.trans m3
   clear hc gj
   (repeat first | simp (disch:=try exact dis1) only [evD,Nat.reduceBEq,Nat.reduceAdd,Nat.reduceLeDiff,dT,dF] | with_reducible intro _ | ((with_reducible apply And.intro);omega))
  case' neg =>
   have hj2:j'=scanDown (fun x => !ltInt x e[a]!) e i' j:=(scanDown_end (fun x => !ltInt x e[a]!) e i' j' (Or.inl hle)).symm.trans m3
   (repeat first | simp (disch:=try exact dis1) only [evD,Nat.reduceBEq,Nat.reduceAdd,Nat.reduceLeDiff,dT,dF] | with_reducible intro _ | ((with_reducible apply And.intro);omega))
 all_goals
  clear hle m3
  unfold zbD
  have gj:=zaI (d:=e) (i:=j') (by omega)
  by_cases hgt:j' < i'
  ·
   have hbr:=part_break ltInt a i j e hi2 hj2 hgt
   rw [hbr] at h5
   (repeat first | simp (disch:=try exact dis1) only [evD,Nat.reduceBEq,Nat.reduceAdd,Nat.reduceLeDiff,dT,dF] | with_reducible intro _ | ((with_reducible apply And.intro);omega))
   unfold zbC
   (repeat first | simp (disch:=try exact dis1) only [evD,Nat.reduceBEq,Nat.reduceAdd,Nat.reduceLeDiff,dT,dF,hl,h4,ga,gj,List.length_set,zaK] | with_reducible intro _ | ((with_reducible apply And.intro);omega))
   all_goals rw [zeE]
   all_goals rw [← h5]
   all_goals exact ⟨_,_,1,(Ent.tabB [(0,0,0)] [] rfl rfl rfl (by (try simp only [evWB,Nat.reduceBEq,Nat.reduceAdd,Nat.reduceSub,Nat.reduceLeDiff,Nat.reduceLT,implies_true])<;>exact fin2) (by (try simp only [evWB,Nat.reduceBEq,Nat.reduceAdd,Nat.reduceSub,Nat.reduceLeDiff,Nat.reduceLT,implies_true])<;>exact fin2)),rfl,rfl,rfl⟩
  ·
   have hlt:=part_scans_lt ltInt (a:=a) i j e (by omega) hi2 hj2 (by omega)
   rw [part_go ltInt a i j e hi2 hj2 hgt] at h5
   have gi:=zaI (d:=e) (i:=i') (by omega)
   (repeat first | simp (disch:=try exact dis1) only [evD,Nat.reduceBEq,Nat.reduceAdd,Nat.reduceLeDiff,dT,dF,hl,h4,gi,gj,List.length_set] | with_reducible intro _ | ((with_reducible apply And.intro);omega))
   all_goals rw [zeE]
   all_goals exact ⟨(i'+1,j' - 1,swp e i' j'),⟨by simp only;omega,by simp only;omega,by simp only;omega,by simp only;rw [zbz];exact h4,h5⟩,by simp only;omega,(Ent.tabB [(0,0,0)] [] rfl rfl rfl (by (try simp only [evWB,Nat.reduceBEq,Nat.reduceAdd,Nat.reduceSub,Nat.reduceLeDiff,Nat.reduceLT,implies_true])<;>exact fin2) (by (try simp only [evWB,Nat.reduceBEq,Nat.reduceAdd,Nat.reduceSub,Nat.reduceLeDiff,Nat.reduceLT,implies_true])<;>exact fin2))⟩
theorem zhr {ρ:Nat→Nat} {k:IntKind} {s:Int} {g:Nat}:AObj.ren ρ (.row 1 [[.int k s]] g)=.row 1 [[.int k s]] g:=by simp [AObj.ren,AV.ren]
def swH (d:Array Int) (g:Nat) (s:Nat):AH:=[(0, .row 1 (rW d) g),(1, .row 1 [[.int .i64 s]] 0)]
theorem zmH (d:Array Int) (g a b s:Nat) (ha:a < d.size) (hb:b < d.size) (hs:d.size≤1000000) (hs2:s≤1000) :
  zN Try.prog zX [.own 0 0 g 0 d.size, .int .i64 a, .int .i64 b, .ptr 1 0 0 0 0] (swH d g s) 2
   (fun v H nx=>∃ x y s':Nat,((x=a∧y=b)∨(x=b∧y=a))∧s'≤s+1∧v=.tup [.int .i64 x, .int .i64 y]∧H=swH d g s'∧nx=2):=by
 refine z7 (fn_x ze8 rfl ?_)
 unfold zcG swH
 have hB:=hBig
 have hl:=zfn (d:=d)
 have g0:=zaI (d:=d) (i:=a) (by omega)
 have g1:=zaI (d:=d) (i:=b) (by omega)
 (repeat first | simp (disch:=try exact dis1) only [evD,Nat.reduceBEq,Nat.reduceAdd,Nat.reduceLeDiff,dT,dF,hl,g0,g1] | with_reducible intro _ | ((with_reducible apply And.intro);omega))
 refine zab (zm (zdC _ _) rfl) ?_
 cases hc:ltInt d[b]! d[a]!
 ·
  (repeat first | simp (disch:=try exact dis1) only [evD,Nat.reduceBEq,Nat.reduceAdd,Nat.reduceLeDiff,dT,dF,zbh] | with_reducible intro _ | ((with_reducible apply And.intro);omega))
  exact ⟨_,_,2,(Ent.tabB [(0,0,0),(1,1,0)] [] rfl rfl rfl (by (try simp only [evWB,Nat.reduceBEq,Nat.reduceAdd,Nat.reduceSub,Nat.reduceLeDiff,Nat.reduceLT,implies_true])<;>exact fin2) (by (try simp only [evWB,Nat.reduceBEq,Nat.reduceAdd,Nat.reduceSub,Nat.reduceLeDiff,Nat.reduceLT,implies_true])<;>exact fin2)),a,b,s, .inl ⟨rfl,rfl⟩,by omega,rfl,rfl,rfl⟩
 ·
  (repeat first | simp (disch:=try exact dis1) only [evD,Nat.reduceBEq,Nat.reduceAdd,Nat.reduceLeDiff,dT,dF,zbh] | with_reducible intro _ | ((with_reducible apply And.intro);omega))
  have es:(s:Int)+1=((s+1:Nat):Int):=by omega
  rw [es]
  exact ⟨_,_,2,(Ent.tabB [(0,0,0),(1,1,0)] [] rfl rfl rfl (by (try simp only [evWB,Nat.reduceBEq,Nat.reduceAdd,Nat.reduceSub,Nat.reduceLeDiff,Nat.reduceLT,implies_true])<;>exact fin2) (by (try simp only [evWB,Nat.reduceBEq,Nat.reduceAdd,Nat.reduceSub,Nat.reduceLeDiff,Nat.reduceLT,implies_true])<;>exact fin2)),b,a,s+1, .inr ⟨rfl,rfl⟩,by omega,rfl,rfl,rfl⟩
theorem zmU (d:Array Int) (g a b c s:Nat) (ha:a < d.size) (hb:b < d.size) (hc:c < d.size) (hs:d.size≤1000000) (hs2:s≤900) :
  zN Try.prog zaC [.own 0 0 g 0 d.size, .int .i64 a, .int .i64 b, .int .i64 c, .ptr 1 0 0 0 0] (swH d g s) 2
   (fun v H nx=>∃ x s':Nat,(x=a∨x=b∨x=c)∧s'≤s+3∧v=.int .i64 x∧H=swH d g s'∧nx=2):=by
 refine z7 (fn_x ze5 rfl ?_)
 unfold zcL
 have hB:=hBig
 have h1:=zmH d g a b s ha hb hs (by omega)
 (repeat first | simp (disch:=try exact dis1) only [evD,Nat.reduceBEq,Nat.reduceAdd,Nat.reduceLeDiff,swH] | with_reducible intro _ | ((with_reducible apply And.intro);omega))
 refine zw [(0,0,0),(1,1,0)] 2 _ (h1) rfl rfl (by (try simp only [evWB,Nat.reduceBEq,Nat.reduceAdd,Nat.reduceSub,Nat.reduceLeDiff,Nat.reduceLT,implies_true,swH])<;>exact fin6) (by (try simp only [evWB,Nat.reduceBEq,Nat.reduceAdd,Nat.reduceSub,Nat.reduceLeDiff,Nat.reduceLT,implies_true,swH])<;>exact fin6) ?_
 rintro v H nx ⟨x,y,s1,hxy,hs1,rfl,rfl,rfl⟩
 have h2:=zmH d g y c s1 (by omega) hc hs (by omega)
 (repeat first | simp (disch:=try exact dis1) only [evD,Nat.reduceBEq,Nat.reduceAdd,Nat.reduceLeDiff,swH,zcX,zhr] | with_reducible intro _ | ((with_reducible apply And.intro);omega))
 refine zw [(0,0,0),(1,1,0)] 2 _ (h2) rfl rfl (by (try simp only [evWB,Nat.reduceBEq,Nat.reduceAdd,Nat.reduceSub,Nat.reduceLeDiff,Nat.reduceLT,implies_true,swH])<;>exact fin6) (by (try simp only [evWB,Nat.reduceBEq,Nat.reduceAdd,Nat.reduceSub,Nat.reduceLeDiff,Nat.reduceLT,implies_true,swH])<;>exact fin6) ?_
 rintro v H nx ⟨y2,z2,s2,hyz,hs2',rfl,rfl,rfl⟩
 have h3:=zmH d g x y2 s2 (by omega) (by omega) hs (by omega)
 (repeat first | simp (disch:=try exact dis1) only [evD,Nat.reduceBEq,Nat.reduceAdd,Nat.reduceLeDiff,swH,zcX,zhr] | with_reducible intro _ | ((with_reducible apply And.intro);omega))
 refine zw [(0,0,0),(1,1,0)] 2 _ (h3) rfl rfl (by (try simp only [evWB,Nat.reduceBEq,Nat.reduceAdd,Nat.reduceSub,Nat.reduceLeDiff,Nat.reduceLT,implies_true,swH])<;>exact fin6) (by (try simp only [evWB,Nat.reduceBEq,Nat.reduceAdd,Nat.reduceSub,Nat.reduceLeDiff,Nat.reduceLT,implies_true,swH])<;>exact fin6) ?_
 rintro v H nx ⟨x3,y3,s3,hxy3,hs3,rfl,rfl,rfl⟩
 (repeat first | simp (disch:=try exact dis1) only [evD,Nat.reduceBEq,Nat.reduceAdd,Nat.reduceLeDiff,swH,zcX,zhr,zcD] | with_reducible intro _ | ((with_reducible apply And.intro);omega))
 exact ⟨_,_,2,(Ent.tabB [(0,0,0),(1,1,0)] [] rfl rfl rfl (by (try simp only [evWB,Nat.reduceBEq,Nat.reduceAdd,Nat.reduceSub,Nat.reduceLeDiff,Nat.reduceLT,implies_true])<;>exact fin2) (by (try simp only [evWB,Nat.reduceBEq,Nat.reduceAdd,Nat.reduceSub,Nat.reduceLeDiff,Nat.reduceLT,implies_true])<;>exact fin2)),y3,s3,by omega,by omega,rfl,rfl,rfl⟩
theorem zeK (d:Array Int) (g a s:Nat) (ha:1≤a) (hb:a+1 < d.size) (hs:d.size≤1000000) (hs2:s≤900) :
  zN Try.prog zI [.own 0 0 g 0 d.size, .int .i64 a, .ptr 1 0 0 0 0] (swH d g s) 2
   (fun v H nx=>∃ x s':Nat,(a≤x+1∧x≤a+1)∧s'≤s+3∧v=.int .i64 x∧H=swH d g s'∧nx=2):=by
 refine z7 (fn_x zdp rfl ?_)
 unfold zbm
 have hB:=hBig
 have h1:=zmU d g (a - 1) a (a+1) s (by omega) (by omega) (by omega) hs hs2
 have e1:(a:Int) - 1=((a - 1:Nat):Int):=by omega
 have e2:(a:Int)+1=((a+1:Nat):Int):=by omega
 (repeat first | simp (disch:=try exact dis1) only [evD,Nat.reduceBEq,Nat.reduceAdd,Nat.reduceLeDiff,swH,e1,e2] | with_reducible intro _ | ((with_reducible apply And.intro);omega))
 refine zw [(0,0,0),(1,1,0)] 2 _ (h1) rfl rfl (by (try simp only [evWB,Nat.reduceBEq,Nat.reduceAdd,Nat.reduceSub,Nat.reduceLeDiff,Nat.reduceLT,implies_true,swH])<;>exact fin6) (by (try simp only [evWB,Nat.reduceBEq,Nat.reduceAdd,Nat.reduceSub,Nat.reduceLeDiff,Nat.reduceLT,implies_true,swH])<;>exact fin6) ?_
 rintro v H nx ⟨x,s1,hx,hs1,rfl,rfl,rfl⟩
 (repeat first | simp (disch:=try exact dis1) only [evD,Nat.reduceBEq,Nat.reduceAdd,Nat.reduceLeDiff,swH,zcX,zhr,zbl] | with_reducible intro _ | ((with_reducible apply And.intro);omega))
 exact ⟨_,_,2,(Ent.tabB [(0,0,0),(1,1,0)] [] rfl rfl rfl (by (try simp only [evWB,Nat.reduceBEq,Nat.reduceAdd,Nat.reduceSub,Nat.reduceLeDiff,Nat.reduceLT,implies_true])<;>exact fin2) (by (try simp only [evWB,Nat.reduceBEq,Nat.reduceAdd,Nat.reduceSub,Nat.reduceLeDiff,Nat.reduceLT,implies_true])<;>exact fin2)),x,s1,by omega,by omega,rfl,rfl,rfl⟩
set_option maxHeartbeats 1000000 in
theorem znd (d:Array Int) (g a b:Nat) (hab:a < b) (hb:b≤d.size) (hs:d.size≤1000000) :
  zN Try.prog zaH [.own 0 0 g 0 d.size, .int .i64 a, .int .i64 b] [(0, .row 1 (rW d) g)] 1
   (fun v H nx=>∃ p h:Nat,a≤p∧p < b∧h≤2∧v=.tup [.int .i64 p, .int .i64 h]∧H=[(0, .row 1 (rW d) g)]∧nx=1):=by
 refine z7 (fn_x zd7 rfl ?_)
 unfold zbU
 have hB:=hBig
 have ecast:(b:Int) - (a:Int)=((b - a:Nat):Int):=by omega
 have hq:((b - a:Nat):Int).tdiv 4=(((b - a) / 4:Nat):Int):=by rw [Int.tdiv_eq_ediv_of_nonneg (by omega)];omega
 have hq1:(b - a) / 4 * 4≤b - a:=Nat.div_mul_le_self _ _
 have hq2:8≤b - a→2≤(b - a) / 4:=fun h=>by omega
 generalize (b - a) / 4=q at hq hq1 hq2
 have e1:(a:Int)+(q:Int) * 1=((a+q:Nat):Int):=by omega
 have e2:(a:Int)+(q:Int) * 2=((a+q * 2:Nat):Int):=by omega
 have e3:(a:Int)+(q:Int) * 3=((a+q * 3:Nat):Int):=by omega
 rcases Nat.lt_or_ge (b - a) 8 with h8 | h8
 ·
  obtain ⟨p,hp,hpa,hpb⟩:∃ p,p=a+q * 2∧a≤p∧p < b:=⟨_,rfl,by omega,by omega⟩
  rw [← hp] at e2
  (repeat first | simp (disch:=try exact dis1) only [evD,Nat.reduceBEq,Nat.reduceAdd,Nat.reduceLeDiff,ecast,hq,e1,e2,e3,dT,dF,zL] | with_reducible intro _ | ((with_reducible apply And.intro);omega))
  exact ⟨_,_,1,(Ent.tabB [(0,0,0)] [] rfl rfl rfl (by (try simp only [evWB,Nat.reduceBEq,Nat.reduceAdd,Nat.reduceSub,Nat.reduceLeDiff,Nat.reduceLT,implies_true])<;>exact fin2) (by (try simp only [evWB,Nat.reduceBEq,Nat.reduceAdd,Nat.reduceSub,Nat.reduceLeDiff,Nat.reduceLT,implies_true])<;>exact fin2)),p,1,hpa,hpb,by omega,rfl,rfl,rfl⟩
 rcases Nat.lt_or_ge (b - a) 50 with h50 | h50
 case' inl =>
  have h1:=zmU d g (a+q) (a+q * 2) (a+q * 3) 0 (by omega) (by omega) (by omega) hs (by omega)
  (repeat first | simp (disch:=try exact dis1) only [evD,Nat.reduceBEq,Nat.reduceAdd,Nat.reduceLeDiff,ecast,hq,e1,e2,e3,dT,dF] | with_reducible intro _ | ((with_reducible apply And.intro);omega))
  refine zw [(0,0,0),(1,1,0)] 2 _ (h1) rfl rfl (by (try simp only [evWB,Nat.reduceBEq,Nat.reduceAdd,Nat.reduceSub,Nat.reduceLeDiff,Nat.reduceLT,implies_true,swH,Int.natCast_zero,Int.cast_ofNat_Int])<;>exact fin6) (by (try simp only [evWB,Nat.reduceBEq,Nat.reduceAdd,Nat.reduceSub,Nat.reduceLeDiff,Nat.reduceLT,implies_true,swH,Int.natCast_zero,Int.cast_ofNat_Int])<;>exact fin6) ?_
  rintro v H nx ⟨p,s,hp,hs1,rfl,rfl,rfl⟩
 case' inr =>
  have h1:=zeK d g (a+q) 0 (by omega) (by omega) hs (by omega)
  (repeat first | simp (disch:=try exact dis1) only [evD,Nat.reduceBEq,Nat.reduceAdd,Nat.reduceLeDiff,ecast,hq,e1,e2,e3,dT,dF] | with_reducible intro _ | ((with_reducible apply And.intro);omega))
  refine zw [(0,0,0),(1,1,0)] 2 _ (h1) rfl rfl (by (try simp only [evWB,Nat.reduceBEq,Nat.reduceAdd,Nat.reduceSub,Nat.reduceLeDiff,Nat.reduceLT,implies_true,swH,Int.natCast_zero,Int.cast_ofNat_Int])<;>exact fin6) (by (try simp only [evWB,Nat.reduceBEq,Nat.reduceAdd,Nat.reduceSub,Nat.reduceLeDiff,Nat.reduceLT,implies_true,swH,Int.natCast_zero,Int.cast_ofNat_Int])<;>exact fin6) ?_
  rintro v H nx ⟨p1,s1,hp1,hs1,rfl,rfl,rfl⟩
  have h2:=zeK d g (a+q * 2) s1 (by omega) (by omega) hs (by omega)
  (repeat first | simp (disch:=try exact dis1) only [evD,Nat.reduceBEq,Nat.reduceAdd,Nat.reduceLeDiff,swH,zcX,zhr] | with_reducible intro _ | ((with_reducible apply And.intro);omega))
  refine zw [(0,0,0),(1,1,0)] 2 _ (h2) rfl rfl (by (try simp only [evWB,Nat.reduceBEq,Nat.reduceAdd,Nat.reduceSub,Nat.reduceLeDiff,Nat.reduceLT,implies_true,swH])<;>exact fin6) (by (try simp only [evWB,Nat.reduceBEq,Nat.reduceAdd,Nat.reduceSub,Nat.reduceLeDiff,Nat.reduceLT,implies_true,swH])<;>exact fin6) ?_
  rintro v H nx ⟨p2,s2,hp2,hs2,rfl,rfl,rfl⟩
  have h3:=zeK d g (a+q * 3) s2 (by omega) (by omega) hs (by omega)
  (repeat first | simp (disch:=try exact dis1) only [evD,Nat.reduceBEq,Nat.reduceAdd,Nat.reduceLeDiff,swH,zcX,zhr] | with_reducible intro _ | ((with_reducible apply And.intro);omega))
  refine zw [(0,0,0),(1,1,0)] 2 _ (h3) rfl rfl (by (try simp only [evWB,Nat.reduceBEq,Nat.reduceAdd,Nat.reduceSub,Nat.reduceLeDiff,Nat.reduceLT,implies_true,swH])<;>exact fin6) (by (try simp only [evWB,Nat.reduceBEq,Nat.reduceAdd,Nat.reduceSub,Nat.reduceLeDiff,Nat.reduceLT,implies_true,swH])<;>exact fin6) ?_
  rintro v H nx ⟨p3,s3,hp3,hs3,rfl,rfl,rfl⟩
  have h4:=zmU d g p1 p2 p3 s3 (by omega) (by omega) (by omega) hs (by omega)
  (repeat first | simp (disch:=try exact dis1) only [evD,Nat.reduceBEq,Nat.reduceAdd,Nat.reduceLeDiff,swH,zcX,zhr] | with_reducible intro _ | ((with_reducible apply And.intro);omega))
  refine zw [(0,0,0),(1,1,0)] 2 _ (h4) rfl rfl (by (try simp only [evWB,Nat.reduceBEq,Nat.reduceAdd,Nat.reduceSub,Nat.reduceLeDiff,Nat.reduceLT,implies_true,swH])<;>exact fin6) (by (try simp only [evWB,Nat.reduceBEq,Nat.reduceAdd,Nat.reduceSub,Nat.reduceLeDiff,Nat.reduceLT,implies_true,swH])<;>exact fin6) ?_
  rintro v H nx ⟨p,s,hp,hs1,rfl,rfl,rfl⟩
 all_goals
  have hpa:a≤p∧p < b:=by omega
  (repeat first | simp (disch:=try exact dis1) only [evD,Nat.reduceBEq,Nat.reduceAdd,Nat.reduceLeDiff,swH,zcX,zhr] | with_reducible intro _ | ((with_reducible apply And.intro);omega))
  by_cases hz:s=0
  ·
   subst hz
   (repeat first | simp (disch:=try exact dis1) only [evD,Nat.reduceBEq,Nat.reduceAdd,Nat.reduceLeDiff,dT,dF,zL] | with_reducible intro _ | ((with_reducible apply And.intro);omega))
   exact ⟨_,_,1,(Ent.tabB [(0,0,0)] [] rfl rfl rfl (by (try simp only [evWB,Nat.reduceBEq,Nat.reduceAdd,Nat.reduceSub,Nat.reduceLeDiff,Nat.reduceLT,implies_true])<;>exact fin2) (by (try simp only [evWB,Nat.reduceBEq,Nat.reduceAdd,Nat.reduceSub,Nat.reduceLeDiff,Nat.reduceLT,implies_true])<;>exact fin2)),p,1,hpa.1,hpa.2,by omega,rfl,rfl,rfl⟩
  by_cases hz2:s=12
  ·
   subst hz2
   (repeat first | simp (disch:=try exact dis1) only [evD,Nat.reduceBEq,Nat.reduceAdd,Nat.reduceLeDiff,dT,dF,zL] | with_reducible intro _ | ((with_reducible apply And.intro);omega))
   exact ⟨_,_,1,(Ent.tabB [(0,0,0)] [] rfl rfl rfl (by (try simp only [evWB,Nat.reduceBEq,Nat.reduceAdd,Nat.reduceSub,Nat.reduceLeDiff,Nat.reduceLT,implies_true])<;>exact fin2) (by (try simp only [evWB,Nat.reduceBEq,Nat.reduceAdd,Nat.reduceSub,Nat.reduceLeDiff,Nat.reduceLT,implies_true])<;>exact fin2)),p,2,hpa.1,hpa.2,by omega,rfl,rfl,rfl⟩
  (repeat first | simp (disch:=try exact dis1) only [evD,Nat.reduceBEq,Nat.reduceAdd,Nat.reduceLeDiff,dT,dF,zL] | with_reducible intro _ | ((with_reducible apply And.intro);omega))
  exact ⟨_,_,1,(Ent.tabB [(0,0,0)] [] rfl rfl rfl (by (try simp only [evWB,Nat.reduceBEq,Nat.reduceAdd,Nat.reduceSub,Nat.reduceLeDiff,Nat.reduceLT,implies_true])<;>exact fin2) (by (try simp only [evWB,Nat.reduceBEq,Nat.reduceAdd,Nat.reduceSub,Nat.reduceLeDiff,Nat.reduceLT,implies_true])<;>exact fin2)),p,0,hpa.1,hpa.2,by omega,rfl,rfl,rfl⟩
set_option maxHeartbeats 4000000 in
theorem zg9 (d:Array Int) (g a b:Nat) (hab:a < b) (hb:b≤d.size) (hs:d.size≤1000000) :
  zN Try.prog zV [.own 0 0 g 0 d.size, .int .i64 a, .int .i64 b] [(0, .row 1 (rW d) g)] 1
   (fun v H nx=>v=.bool (partialInsertionSort ltInt d a b).2∧H=[(0, .row 1 (rW (partialInsertionSort ltInt d a b).1) g)]∧nx=1):=by
 refine z7 (fn_x zcC rfl ?_)
 unfold zaJ
 have hB:=hBig
 (repeat first | simp (disch:=try exact dis1) only [evD,Nat.reduceBEq,Nat.reduceAdd,Nat.reduceLeDiff,dT,dF] | with_reducible intro _ | ((with_reducible apply And.intro);omega))
 refine zf (fun x:Nat × Nat × Array Int=>([(0, .own 0 0 g 0 d.size),(1, .int .i64 a),(2, .int .i64 b),(7, .int .i64 x.2.1),(8, .int .i64 x.1)],[(0, .row 1 (rW x.2.2) g)])) 1
  (fun x=>x.1≤5∧a+1≤x.2.1∧x.2.1≤b∧x.2.2.size=d.size∧partialIns ltInt a b (5 - x.1) x.2.1 x.2.2=partialInsertionSort ltInt d a b) (fun x=>5 - x.1) (0,a+1,d)
  ⟨by simp only;omega,by simp only;omega,by simp only;omega,rfl,rfl⟩ (Ent.tabB [(0,0,0)] [] rfl rfl rfl (by (try simp only [evWB,Nat.reduceBEq,Nat.reduceAdd,Nat.reduceSub,Nat.reduceLeDiff,Nat.reduceLT,implies_true])<;>exact fin2) (by (try simp only [evWB,Nat.reduceBEq,Nat.reduceAdd,Nat.reduceSub,Nat.reduceLeDiff,Nat.reduceLT,implies_true])<;>exact fin2)) ?_
 generalize partialInsertionSort ltInt d a b=R
 rintro ⟨s,i,e⟩ ⟨h1,h2,h3,h4,h5⟩ wf
 simp only at h1 h2 h3 h4 h5
 unfold zay
 have hl:=zfn (d:=e)
 by_cases hs5:s < 5
 case neg =>
  obtain rfl:s=5:=by omega
  rw [pi_end] at h5
  (repeat first | simp (disch:=try exact dis1) only [evD,Nat.reduceBEq,Nat.reduceAdd,Nat.reduceLeDiff,dT,dF] | with_reducible intro _ | ((with_reducible apply And.intro);omega))
  unfold zao
  (repeat first | simp (disch:=try exact dis1) only [evD,Nat.reduceBEq,Nat.reduceAdd,Nat.reduceLeDiff,zH] | with_reducible intro _ | ((with_reducible apply And.intro);omega))
  rw [← h5]
  exact ⟨_,_,1,(Ent.tabB [(0,0,0)] [] rfl rfl rfl (by (try simp only [evWB,Nat.reduceBEq,Nat.reduceAdd,Nat.reduceSub,Nat.reduceLeDiff,Nat.reduceLT,implies_true])<;>exact fin2) (by (try simp only [evWB,Nat.reduceBEq,Nat.reduceAdd,Nat.reduceSub,Nat.reduceLeDiff,Nat.reduceLT,implies_true])<;>exact fin2)),rfl,rfl,rfl⟩
 (repeat first | simp (disch:=try exact dis1) only [evD,Nat.reduceBEq,Nat.reduceAdd,Nat.reduceLeDiff,dT,dF] | with_reducible intro _ | ((with_reducible apply And.intro);omega))
 refine zf (fun x:Nat=>([(0, .own 0 0 g 0 d.size),(1, .int .i64 a),(2, .int .i64 b),(7, .int .i64 x),(8, .int .i64 s)],[(0, .row 1 (rW e) g)])) 1
  (fun x=>i≤x∧x≤b∧scanSorted ltInt e b x=scanSorted ltInt e b i) (fun x=>b - x) i ⟨Nat.le_refl _,h3,rfl⟩ (Ent.tabB [(0,0,0)] [] rfl rfl rfl (by (try simp only [evWB,Nat.reduceBEq,Nat.reduceAdd,Nat.reduceSub,Nat.reduceLeDiff,Nat.reduceLT,implies_true])<;>exact fin2) (by (try simp only [evWB,Nat.reduceBEq,Nat.reduceAdd,Nat.reduceSub,Nat.reduceLeDiff,Nat.reduceLT,implies_true])<;>exact fin2)) ?_
 rintro k ⟨k1,k2,k3⟩ wf2
 unfold zat
 by_cases hkb:k < b
 case neg =>
  obtain rfl:k=b:=by omega
  rw [scanSorted_stop ltInt e k k (Or.inl hkb)] at k3
  rw [pi_true ltInt a k s i e hs5 k3.symm] at h5
  (repeat first | simp (disch:=try exact dis1) only [evD,Nat.reduceBEq,Nat.reduceAdd,Nat.reduceLeDiff,dT,dF] | with_reducible intro _ | ((with_reducible apply And.intro);omega))
  unfold zR
  (repeat first | simp (disch:=try exact dis1) only [evD,Nat.reduceBEq,Nat.reduceAdd,Nat.reduceLeDiff,dT,dF,zH] | with_reducible intro _ | ((with_reducible apply And.intro);omega))
  rw [← h5]
  exact ⟨_,_,1,(Ent.tabB [(0,0,0)] [] rfl rfl rfl (by (try simp only [evWB,Nat.reduceBEq,Nat.reduceAdd,Nat.reduceSub,Nat.reduceLeDiff,Nat.reduceLT,implies_true])<;>exact fin2) (by (try simp only [evWB,Nat.reduceBEq,Nat.reduceAdd,Nat.reduceSub,Nat.reduceLeDiff,Nat.reduceLT,implies_true])<;>exact fin2)),rfl,rfl,rfl⟩
 have ek:((k:Int) - 1).toNat=k - 1:=by omega
 have gk:=zaI (d:=e) (i:=k) (by omega)
 have gk1:=zaI (d:=e) (i:=k - 1) (by omega)
 (repeat first | simp (disch:=try exact dis1) only [evD,Nat.reduceBEq,Nat.reduceAdd,Nat.reduceLeDiff,dT,dF,hl,h4,ek,gk,gk1] | with_reducible intro _ | ((with_reducible apply And.intro);omega))
 refine zab (zm (zdC _ _) rfl) ?_
 cases hc:ltInt e[k]! e[k - 1]!
 case false =>
  rw [scanSorted_go ltInt e b k hkb hc] at k3
  (repeat first | simp (disch:=try exact dis1) only [evD,Nat.reduceBEq,Nat.reduceAdd,Nat.reduceLeDiff,dT,dF] | with_reducible intro _ | ((with_reducible apply And.intro);omega))
  exact ⟨k+1,⟨by omega,by omega,k3⟩,by omega,(Ent.tabB [(0,0,0)] [] rfl rfl rfl (by (try simp only [evWB,Nat.reduceBEq,Nat.reduceAdd,Nat.reduceSub,Nat.reduceLeDiff,Nat.reduceLT,implies_true])<;>exact fin2) (by (try simp only [evWB,Nat.reduceBEq,Nat.reduceAdd,Nat.reduceSub,Nat.reduceLeDiff,Nat.reduceLT,implies_true])<;>exact fin2))⟩
 rw [scanSorted_stop ltInt e b k (Or.inr hc)] at k3
 (repeat first | simp (disch:=try exact dis1) only [evD,Nat.reduceBEq,Nat.reduceAdd,Nat.reduceLeDiff,dT,dF] | with_reducible intro _ | ((with_reducible apply And.intro);omega))
 unfold zR
 by_cases h50:b - a < 50
 ·
  rw [pi_short ltInt a b s i e hs5 (by rw [← k3];omega) h50] at h5
  (repeat first | simp (disch:=try exact dis1) only [evD,Nat.reduceBEq,Nat.reduceAdd,Nat.reduceLeDiff,dT,dF,zH] | with_reducible intro _ | ((with_reducible apply And.intro);omega))
  rw [← h5]
  exact ⟨_,_,1,(Ent.tabB [(0,0,0)] [] rfl rfl rfl (by (try simp only [evWB,Nat.reduceBEq,Nat.reduceAdd,Nat.reduceSub,Nat.reduceLeDiff,Nat.reduceLT,implies_true])<;>exact fin2) (by (try simp only [evWB,Nat.reduceBEq,Nat.reduceAdd,Nat.reduceSub,Nat.reduceLeDiff,Nat.reduceLT,implies_true])<;>exact fin2)),rfl,rfl,rfl⟩
 rw [pi_go ltInt a b s i k e hs5 k3.symm (by omega) h50] at h5
 have hsw:(swp e k (k - 1)).size=d.size:=by rw [zbz];exact h4
 (repeat first | simp (disch:=try exact dis1) only [evD,Nat.reduceBEq,Nat.reduceAdd,Nat.reduceLeDiff,dT,dF,hl,h4,ek,gk,gk1,List.length_set] | with_reducible intro _ | ((with_reducible apply And.intro);omega))
 all_goals rw [zeE]
 clear hl gk gk1 hc k3 wf wf2
 generalize swp e k (k - 1)=e1 at h5 hsw
 have ek1:((k:Int) - 1)=((k - 1:Nat):Int):=by omega
 by_cases hka:2≤k - a
 case' neg =>
  have hfd:fixDown ltInt a k e1=e1:=by unfold fixDown;rw [if_neg (by omega)]
  rw [hfd] at h5
  have m2:=hsw
  clear hfd hsw
  generalize e1=f at h5 m2 ⊢
  (repeat first | simp (disch:=try exact dis1) only [evD,Nat.reduceBEq,Nat.reduceAdd,Nat.reduceLeDiff,dT,dF] | with_reducible intro _ | ((with_reducible apply And.intro);omega))
 case' pos =>
  have hfd:fixDown ltInt a k e1=shiftDown ltInt (k - 1) e1:=by unfold fixDown;rw [if_pos hka]
  (repeat first | simp (disch:=try exact dis1) only [evD,Nat.reduceBEq,Nat.reduceAdd,Nat.reduceLeDiff,dT,dF,ek1] | with_reducible intro _ | ((with_reducible apply And.intro);omega))
  refine zf (fun x:Nat × Array Int=>([(0, .own 0 0 g 0 d.size),(1, .int .i64 a),(2, .int .i64 b),(7, .int .i64 k),(8, .int .i64 s),(9, .int .i64 x.1)],[(0, .row 1 (rW x.2) g)])) 1
   (fun x=>x.1≤k - 1∧x.2.size=d.size∧shiftDown ltInt x.1 x.2=shiftDown ltInt (k - 1) e1) (fun x=>x.1) (k - 1,e1) ⟨Nat.le_refl _,hsw,rfl⟩ (Ent.tabB [(0,0,0)] [] rfl rfl rfl (by (try simp only [evWB,Nat.reduceBEq,Nat.reduceAdd,Nat.reduceSub,Nat.reduceLeDiff,Nat.reduceLT,implies_true])<;>exact fin2) (by (try simp only [evWB,Nat.reduceBEq,Nat.reduceAdd,Nat.reduceSub,Nat.reduceLeDiff,Nat.reduceLT,implies_true])<;>exact fin2)) ?_
  rintro ⟨j,f⟩ ⟨m1,m2,m3⟩ wf3
  simp only at m1 m2 m3
  unfold zar
  by_cases hj:1≤j
  case' pos =>
   have ej:((j:Int) - 1).toNat=j - 1:=by omega
   have hl:=zfn (d:=f)
   have gj:=zaI (d:=f) (i:=j) (by omega)
   have gj1:=zaI (d:=f) (i:=j - 1) (by omega)
   (repeat first | simp (disch:=try exact dis1) only [evD,Nat.reduceBEq,Nat.reduceAdd,Nat.reduceLeDiff,dT,dF,hl,m2,ej,gj,gj1] | with_reducible intro _ | ((with_reducible apply And.intro);omega))
   refine zab (zm (zdC _ _) rfl) ?_
   cases hc:ltInt f[j]! f[j - 1]!
   case true =>
    rw [shiftDown_go ltInt j f hj hc] at m3
    (repeat first | simp (disch:=try exact dis1) only [evD,Nat.reduceBEq,Nat.reduceAdd,Nat.reduceLeDiff,dT,dF,hl,m2,ej,gj,gj1,List.length_set] | with_reducible intro _ | ((with_reducible apply And.intro);omega))
    all_goals rw [zeE]
    all_goals exact ⟨(j - 1,swp f j (j - 1)),⟨by simp only;omega,by simp only;rw [zbz];exact m2,m3⟩,by simp only;omega,(Ent.tabB [(0,0,0)] [] rfl rfl rfl (by (try simp only [evWB,Nat.reduceBEq,Nat.reduceAdd,Nat.reduceSub,Nat.reduceLeDiff,Nat.reduceLT,implies_true])<;>exact fin2) (by (try simp only [evWB,Nat.reduceBEq,Nat.reduceAdd,Nat.reduceSub,Nat.reduceLeDiff,Nat.reduceLT,implies_true])<;>exact fin2))⟩
   rw [shiftDown_stop ltInt j f (Or.inr hc),← hfd] at m3
   clear hc hl gj gj1 ej
   (repeat first | simp (disch:=try exact dis1) only [evD,Nat.reduceBEq,Nat.reduceAdd,Nat.reduceLeDiff,dT,dF] | with_reducible intro _ | ((with_reducible apply And.intro);omega))
  case' neg =>
   rw [shiftDown_stop ltInt j f (Or.inl (by omega)),← hfd] at m3
   (repeat first | simp (disch:=try exact dis1) only [evD,Nat.reduceBEq,Nat.reduceAdd,Nat.reduceLeDiff,dT,dF] | with_reducible intro _ | ((with_reducible apply And.intro);omega))
  all_goals clear hj hfd hsw wf3 m1
  all_goals rw [← m3] at h5
  all_goals clear m3
 all_goals
  unfold zaw
  rcases Nat.lt_or_ge (b - k) 2 with hbk | hbk
  ·
   have hfu:fixUp ltInt b k f=f:=by unfold fixUp;rw [if_neg (by omega)]
   rw [hfu] at h5
   first
   | (exfalso;omega)
   | (
     (repeat first | simp (disch:=try exact dis1) only [evD,Nat.reduceBEq,Nat.reduceAdd,Nat.reduceLeDiff,dT,dF] | with_reducible intro _ | ((with_reducible apply And.intro);omega))
     unfold zS
     (repeat first | simp (disch:=try exact dis1) only [evD,Nat.reduceBEq,Nat.reduceAdd,Nat.reduceLeDiff,dT,dF] | with_reducible intro _ | ((with_reducible apply And.intro);omega))
     exact ⟨(s+1,k,f),⟨by simp only;omega,by simp only;omega,by simp only;omega,m2,h5⟩,by simp only;omega,(Ent.tabB [(0,0,0)] [] rfl rfl rfl (by (try simp only [evWB,Nat.reduceBEq,Nat.reduceAdd,Nat.reduceSub,Nat.reduceLeDiff,Nat.reduceLT,implies_true])<;>exact fin2) (by (try simp only [evWB,Nat.reduceBEq,Nat.reduceAdd,Nat.reduceSub,Nat.reduceLeDiff,Nat.reduceLT,implies_true])<;>exact fin2))⟩)
  have hfu:fixUp ltInt b k f=shiftUp ltInt b (k+1) f:=by unfold fixUp;rw [if_pos hbk]
  (repeat first | simp (disch:=try exact dis1) only [evD,Nat.reduceBEq,Nat.reduceAdd,Nat.reduceLeDiff,dT,dF] | with_reducible intro _ | ((with_reducible apply And.intro);omega))
  refine zf (fun x:Nat × Array Int=>([(0, .own 0 0 g 0 d.size),(1, .int .i64 a),(2, .int .i64 b),(7, .int .i64 k),(8, .int .i64 s),(10, .int .i64 x.1)],[(0, .row 1 (rW x.2) g)])) 1
   (fun x=>k+1≤x.1∧x.1≤b∧x.2.size=d.size∧shiftUp ltInt b x.1 x.2=shiftUp ltInt b (k+1) f) (fun x=>b - x.1) (k+1,f) ⟨Nat.le_refl _,by simp only;omega,m2,rfl⟩ (Ent.tabB [(0,0,0)] [] rfl rfl rfl (by (try simp only [evWB,Nat.reduceBEq,Nat.reduceAdd,Nat.reduceSub,Nat.reduceLeDiff,Nat.reduceLT,implies_true])<;>exact fin2) (by (try simp only [evWB,Nat.reduceBEq,Nat.reduceAdd,Nat.reduceSub,Nat.reduceLeDiff,Nat.reduceLT,implies_true])<;>exact fin2)) ?_
  rintro ⟨j,f2⟩ ⟨n1,n2,n3,n4⟩ wf4
  simp only at n1 n2 n3 n4
  unfold zan
  by_cases hj:j < b
  case' pos =>
   have ej:((j:Int) - 1).toNat=j - 1:=by omega
   have hl:=zfn (d:=f2)
   have gj:=zaI (d:=f2) (i:=j) (by omega)
   have gj1:=zaI (d:=f2) (i:=j - 1) (by omega)
   (repeat first | simp (disch:=try exact dis1) only [evD,Nat.reduceBEq,Nat.reduceAdd,Nat.reduceLeDiff,dT,dF,hl,n3,ej,gj,gj1] | with_reducible intro _ | ((with_reducible apply And.intro);omega))
   refine zab (zm (zdC _ _) rfl) ?_
   cases hc:ltInt f2[j]! f2[j - 1]!
   case true =>
    rw [shiftUp_go ltInt b j f2 hj hc] at n4
    (repeat first | simp (disch:=try exact dis1) only [evD,Nat.reduceBEq,Nat.reduceAdd,Nat.reduceLeDiff,dT,dF,hl,n3,ej,gj,gj1,List.length_set] | with_reducible intro _ | ((with_reducible apply And.intro);omega))
    all_goals rw [zeE]
    all_goals exact ⟨(j+1,swp f2 j (j - 1)),⟨by simp only;omega,by simp only;omega,by simp only;rw [zbz];exact n3,n4⟩,by simp only;omega,(Ent.tabB [(0,0,0)] [] rfl rfl rfl (by (try simp only [evWB,Nat.reduceBEq,Nat.reduceAdd,Nat.reduceSub,Nat.reduceLeDiff,Nat.reduceLT,implies_true])<;>exact fin2) (by (try simp only [evWB,Nat.reduceBEq,Nat.reduceAdd,Nat.reduceSub,Nat.reduceLeDiff,Nat.reduceLT,implies_true])<;>exact fin2))⟩
   rw [shiftUp_stop ltInt b j f2 (Or.inr hc),← hfu] at n4
   (repeat first | simp (disch:=try exact dis1) only [evD,Nat.reduceBEq,Nat.reduceAdd,Nat.reduceLeDiff,dT,dF] | with_reducible intro _ | ((with_reducible apply And.intro);omega))
  case' neg =>
   rw [shiftUp_stop ltInt b j f2 (Or.inl hj),← hfu] at n4
   (repeat first | simp (disch:=try exact dis1) only [evD,Nat.reduceBEq,Nat.reduceAdd,Nat.reduceLeDiff,dT,dF] | with_reducible intro _ | ((with_reducible apply And.intro);omega))
  all_goals rw [← n4] at h5
  all_goals unfold zS
  all_goals (repeat first | simp (disch:=try exact dis1) only [evD,Nat.reduceBEq,Nat.reduceAdd,Nat.reduceLeDiff,dT,dF] | with_reducible intro _ | ((with_reducible apply And.intro);omega))
  all_goals exact ⟨(s+1,k,f2),⟨by simp only;omega,by simp only;omega,by simp only;omega,n3,h5⟩,by simp only;omega,(Ent.tabB [(0,0,0)] [] rfl rfl rfl (by (try simp only [evWB,Nat.reduceBEq,Nat.reduceAdd,Nat.reduceSub,Nat.reduceLeDiff,Nat.reduceLT,implies_true])<;>exact fin2) (by (try simp only [evWB,Nat.reduceBEq,Nat.reduceAdd,Nat.reduceSub,Nat.reduceLeDiff,Nat.reduceLT,implies_true])<;>exact fin2))⟩
theorem zhf {n:Int} (h1:0≤n) (h2:n≤18446744073709551615):IntKind.u64.wrap n=n:=IntWalk.u64_in n ⟨h1,h2⟩
theorem zzG {n:Int} (h1:0≤n) (h2:n≤255):IntKind.u8.wrap n=n:=IntWalk.u8_in n ⟨h1,h2⟩
def lenB (n:Nat):Nat:=znE len8 n
theorem zxX:(List.range 256).all (fun n=>Nat.ble (lenB n) 8&&(Nat.beq n 0||Nat.ble (2 ^ lenB n) (2 * n)))=true:=by kernel_rfl
theorem zn1 {n:Nat} (h:n < 256):lenB n≤8∧(1≤n→2 ^ lenB n≤2 * n):=by
 have:=List.all_eq_true.1 zxX n (List.mem_range.2 h)
 rw [Bool.and_eq_true,Bool.or_eq_true] at this
 refine ⟨Nat.le_of_ble_eq_true this.1,fun h1=>?_⟩
 rcases this.2 with h2 | h2
 · have:=Nat.eq_of_beq_eq_true h2;omega
 · exact Nat.le_of_ble_eq_true h2
theorem zwg:ByteArray.size len8=256:=by decide
theorem zwE (n:Nat) (hn:n < 256):zE Try.prog zdu [.int .u64 n] (·=.int .i64 (lenB n)):=by
 refine fn_x zjU rfl ?_
 unfold zgw
 have hB:=hBig
 have e1:((n:Int)).toNat=n:=rfl
 have hb:=(zn1 hn).1
 unfold lenB at hb ⊢
 (repeat first | simp (disch:=try exact dis1) only [evD,Nat.reduceBEq,Nat.reduceAdd,Nat.reduceLeDiff,dT,dF,zzG,zwg,Int.toNat_natCast,Int.zero_add,zgs] | with_reducible intro _ | ((with_reducible apply And.intro);omega))
 exact ⟨_, .int _ _ _,rfl⟩
theorem zyB (n:Nat) (hn:n < 256):zE Try.prog zdc [.int .u64 n] (·=.int .i64 (lenB n)):=by
 refine fn_x zll rfl ?_
 unfold zhJ
 (repeat first | simp (disch:=try exact dis1) only [evD,Nat.reduceBEq,Nat.reduceAdd,Nat.reduceLeDiff] | with_reducible intro _ | ((with_reducible apply And.intro);omega))
 refine zp (zm (zwE n hn) rfl) ?_
 (repeat first | simp (disch:=try exact dis1) only [evD,Nat.reduceBEq,Nat.reduceAdd,Nat.reduceLeDiff,zhB] | with_reducible intro _ | ((with_reducible apply And.intro);omega))
 exact ⟨_, .int _ _ _,rfl⟩
theorem ztq (n:Nat) (hn:n < 256):zE Try.prog zcN [.int .i64 n] (·=.int .u64 ((2 ^ lenB n:Nat):Int)):=by
 refine fn_x zg7 rfl ?_
 unfold zeb
 have hb:=(zn1 hn).1
 have h1:(2:Nat) ^ lenB n≤2 ^ 8:=Nat.pow_le_pow_right (by omega) hb
 have e1:(1:Int) * 2 ^ (min (lenB n) IntKind.u64.bits)=((2 ^ lenB n:Nat):Int):=by
  have h2:min (lenB n) IntKind.u64.bits=lenB n:=Nat.min_eq_left (by have:IntKind.u64.bits=64:=rfl;omega)
  rw [h2,Int.one_mul]
  simp
 have h3:(((2:Nat) ^ lenB n:Nat):Int)≤256:=by exact_mod_cast h1
 have e2:IntKind.u64.wrap (((2:Nat) ^ lenB n:Nat):Int)=(((2:Nat) ^ lenB n:Nat):Int):=zhf (Int.natCast_nonneg _) (Int.le_trans h3 (by decide))
 (repeat first | simp (disch:=try exact dis1) only [evD,Nat.reduceBEq,Nat.reduceAdd,Nat.reduceLeDiff,zhf] | with_reducible intro _ | ((with_reducible apply And.intro);omega))
 refine zp (zm (zyB n hn) rfl) ?_
 (repeat first | simp (disch:=try exact dis1) only [evD,Nat.reduceBEq,Nat.reduceAdd,Nat.reduceLeDiff,zhf,e1,e2,zee] | with_reducible intro _ | ((with_reducible apply And.intro);omega))
 exact ⟨_, .int _ _ _,rfl⟩
theorem zzw (x:Int):zN Try.prog zcV [.ptr 0 0 0 0 0] [(0, .row 1 [[.int .u64 x]] 0)] 1
  (fun v H nx=>∃ y:Int,InR .u64 y∧v=.int .u64 y∧H=[(0, .row 1 [[.int .u64 y]] 0)]∧nx=1):=by
 refine z7 (fn_x zhy rfl ?_)
 unfold zeo
 (repeat first | simp (disch:=try exact dis1) only [evD,Nat.reduceBEq,Nat.reduceAdd,Nat.reduceLeDiff,zex] | with_reducible intro _ | ((with_reducible apply And.intro);omega))
 rename_i hr
 exact ⟨_,_,1,(Ent.tabB [(0,0,0)] [] rfl rfl rfl (by (try simp only [evWB,Nat.reduceBEq,Nat.reduceAdd,Nat.reduceSub,Nat.reduceLeDiff,Nat.reduceLT,implies_true])<;>exact fin2) (by (try simp only [evWB,Nat.reduceBEq,Nat.reduceAdd,Nat.reduceSub,Nat.reduceLeDiff,Nat.reduceLT,implies_true])<;>exact fin2)),_,hr,rfl,rfl,rfl⟩
theorem ztX (y:Int) (m:Nat) (h1:1≤m) (h2:m≤512) :
  ∃ o:Nat,o < m∧IntKind.u64.wrap ((BitVec.ofInt IntKind.u64.bits y &&& BitVec.ofInt IntKind.u64.bits ((m:Int) - 1)).toNat:Int)=(o:Int):=by
 have hz:(BitVec.ofInt IntKind.u64.bits ((m:Int) - 1)).toNat=m - 1:=by
  rw [BitVec.toNat_ofInt]
  have:(2 ^ IntKind.u64.bits:Nat)=18446744073709551616:=rfl
  rw [this]
  omega
 have hle:(BitVec.ofInt IntKind.u64.bits y &&& BitVec.ofInt IntKind.u64.bits ((m:Int) - 1)).toNat≤m - 1:=by
  rw [BitVec.toNat_and,hz]
  exact Nat.and_le_right
 exact ⟨_,by omega,zhf (Int.natCast_nonneg _) (by omega)⟩
set_option maxHeartbeats 1000000 in
theorem zlh (d:Array Int) (g a b:Nat) (hab:a≤b) (hb:b≤d.size) (hs:d.size≤250) :
  zN Try.prog zax [.own 0 0 g 0 d.size, .int .i64 a, .int .i64 b] [(0, .row 1 (rW d) g)] 1
   (fun v H nx=>∃ d',PermIn a b d d'∧v=.tup []∧H=[(0, .row 1 (rW d') g)]∧nx=1):=by
 refine z7 (fn_x zdH rfl ?_)
 unfold zbv
 have hB:=hBig
 have ecast:(b:Int) - (a:Int)=((b - a:Nat):Int):=by omega
 have hq:((b - a:Nat):Int).tdiv 4=(((b - a) / 4:Nat):Int):=by rw [Int.tdiv_eq_ediv_of_nonneg (by omega)];omega
 have hq1:(b - a) / 4 * 4≤b - a:=Nat.div_mul_le_self _ _
 have hq2:8≤b - a→2≤(b - a) / 4:=fun h=>by omega
 generalize (b - a) / 4=q at hq hq1 hq2
 rcases Nat.lt_or_ge (b - a) 8 with h8 | h8
 ·
  (repeat first | simp (disch:=try exact dis1) only [evD,Nat.reduceBEq,Nat.reduceAdd,Nat.reduceLeDiff,ecast,dT,dF,zaj] | with_reducible intro _ | ((with_reducible apply And.intro);omega))
  exact ⟨_,_,1,(Ent.tabB [(0,0,0)] [] rfl rfl rfl (by (try simp only [evWB,Nat.reduceBEq,Nat.reduceAdd,Nat.reduceSub,Nat.reduceLeDiff,Nat.reduceLT,implies_true])<;>exact fin2) (by (try simp only [evWB,Nat.reduceBEq,Nat.reduceAdd,Nat.reduceSub,Nat.reduceLeDiff,Nat.reduceLT,implies_true])<;>exact fin2)),d,permIn_refl _ _ _,rfl,rfl,rfl⟩
 have hn:=ztq (b - a) (by omega)
 have hm1:=(zn1 (n:=b - a) (by omega)).2 (by omega)
 have hm0:1≤2 ^ lenB (b - a):=Nat.one_le_two_pow
 generalize 2 ^ lenB (b - a)=m at hn hm1 hm0
 have hq3:=hq2 h8
 have ei:(a:Int)+(q:Int) * 2 - 1=((a+q * 2 - 1:Nat):Int):=by omega
 have ej:(a:Int)+(q:Int) * 2+1=((a+q * 2+1:Nat):Int):=by omega
 (repeat first | simp (disch:=try exact dis1) only [evD,Nat.reduceBEq,Nat.reduceAdd,Nat.reduceLeDiff,ecast,hq,ei,dT,dF,zhf] | with_reducible intro _ | ((with_reducible apply And.intro);omega))
 refine zp (zm hn rfl) ?_
 (repeat first | simp (disch:=try exact dis1) only [evD,Nat.reduceBEq,Nat.reduceAdd,Nat.reduceLeDiff,ecast,hq,ei,dT,dF] | with_reducible intro _ | ((with_reducible apply And.intro);omega))
 refine zf (fun x:Nat × Int × Array Int=>([(0, .own 0 0 g 0 d.size),(1, .int .i64 a),(6, .int .i64 (b - a:Nat)),(7, .ptr 1 0 0 0 0),(8, .int .u64 m),(9, .int .i64 x.1)],[(0, .row 1 (rW x.2.2) g),(1, .row 1 [[.int .u64 x.2.1]] 0)])) 2
  (fun x=>a+q * 2 - 1≤x.1∧x.1≤a+q * 2+2∧x.2.2.size=d.size∧PermIn a b d x.2.2) (fun x=>a+q * 2+2 - x.1) (a+q * 2 - 1,((b - a:Nat):Int),d)
  ⟨Nat.le_refl _,by simp only;omega,rfl,permIn_refl _ _ _⟩ (Ent.tabB [(0,0,0),(1,1,0)] [] rfl rfl rfl (by (try simp only [evWB,Nat.reduceBEq,Nat.reduceAdd,Nat.reduceSub,Nat.reduceLeDiff,Nat.reduceLT,implies_true])<;>exact fin2) (by (try simp only [evWB,Nat.reduceBEq,Nat.reduceAdd,Nat.reduceSub,Nat.reduceLeDiff,Nat.reduceLT,implies_true])<;>exact fin2)) ?_
 rintro ⟨i,r,e⟩ ⟨h1,h2,h3,h4⟩ wf
 simp only at h1 h2 h3 h4
 unfold za4
 have hl:=zfn (d:=e)
 by_cases hi:i≤a+q * 2+1
 ·
  (repeat first | simp (disch:=try exact dis1) only [evD,Nat.reduceBEq,Nat.reduceAdd,Nat.reduceLeDiff,ecast,hq,ej,dT,dF] | with_reducible intro _ | ((with_reducible apply And.intro);omega))
  refine zw [(0,1,0)] 1 _ (zzw r) rfl rfl fin9 fin9 ?_
  rintro v H nx ⟨y,hy,rfl,rfl,rfl⟩
  obtain ⟨o,ho,heo⟩:=ztX y m hm0 (by omega)
  obtain ⟨o',ho',hoo⟩:∃ o',o' < b - a∧(o < b - a∧o'=o∨¬ o < b - a∧o'=o - (b - a)):=by
   by_cases h:o < b - a
   · exact ⟨o,h, .inl ⟨h,rfl⟩⟩
   · exact ⟨o - (b - a),by omega, .inr ⟨h,rfl⟩⟩
  have g0:=zaI (d:=e) (i:=i) (by omega)
  have g1:=zaI (d:=e) (i:=a+o') (by omega)
  have e0:((a:Int)+(o':Int)).toNat=a+o':=by omega
  have hp:=swp_permIn e a b i (a+o') (by omega) (by omega) (by omega) (by omega) (by omega)
  (repeat first | simp (disch:=try exact dis1) only [evD,Nat.reduceBEq,Nat.reduceAdd,Nat.reduceLeDiff,zcX,zhr,zhf,heo] | with_reducible intro _ | ((with_reducible apply And.intro);omega))
  rcases hoo with ⟨h,rfl⟩ | ⟨h,rfl⟩
  ·
   (repeat first | simp (disch:=try exact dis1) only [evD,Nat.reduceBEq,Nat.reduceAdd,Nat.reduceLeDiff,ecast,dT,dF,hl,h3,g0,g1,e0,List.length_set] | with_reducible intro _ | ((with_reducible apply And.intro);omega))
   all_goals rw [zeE]
   all_goals exact ⟨(i+1,y,swp e i (a+o')),⟨by simp only;omega,by simp only;omega,by simp only;rw [zbz];exact h3,permIn_trans _ _ _ _ _ h4 hp⟩,by simp only;omega,(Ent.tabB [(0,0,0),(1,1,0)] [] rfl rfl rfl (by (try simp only [evWB,Nat.reduceBEq,Nat.reduceAdd,Nat.reduceSub,Nat.reduceLeDiff,Nat.reduceLT,implies_true])<;>exact fin2) (by (try simp only [evWB,Nat.reduceBEq,Nat.reduceAdd,Nat.reduceSub,Nat.reduceLeDiff,Nat.reduceLT,implies_true])<;>exact fin2))⟩
  ·
   have es:(o:Int) - ((b - a:Nat):Int)=((o - (b - a):Nat):Int):=by omega
   (repeat first | simp (disch:=try exact dis1) only [evD,Nat.reduceBEq,Nat.reduceAdd,Nat.reduceLeDiff,ecast,es,dT,dF,hl,h3,g0,g1,e0,List.length_set] | with_reducible intro _ | ((with_reducible apply And.intro);omega))
   all_goals rw [zeE]
   all_goals exact ⟨(i+1,y,swp e i (a+(o - (b - a)))),⟨by simp only;omega,by simp only;omega,by simp only;rw [zbz];exact h3,permIn_trans _ _ _ _ _ h4 hp⟩,by simp only;omega,(Ent.tabB [(0,0,0),(1,1,0)] [] rfl rfl rfl (by (try simp only [evWB,Nat.reduceBEq,Nat.reduceAdd,Nat.reduceSub,Nat.reduceLeDiff,Nat.reduceLT,implies_true])<;>exact fin2) (by (try simp only [evWB,Nat.reduceBEq,Nat.reduceAdd,Nat.reduceSub,Nat.reduceLeDiff,Nat.reduceLT,implies_true])<;>exact fin2))⟩
 ·
  (repeat first | simp (disch:=try exact dis1) only [evD,Nat.reduceBEq,Nat.reduceAdd,Nat.reduceLeDiff,ecast,hq,ej,dT,dF,zaj] | with_reducible intro _ | ((with_reducible apply And.intro);omega))
  exact ⟨_,_,1,(Ent.tabB [(0,0,0)] [] rfl rfl rfl (by (try simp only [evWB,Nat.reduceBEq,Nat.reduceAdd,Nat.reduceSub,Nat.reduceLeDiff,Nat.reduceLT,implies_true])<;>exact fin2) (by (try simp only [evWB,Nat.reduceBEq,Nat.reduceAdd,Nat.reduceSub,Nat.reduceLeDiff,Nat.reduceLT,implies_true])<;>exact fin2)),e,h4,rfl,rfl,rfl⟩
def PInv (a0 b0:Nat) (d0:Array Int) (a b:Nat) (e:Array Int):Prop :=
 a≤b∧b≤d0.size∧b - a≤b0 - a0∧e.size=d0.size∧Below ltInt a b e∧∀ R,PermIn a b e R→SortedIn ltInt a b R→PermIn a0 b0 d0 R∧SortedIn ltInt a0 b0 R
theorem PInv.perm {a0 b0:Nat} {d0:Array Int} {a b:Nat} {e e1:Array Int} (h:PInv a0 b0 d0 a b e) (hp:PermIn a b e e1):PInv a0 b0 d0 a b e1:=by
 obtain ⟨h1,h2,h3,h4,h5,h6⟩:=h
 exact ⟨h1,h2,h3,by rw [hp.1];exact h4,h5.perm (by omega) hp,fun R hR hs=>h6 R (permIn_trans _ _ _ _ _ hp hR) hs⟩
set_option maxHeartbeats 4000000 in
theorem zs5:∀ (N:Nat) (d:Array Int) (g a b lim:Nat),b - a < N→a≤b→b≤d.size→d.size≤250→lim≤1000→Below ltInt a b d →
  zN Try.prog zO [.own 0 0 g 0 d.size, .int .i64 a, .int .i64 b, .int .i64 lim] [(0, .row 1 (rW d) g)] 1
   (fun v H nx=>∃ d',(PermIn a b d d'∧SortedIn ltInt a b d')∧v=.tup []∧H=[(0, .row 1 (rW d') g)]∧nx=1):=by
 intro N
 induction N with
 | zero=>intro d g a b lim h;omega
 | succ N ih =>
 intro d g a0 b0 lim0 hN hab0 hb0 hs hlim hB0
 refine z7 (fn_x zeQ rfl ?_)
 unfold zcB
 have hB:=hBig
 (repeat first | simp (disch:=try exact dis1) only [evD,Nat.reduceBEq,Nat.reduceAdd,Nat.reduceLeDiff,dT,dF] | with_reducible intro _ | ((with_reducible apply And.intro);omega))
 refine zf (fun x:Nat × Nat × Nat × Bool × Bool × Array Int=>([(0, .own 0 0 g 0 d.size),(1, .int .i64 x.1),(2, .int .i64 x.2.1),(3, .int .i64 x.2.2.1),(8, .bool x.2.2.2.1),(9, .bool x.2.2.2.2.1)],[(0, .row 1 (rW x.2.2.2.2.2) g)])) 1
  (fun x=>x.2.2.1≤1000∧PInv a0 b0 d x.1 x.2.1 x.2.2.2.2.2) (fun x=>x.2.1 - x.1) (a0,b0,lim0,true,true,d) ⟨hlim,hab0,hb0,Nat.le_refl _,rfl,hB0,fun R h1 h2=>⟨h1,h2⟩⟩ (Ent.tabB [(0,0,0)] [] rfl rfl rfl (by (try simp only [evWB,Nat.reduceBEq,Nat.reduceAdd,Nat.reduceSub,Nat.reduceLeDiff,Nat.reduceLT,implies_true])<;>exact fin2) (by (try simp only [evWB,Nat.reduceBEq,Nat.reduceAdd,Nat.reduceSub,Nat.reduceLeDiff,Nat.reduceLT,implies_true])<;>exact fin2)) ?_
 rintro ⟨a,b,lim,wb,wp,e⟩ ⟨hl0,hI⟩ wf
 simp only at hl0 hI
 unfold zb0
 have ecast:(b:Int) - (a:Int)=((b - a:Nat):Int):=by have:=hI.1;omega
 have hbd:a≤b∧b≤250:=by have:=hI.1;have:=hI.2.1;omega
 by_cases h12:b - a≤12
 ·
  obtain ⟨i1,i2,i3,i4,i5,i6⟩:=hI
  have h:=zlv e g a b i1 (by omega) (by omega)
  have hp:=insertionSort_holds swo_ltInt e a b i1 (by omega)
  rw [i4] at h
  (repeat first | simp (disch:=try exact dis1) only [evD,Nat.reduceBEq,Nat.reduceAdd,Nat.reduceLeDiff,ecast,dT,dF] | with_reducible intro _ | ((with_reducible apply And.intro);omega))
  refine zw [(0,0,0)] 1 _ (h) rfl rfl fin9 fin9 ?_
  rintro v H nx ⟨rfl,rfl,rfl⟩
  (repeat first | simp (disch:=try exact dis1) only [evD,Nat.reduceBEq,Nat.reduceAdd,Nat.reduceLeDiff,zcX,zag] | with_reducible intro _ | ((with_reducible apply And.intro);omega))
  exact ⟨_,_,1,(Ent.tabB [(0,0,0)] [] rfl rfl rfl (by (try simp only [evWB,Nat.reduceBEq,Nat.reduceAdd,Nat.reduceSub,Nat.reduceLeDiff,Nat.reduceLT,implies_true])<;>exact fin2) (by (try simp only [evWB,Nat.reduceBEq,Nat.reduceAdd,Nat.reduceSub,Nat.reduceLeDiff,Nat.reduceLT,implies_true])<;>exact fin2)),_,i6 _ hp.1 hp.2,rfl,rfl,rfl⟩
 by_cases hz:lim=0
 ·
  obtain ⟨i1,i2,i3,i4,i5,i6⟩:=hI
  have h:=zqP e g a b i1 (by omega) (by omega)
  have hp:=heapSort_holds swo_ltInt e a b i1 (by omega)
  rw [i4] at h
  (repeat first | simp (disch:=try exact dis1) only [evD,Nat.reduceBEq,Nat.reduceAdd,Nat.reduceLeDiff,ecast,dT,dF] | with_reducible intro _ | ((with_reducible apply And.intro);omega))
  refine zw [(0,0,0)] 1 _ (h) rfl rfl fin9 fin9 ?_
  rintro v H nx ⟨rfl,rfl,rfl⟩
  (repeat first | simp (disch:=try exact dis1) only [evD,Nat.reduceBEq,Nat.reduceAdd,Nat.reduceLeDiff,zcX,zag] | with_reducible intro _ | ((with_reducible apply And.intro);omega))
  exact ⟨_,_,1,(Ent.tabB [(0,0,0)] [] rfl rfl rfl (by (try simp only [evWB,Nat.reduceBEq,Nat.reduceAdd,Nat.reduceSub,Nat.reduceLeDiff,Nat.reduceLT,implies_true])<;>exact fin2) (by (try simp only [evWB,Nat.reduceBEq,Nat.reduceAdd,Nat.reduceSub,Nat.reduceLeDiff,Nat.reduceLT,implies_true])<;>exact fin2)),_,i6 _ hp.1 hp.2,rfl,rfl,rfl⟩
 (repeat first | simp (disch:=try exact dis1) only [evD,Nat.reduceBEq,Nat.reduceAdd,Nat.reduceLeDiff,ecast,dT,dF] | with_reducible intro _ | ((with_reducible apply And.intro);omega))
 refine zjj (fun x:Nat × Array Int=>([(0, .own 0 0 g 0 d.size),(1, .int .i64 a),(2, .int .i64 b),(3, .int .i64 x.1),(8, .bool wb),(9, .bool wp),(10, .int .i64 (b - a:Nat))],[(0, .row 1 (rW x.2) g)])) 1
  (fun x=>x.1≤1000∧PInv a0 b0 d a b x.2) ?_ ?_
 ·
  cases wb with
  |
   true =>
   (repeat first | simp (disch:=try exact dis1) only [evD,Nat.reduceBEq,Nat.reduceAdd,Nat.reduceLeDiff,dT,dF] | with_reducible intro _ | ((with_reducible apply And.intro);omega))
   exact ⟨(lim,e),⟨hl0,hI⟩,(Ent.tabB [(0,0,0)] [] rfl rfl rfl (by (try simp only [evWB,Nat.reduceBEq,Nat.reduceAdd,Nat.reduceSub,Nat.reduceLeDiff,Nat.reduceLT,implies_true])<;>exact fin2) (by (try simp only [evWB,Nat.reduceBEq,Nat.reduceAdd,Nat.reduceSub,Nat.reduceLeDiff,Nat.reduceLT,implies_true])<;>exact fin2))⟩
  |
   false =>
   have h:=zlh e g a b hI.1 (by rw [hI.2.2.2.1];exact hI.2.1) (by rw [hI.2.2.2.1];exact hs)
   rw [hI.2.2.2.1] at h
   have el:(lim:Int) - 1=((lim - 1:Nat):Int):=by omega
   (repeat first | simp (disch:=try exact dis1) only [evD,Nat.reduceBEq,Nat.reduceAdd,Nat.reduceLeDiff,dT,dF] | with_reducible intro _ | ((with_reducible apply And.intro);omega))
   refine zw [(0,0,0)] 1 _ (h) rfl rfl fin9 fin9 ?_
   rintro v H nx ⟨e1,hp,rfl,rfl,rfl⟩
   (repeat first | simp (disch:=try exact dis1) only [evD,Nat.reduceBEq,Nat.reduceAdd,Nat.reduceLeDiff,zcX,el] | with_reducible intro _ | ((with_reducible apply And.intro);omega))
   exact ⟨(lim - 1,e1),⟨by simp only;omega,hI.perm hp⟩,(Ent.tabB [(0,0,0)] [] rfl rfl rfl (by (try simp only [evWB,Nat.reduceBEq,Nat.reduceAdd,Nat.reduceSub,Nat.reduceLeDiff,Nat.reduceLT,implies_true])<;>exact fin2) (by (try simp only [evWB,Nat.reduceBEq,Nat.reduceAdd,Nat.reduceSub,Nat.reduceLeDiff,Nat.reduceLT,implies_true])<;>exact fin2))⟩
 clear hI hz hl0 wf
 rintro ⟨l1,e1⟩ ⟨hl1,hI⟩ wf
 simp only at hl1 hI
 unfold zb5
 have hc:=znd e1 g a b (by omega) (by rw [hI.2.2.2.1];exact hI.2.1) (by rw [hI.2.2.2.1];omega)
 rw [hI.2.2.2.1] at hc
 (repeat first | simp (disch:=try exact dis1) only [evD,Nat.reduceBEq,Nat.reduceAdd,Nat.reduceLeDiff,dT,dF] | with_reducible intro _ | ((with_reducible apply And.intro);omega))
 refine zw [(0,0,0)] 1 _ (hc) rfl rfl fin9 fin9 ?_
 rintro v H nx ⟨p,h,hp1,hp2,hh,rfl,rfl,rfl⟩
 (repeat first | simp (disch:=try exact dis1) only [evD,Nat.reduceBEq,Nat.reduceAdd,Nat.reduceLeDiff,zcX] | with_reducible intro _ | ((with_reducible apply And.intro);omega))
 refine zjj (fun x:Nat × Nat × Array Int=>([(0, .own 0 0 g 0 d.size),(1, .int .i64 a),(2, .int .i64 b),(3, .int .i64 l1),(8, .bool wb),(9, .bool wp),(10, .int .i64 (b - a:Nat)),(11, .int .i64 x.1),(12, .int .i64 x.2.1)],[(0, .row 1 (rW x.2.2) g)])) 1
  (fun x=>a≤x.1∧x.1 < b∧x.2.1≤2∧PInv a0 b0 d a b x.2.2) ?_ ?_
 ·
  by_cases h2:h=2
  ·
   subst h2
   have hr:=zmI e1 g a b (by omega) (by rw [hI.2.2.2.1];exact hI.2.1) (by rw [hI.2.2.2.1];omega)
   rw [hI.2.2.2.1] at hr
   have hp:=reverseRange_holds e1 a b hI.1 (by rw [hI.2.2.2.1];exact hI.2.1)
   have ep:(b:Int) - 1 - ((p:Int) - (a:Int))=((b - 1 - (p - a):Nat):Int):=by omega
   have hB2:=hI.2.1
   (repeat first | simp (disch:=try exact dis1) only [evD,Nat.reduceBEq,Nat.reduceAdd,Nat.reduceLeDiff,dT,dF] | with_reducible intro _ | ((with_reducible apply And.intro);omega))
   refine zw [(0,0,0)] 1 _ (hr) rfl rfl fin9 fin9 ?_
   rintro v H nx ⟨rfl,rfl,rfl⟩
   (repeat first | simp (disch:=try exact dis1) only [evD,Nat.reduceBEq,Nat.reduceAdd,Nat.reduceLeDiff,zcX,ep] | with_reducible intro _ | ((with_reducible apply And.intro);omega))
   exact ⟨(b - 1 - (p - a),1,reverseRange e1 a b),⟨by simp only;omega,by simp only;omega,by simp only;omega,hI.perm hp⟩,(Ent.tabB [(0,0,0)] [] rfl rfl rfl (by (try simp only [evWB,Nat.reduceBEq,Nat.reduceAdd,Nat.reduceSub,Nat.reduceLeDiff,Nat.reduceLT,implies_true,Int.natCast_one])<;>exact fin2) (by (try simp only [evWB,Nat.reduceBEq,Nat.reduceAdd,Nat.reduceSub,Nat.reduceLeDiff,Nat.reduceLT,implies_true,Int.natCast_one])<;>exact fin2))⟩
  ·
   (repeat first | simp (disch:=try exact dis1) only [evD,Nat.reduceBEq,Nat.reduceAdd,Nat.reduceLeDiff,dT,dF] | with_reducible intro _ | ((with_reducible apply And.intro);omega))
   exact ⟨(p,h,e1),⟨hp1,hp2,hh,hI⟩,(Ent.tabB [(0,0,0)] [] rfl rfl rfl (by (try simp only [evWB,Nat.reduceBEq,Nat.reduceAdd,Nat.reduceSub,Nat.reduceLeDiff,Nat.reduceLT,implies_true])<;>exact fin2) (by (try simp only [evWB,Nat.reduceBEq,Nat.reduceAdd,Nat.reduceSub,Nat.reduceLeDiff,Nat.reduceLT,implies_true])<;>exact fin2))⟩
 clear hI hc hp1 hp2 hh wf p h
 rintro ⟨p,h,e2⟩ ⟨hp1,hp2,hh,hI⟩ wf
 simp only at hp1 hp2 hh hI
 unfold zb7
 (repeat first | simp (disch:=try exact dis1) only [evD,Nat.reduceBEq,Nat.reduceAdd,Nat.reduceLeDiff] | with_reducible intro _ | ((with_reducible apply And.intro);omega))
 refine zjj (fun x:Array Int=>([(0, .own 0 0 g 0 d.size),(1, .int .i64 a),(2, .int .i64 b),(3, .int .i64 l1),(8, .bool wb),(9, .bool wp),(10, .int .i64 (b - a:Nat)),(11, .int .i64 p)],[(0, .row 1 (rW x) g)])) 1
  (fun x=>PInv a0 b0 d a b x) ?_ ?_
 ·
  have h3:=zg9 e2 g a b (by omega) (by rw [hI.2.2.2.1];exact hI.2.1) (by rw [hI.2.2.2.1];omega)
  rw [hI.2.2.2.1] at h3
  have hp:=partialInsertionSort_holds swo_ltInt e2 a b (by omega) (by rw [hI.2.2.2.1];exact hI.2.1) hI.2.2.2.2.1
  cases wb with
  | false=>(repeat first | simp (disch:=try exact dis1) only [evD,Nat.reduceBEq,Nat.reduceAdd,Nat.reduceLeDiff,dT,dF] | with_reducible intro _ | ((with_reducible apply And.intro);omega));exact ⟨e2,hI,(Ent.tabB [(0,0,0)] [] rfl rfl rfl (by (try simp only [evWB,Nat.reduceBEq,Nat.reduceAdd,Nat.reduceSub,Nat.reduceLeDiff,Nat.reduceLT,implies_true])<;>exact fin2) (by (try simp only [evWB,Nat.reduceBEq,Nat.reduceAdd,Nat.reduceSub,Nat.reduceLeDiff,Nat.reduceLT,implies_true])<;>exact fin2))⟩
  | true =>
  cases wp with
  | false=>(repeat first | simp (disch:=try exact dis1) only [evD,Nat.reduceBEq,Nat.reduceAdd,Nat.reduceLeDiff,dT,dF] | with_reducible intro _ | ((with_reducible apply And.intro);omega));exact ⟨e2,hI,(Ent.tabB [(0,0,0)] [] rfl rfl rfl (by (try simp only [evWB,Nat.reduceBEq,Nat.reduceAdd,Nat.reduceSub,Nat.reduceLeDiff,Nat.reduceLT,implies_true])<;>exact fin2) (by (try simp only [evWB,Nat.reduceBEq,Nat.reduceAdd,Nat.reduceSub,Nat.reduceLeDiff,Nat.reduceLT,implies_true])<;>exact fin2))⟩
  | true =>
  by_cases h1:h=1
  ·
   subst h1
   (repeat first | simp (disch:=try exact dis1) only [evD,Nat.reduceBEq,Nat.reduceAdd,Nat.reduceLeDiff,dT,dF] | with_reducible intro _ | ((with_reducible apply And.intro);omega))
   refine zw [(0,0,0)] 1 _ (h3) rfl rfl fin9 fin9 ?_
   rintro v H nx ⟨rfl,rfl,rfl⟩
   cases hpi:(partialInsertionSort ltInt e2 a b).2
   ·
    (repeat first | simp (disch:=try exact dis1) only [evD,Nat.reduceBEq,Nat.reduceAdd,Nat.reduceLeDiff,zcX] | with_reducible intro _ | ((with_reducible apply And.intro);omega))
    exact ⟨(partialInsertionSort ltInt e2 a b).1,hI.perm hp.1,(Ent.tabB [(0,0,0)] [] rfl rfl rfl (by (try simp only [evWB,Nat.reduceBEq,Nat.reduceAdd,Nat.reduceSub,Nat.reduceLeDiff,Nat.reduceLT,implies_true])<;>exact fin2) (by (try simp only [evWB,Nat.reduceBEq,Nat.reduceAdd,Nat.reduceSub,Nat.reduceLeDiff,Nat.reduceLT,implies_true])<;>exact fin2))⟩
   ·
    (repeat first | simp (disch:=try exact dis1) only [evD,Nat.reduceBEq,Nat.reduceAdd,Nat.reduceLeDiff,zcX,zag] | with_reducible intro _ | ((with_reducible apply And.intro);omega))
    exact ⟨_,_,1,(Ent.tabB [(0,0,0)] [] rfl rfl rfl (by (try simp only [evWB,Nat.reduceBEq,Nat.reduceAdd,Nat.reduceSub,Nat.reduceLeDiff,Nat.reduceLT,implies_true])<;>exact fin2) (by (try simp only [evWB,Nat.reduceBEq,Nat.reduceAdd,Nat.reduceSub,Nat.reduceLeDiff,Nat.reduceLT,implies_true])<;>exact fin2)),_,hI.2.2.2.2.2 _ hp.1 (hp.2 hpi),rfl,rfl,rfl⟩
  ·
   (repeat first | simp (disch:=try exact dis1) only [evD,Nat.reduceBEq,Nat.reduceAdd,Nat.reduceLeDiff,dT,dF] | with_reducible intro _ | ((with_reducible apply And.intro);omega))
   exact ⟨e2,hI,(Ent.tabB [(0,0,0)] [] rfl rfl rfl (by (try simp only [evWB,Nat.reduceBEq,Nat.reduceAdd,Nat.reduceSub,Nat.reduceLeDiff,Nat.reduceLT,implies_true])<;>exact fin2) (by (try simp only [evWB,Nat.reduceBEq,Nat.reduceAdd,Nat.reduceSub,Nat.reduceLeDiff,Nat.reduceLT,implies_true])<;>exact fin2))⟩
 clear hI hh wf h
 rintro e3 hI wf
 unfold zb1
 obtain ⟨i1,i2,i3,i4,i5,i6⟩:=hI
 have hl:=zfn (d:=e3)
 have gp:=zaI (d:=e3) (i:=p) (by omega)
 rcases Nat.eq_zero_or_pos a with ha | ha
 case' inr =>
  have ea:((a:Int) - 1).toNat=a - 1:=by omega
  have ga:=zaI (d:=e3) (i:=a - 1) (by omega)
  (repeat first | simp (disch:=try exact dis1) only [evD,Nat.reduceBEq,Nat.reduceAdd,Nat.reduceLeDiff,dT,dF,hl,i4,ea,ga,gp] | with_reducible intro _ | ((with_reducible apply And.intro);omega))
  refine zab (zm (zdC _ _) rfl) ?_
  cases hc:ltInt e3[a - 1]! e3[p]!
  case false =>
   have hpe:=zkI e3 g a b p hp1 hp2 (by omega) (by omega)
   obtain ⟨r1,r2,r3,r4,r5⟩:=round_eq swo_ltInt (partitionEqual_holds ltInt) ha hp1 hp2 (by omega) i5 hc (Prod.eta (partitionEqual ltInt e3 a b p)).symm
   rw [i4] at hpe
   (repeat first | simp (disch:=try exact dis1) only [evD,Nat.reduceBEq,Nat.reduceAdd,Nat.reduceLeDiff,dT,dF] | with_reducible intro _ | ((with_reducible apply And.intro);omega))
   refine zw [(0,0,0)] 1 _ (hpe) rfl rfl fin9 fin9 ?_
   rintro v H nx ⟨rfl,rfl,rfl⟩
   (repeat first | simp (disch:=try exact dis1) only [evD,Nat.reduceBEq,Nat.reduceAdd,Nat.reduceLeDiff,zcX] | with_reducible intro _ | ((with_reducible apply And.intro);omega))
   exact ⟨((partitionEqual ltInt e3 a b p).1,b,l1,wb,wp,(partitionEqual ltInt e3 a b p).2),⟨hl1,r2,i2,by simp only;omega,by simp only;omega,r4,fun R h1 h2=>by obtain ⟨q1,q2⟩:=r5 R h1 h2;exact i6 R q1 q2⟩,by simp only;omega,(Ent.tabB [(0,0,0)] [] rfl rfl rfl (by (try simp only [evWB,Nat.reduceBEq,Nat.reduceAdd,Nat.reduceSub,Nat.reduceLeDiff,Nat.reduceLT,implies_true])<;>exact fin2) (by (try simp only [evWB,Nat.reduceBEq,Nat.reduceAdd,Nat.reduceSub,Nat.reduceLeDiff,Nat.reduceLT,implies_true])<;>exact fin2))⟩
  clear hc
  (repeat first | simp (disch:=try exact dis1) only [evD,Nat.reduceBEq,Nat.reduceAdd,Nat.reduceLeDiff,dT,dF] | with_reducible intro _ | ((with_reducible apply And.intro);omega))
 case' inl =>
  (repeat first | simp (disch:=try exact dis1) only [evD,Nat.reduceBEq,Nat.reduceAdd,Nat.reduceLeDiff,dT,dF] | with_reducible intro _ | ((with_reducible apply And.intro);omega))
 all_goals
  have hpa:=zpm e3 g a b p hp1 hp2 (by omega) (by omega)
  rw [i4] at hpa
  refine zw [(0,0,0)] 1 _ (hpa) rfl rfl fin9 fin9 ?_
  rintro v H nx ⟨rfl,rfl,rfl⟩
  obtain ⟨r1,r2,r3,r4,r5,r6,r7⟩:=round_part swo_ltInt (partition_holds ltInt) hp1 hp2 (by omega) i5 (show partition ltInt e3 a b p=((partition ltInt e3 a b p).1,(partition ltInt e3 a b p).2.1,(partition ltInt e3 a b p).2.2) from rfl)
  clear hpa
  generalize (partition ltInt e3 a b p).2.2=d4 at r3 r4 r5 r6 r7 ⊢
  generalize (partition ltInt e3 a b p).2.1=ap at ⊢
  generalize (partition ltInt e3 a b p).1=mid at r1 r2 r4 r5 r6 r7 ⊢
  have e8:((b - a:Nat):Int).tdiv 8=(((b - a) / 8:Nat):Int):=by rw [Int.tdiv_eq_ediv_of_nonneg (by omega)];omega
  have h8:(b - a) / 8≤b - a:=Nat.div_le_self _ _
  generalize (b - a) / 8=q8 at e8 h8
  rcases Nat.lt_or_ge (mid - a) (b - mid) with hlr | hlr
  ·
   have h:=ih d4 g a mid l1 (by omega) r1 (by omega) (by omega) hl1 r4
   rw [r3,i4] at h
   (repeat first | simp (disch:=try exact dis1) only [evD,Nat.reduceBEq,Nat.reduceAdd,Nat.reduceLeDiff,zcX,e8,dT,dF] | with_reducible intro _ | ((with_reducible apply And.intro);omega))
   refine zw [(0,0,0)] 1 _ (h) rfl rfl fin9 fin9 ?_
   rintro v H nx ⟨L,⟨q1,q2⟩,rfl,rfl,rfl⟩
   obtain ⟨s1,s2⟩:=r6 L q1 q2
   have em:(mid:Int)+1=((mid+1:Nat):Int):=by omega
   (repeat first | simp (disch:=try exact dis1) only [evD,Nat.reduceBEq,Nat.reduceAdd,Nat.reduceLeDiff,zcX,em] | with_reducible intro _ | ((with_reducible apply And.intro);omega))
   exact ⟨(mid+1,b,l1,decide ((q8:Int)≤(mid:Int) - (a:Int)),ap,L),⟨hl1,by simp only;omega,i2,by simp only;omega,by rw [q1.1,r3];exact i4,s1,fun R h1 h2=>by obtain ⟨t1,t2⟩:=s2 R h1 h2;exact i6 R t1 t2⟩,by simp only;omega,(Ent.tabB [(0,0,0)] [] rfl rfl rfl (by (try simp only [evWB,Nat.reduceBEq,Nat.reduceAdd,Nat.reduceSub,Nat.reduceLeDiff,Nat.reduceLT,implies_true])<;>exact fin2) (by (try simp only [evWB,Nat.reduceBEq,Nat.reduceAdd,Nat.reduceSub,Nat.reduceLeDiff,Nat.reduceLT,implies_true])<;>exact fin2))⟩
  ·
   have h:=ih d4 g (mid+1) b l1 (by omega) (by omega) (by omega) (by omega) hl1 r5
   rw [r3,i4] at h
   have em:(mid:Int)+1=((mid+1:Nat):Int):=by omega
   (repeat first | simp (disch:=try exact dis1) only [evD,Nat.reduceBEq,Nat.reduceAdd,Nat.reduceLeDiff,zcX,e8,em,dT,dF] | with_reducible intro _ | ((with_reducible apply And.intro);omega))
   refine zw [(0,0,0)] 1 _ (h) rfl rfl fin9 fin9 ?_
   rintro v H nx ⟨L,⟨q1,q2⟩,rfl,rfl,rfl⟩
   obtain ⟨s1,s2⟩:=r7 L q1 q2
   (repeat first | simp (disch:=try exact dis1) only [evD,Nat.reduceBEq,Nat.reduceAdd,Nat.reduceLeDiff,zcX] | with_reducible intro _ | ((with_reducible apply And.intro);omega))
   exact ⟨(a,mid,l1,decide ((q8:Int)≤(b:Int) - (mid:Int)),ap,L),⟨hl1,r1,by simp only;omega,by simp only;omega,by rw [q1.1,r3];exact i4,s1,fun R h1 h2=>by obtain ⟨t1,t2⟩:=s2 R h1 h2;exact i6 R t1 t2⟩,by simp only;omega,(Ent.tabB [(0,0,0)] [] rfl rfl rfl (by (try simp only [evWB,Nat.reduceBEq,Nat.reduceAdd,Nat.reduceSub,Nat.reduceLeDiff,Nat.reduceLT,implies_true])<;>exact fin2) (by (try simp only [evWB,Nat.reduceBEq,Nat.reduceAdd,Nat.reduceSub,Nat.reduceLeDiff,Nat.reduceLT,implies_true])<;>exact fin2))⟩
theorem zpA {zs:List Int} {d':Array Int} (h1:PermIn 0 zs.length zs.toArray d') (h2:SortedIn ltInt 0 zs.length d'):d'.toList=zcd zs:=by
 have hs:zs.toArray.size=zs.length:=by simp
 have:=sorted_unique_holds swo_ltInt (fun x y h1 h2=>by simp only [ltInt,decide_eq_false_iff_not] at h1 h2;omega) zs.toArray d' (by rw [hs];exact h1) (by rw [hs];exact h2)
 rw [this]
 have e:(fun x y:Int => !ltInt y x)=fun x y=>decide (x≤y):=by
  funext x y
  simp only [ltInt]
  by_cases h:y < x
  ·
   have:¬ x≤y:=by omega
   simp [h,this]
  ·
   have:x≤y:=by omega
   simp [h,this]
 rw [e]
 exact zii (.refl _)
theorem zxb (zs:List Int) (g:Nat) (hs:zs.length≤250) :
  zN Try.prog zaM [.own 0 0 g 0 zs.length] [(0, .row 1 (zs.map cW) g)] 1
   (fun v H nx=>v=.tup []∧H=[(0, .row 1 ((zcd zs).map cW) g)]∧nx=1):=by
 refine z7 (fn_x zfC rfl ?_)
 unfold zc7
 have hB:=hBig
 have hb:=(zn1 (n:=zs.length) (by omega)).1
 have h:=zs5 (zs.length+1) zs.toArray g 0 zs.length (lenB zs.length) (by omega) (Nat.zero_le _) (by simp) (by simpa using hs) (by omega) (Or.inl rfl)
 have e1:rW zs.toArray=zs.map cW:=by simp [rW]
 rw [e1,List.size_toArray] at h
 (repeat first | simp (disch:=try exact dis1) only [evD,Nat.reduceBEq,Nat.reduceAdd,Nat.reduceLeDiff,zhf] | with_reducible intro _ | ((with_reducible apply And.intro);omega))
 refine zp (zm (zyB zs.length (by omega)) rfl) ?_
 (repeat first | simp (disch:=try exact dis1) only [evD,Nat.reduceBEq,Nat.reduceAdd,Nat.reduceLeDiff] | with_reducible intro _ | ((with_reducible apply And.intro);omega))
 refine zw [(0,0,0)] 1 _ (h) rfl rfl (by (try simp only [evWB,Nat.reduceBEq,Nat.reduceAdd,Nat.reduceSub,Nat.reduceLeDiff,Nat.reduceLT,implies_true,Int.natCast_zero])<;>exact fin6) (by (try simp only [evWB,Nat.reduceBEq,Nat.reduceAdd,Nat.reduceSub,Nat.reduceLeDiff,Nat.reduceLT,implies_true,Int.natCast_zero])<;>exact fin6) ?_
 rintro v H nx ⟨d',⟨h1,h2⟩,rfl,rfl,rfl⟩
 have e2:=zpA h1 h2
 have e3:rW d'=(zcd zs).map cW:=by unfold rW;rw [e2]
 (repeat first | simp (disch:=try exact dis1) only [evD,Nat.reduceBEq,Nat.reduceAdd,Nat.reduceLeDiff,zcX,zc6] | with_reducible intro _ | ((with_reducible apply And.intro);omega))
 rw [e3]
 exact ⟨_,_,1,(Ent.tabB [(0,0,0)] [] rfl rfl rfl (by (try simp only [evWB,Nat.reduceBEq,Nat.reduceAdd,Nat.reduceSub,Nat.reduceLeDiff,Nat.reduceLT,implies_true])<;>exact fin2) (by (try simp only [evWB,Nat.reduceBEq,Nat.reduceAdd,Nat.reduceSub,Nat.reduceLeDiff,Nat.reduceLT,implies_true])<;>exact fin2)),rfl,rfl,rfl⟩
end Go.Ab
namespace Go.Ab
open Go.RowKit Go.Proofs Go.Sort Go.Shelf
theorem zv7 {α:Type} [Inhabited α] {w:World} {b blk off:Nat} {enc:α→Value} {d:Array α} (h:FzOk w b):FzOk (putRow enc w blk off d) b:=by
 intro c e lo hi hh
 unfold putRow mapBlock at hh
 simp only [Array.getElem?_modify] at hh
 by_cases hb:blk=b
 ·
  subst hb
  rw [if_pos rfl] at hh
  cases ho:w.heap[blk]? with
  | none=>rw [ho] at hh;cases hh
  |
   some o =>
   rw [ho] at hh
   cases o with
   |
    cells c0 e0 f0 =>
    obtain ⟨lo0,hi0⟩:=f0
    simp only [Option.map_some,onCells,Option.some.injEq,Obj.cells.injEq,Prod.mk.injEq] at hh
    obtain ⟨rfl,rfl,rfl,rfl⟩:=hh
    rcases h c0 e0 _ _ ho with h1 | h1
    · exact .inl h1
    · exact .inr (by unfold putCells;simpa using h1)
   | _=>simp [onCells] at hh
 ·
  rw [if_neg hb] at hh
  exact h c e lo hi hh
section
variable {w:World} {L:Nat→Prop} {ι:Inj} {H:AH} {nx:Nat}
theorem zmP {r q g:Nat} {zs:List Int} (hr:H.get r q=some (.row 1 (zs.map fun n=>[.int .i64 n]) g)) (hlen:zs.length≤1000000) :
  zN Try.prog zdg [.own r q g 0 zs.length] H nx (fun v H' nx'=>(v,H',nx')=(.tup [],H.set r q (.row 1 ((zcd zs).map fun n=>[.int .i64 n]) g),nx)):=by
 intro w L ι vs rel hv
 obtain ⟨mv,hvs,hmv⟩:∃ mv,vs=#[mv]∧VR w (Lt L ι H) ι mv (.own r q g 0 zs.length):=by
  rcases vs with ⟨l⟩
  cases hv with
  | cons h1 h2=>cases h2;exact ⟨_,rfl,h1⟩
 subst hvs
 have hsl:(zcd zs).length=zs.length:=(zZ zs).length_eq
 cases hmv with
 |
  own _ _ _ _ _ _ a c l hl hmx hn hc ha =>
  obtain ⟨l',hl',ok⟩:=rel.row _ _ _ _ _ hr
  rw [hl] at hl'
  cases hl'
  have hsame:∀ l0,ι r q g=some l0→l0=l:=fun l0 h0=>by rw [hl] at h0;cases h0;rfl
  have hsz:l.sz=1:=ok.hsz
  have nil:∀ {M:Nat→Prop} {ι':Inj} {w':World},VR w' M ι' (.tuple #[]) (.tup []):=.tup _ _ _ rfl (fun i v a h=>by simp at h)
  rcases Nat.eq_zero_or_pos zs.length with h0 | hpos
  ·
   obtain rfl:zs=[]:=List.eq_nil_of_length_eq_zero h0
   refine (AnyM.slices_Sort_int_none zux a c w).mono fun e w' ⟨he,hw⟩=>?_
   subst hw
   have c1:Chg w' ι H r q g l w':=⟨rfl,rfl,rfl,Nat.le_refl _,fun _ _ _=>rfl,fun hpos=>.inl ⟨1,_,g,l,hr,hl,hpos,rfl⟩,hsame,fun g2 l2 h2=>rel.gen r q _ _ _ hr g2 l2 h2⟩
   refine ⟨_,_,_,_,_,he,c1.step (.inl ⟨_,_,hr⟩) rel (rel.idx _ _ _ _ hl) (Nat.le_refl _) (.mk' ok.hsz (ok.plain hmx).len hmx (ok.plain hmx).there (ok.plain hmx).fz (fun i c h=>by simp [zcd] at h) (fun i c' j a h1 h2=>by simp [zcd] at h1)),Nat.le_refl _,nil,rfl⟩
  ·
   obtain rfl:=ha (by omega)
   have hoff:l.off+0 * l.sz=l.off:=by omega
   rw [hoff]
   have hcap:0 < l.cap * l.sz:=by rw [hsz];omega
   have hblk:=ok.blk_lt hcap
   have hget:∀ {ys:List Int} {j:Nat},j < ys.length→(ys.toArray)[j]! = ys.getD j 0:=fun {ys j} h=>by simp [h,List.getD]
   have hin:∀ j,j < zs.length→w.cell? ⟨l.block,l.off+j,none⟩=some (.int .i64 (zs.getD j 0))∧InR .i64 (zs.getD j 0):=by
    intro j hj
    have e:zs.getD j 0=zs[j]:=by simp [List.getD,hj]
    obtain ⟨v,h1,_,h2⟩:=ok.holds hmx j [.int .i64 zs[j]] 0 (.int .i64 zs[j]) (by rw [List.getElem?_map,List.getElem?_eq_getElem hj];rfl) rfl
    cases h2 with
    |
     int _ _ _ h3 =>
     rw [e]
     simp only [Nat.mul_one,Nat.add_zero] at h1
     exact ⟨h1,h3⟩
   have hH:Holds (Value.int .i64) w l.block l.off zs.toArray:=fun j hj=>by
    have hj':j < zs.length:=by simpa using hj
    rw [hget hj']
    exact ⟨(hin j hj').1,((ok.plain hmx).there j (by have:=(ok.plain hmx).len;simp only [List.length_map] at this;omega)).2⟩
   refine (AnyM.slices_Sort_int zux l.block l.off c zs w hH hblk (by omega)).mono fun e w' ⟨he,n,os,hw⟩=>?_
   rw [zii (List.Perm.refl zs)] at hw
   have hcell:∀ j,j < zs.length→w'.cell? ⟨l.block,l.off+j,none⟩=some (.int .i64 ((zcd zs).getD j 0)):=fun j hj=>by
    rw [hw,cell?_grow _ _ _ (by simpa using hblk),putRow_ahead,cell?_ahead,cell?_putRow _ _ _ _ zs.toArray _ hH (by simpa using hsl) j (by simpa [hsl] using hj),hget (by omega)]
   have hcell2:∀ a:Addr,a.block < w.heap.size→(a.block≠l.block∨a.off < l.off∨l.off+zs.length≤a.off)→w'.cell? a=w.cell? a:=fun a ha hx=>by
    rw [hw,cell?_grow _ _ _ (by simpa using ha),putRow_ahead,cell?_ahead,cell?_putRow_other _ _ _ _ _ _ (by simpa [hsl] using hx)]
   have hfrz:∀ a:Addr,a.block < w.heap.size→w'.frozen? a=w.frozen? a:=fun a ha=>by
    rw [hw,frozen?_grow _ _ _ (by simpa using ha),putRow_ahead,frozen?_ahead,frozen?_putRow]
   have hheap:∀ b,b < w.heap.size→b≠l.block→w'.heap[b]? = w.heap[b]? := fun b hb hne=>by
    rw [hw,heap_grow_old _ _ (by simpa using hb)]
    simp only [putRow,mapBlock,heap_ahead,Array.getElem?_modify]
    rw [if_neg (Ne.symm hne)]
   have c1:Chg w ι H r q g l w':=⟨by rw [hw];rfl,by rw [hw];rfl,by rw [hw];rfl,by rw [hw];simp,fun b hb hn=>hheap b hb (fun hbe=>hn ⟨1,_,g,l,hr,hl,hcap,hbe.symm⟩),fun hpos=>.inl ⟨1,_,g,l,hr,hl,hpos,rfl⟩,hsame,fun g2 l2 h2=>rel.gen r q _ _ _ hr g2 l2 h2⟩
   have hfz:FzOk w' l.block:=by
    have h1:FzOk (putRow (Value.int .i64) (Sort.ahead w n) l.block l.off (zcd zs).toArray) l.block:=zv7 (((ok.plain hmx).fz (by rw [← hsz];exact hcap)).of_heap rfl)
    rw [hw]
    exact h1.of_heap (heap_grow_old _ _ (by simpa using hblk))
   refine ⟨_,_,_,_,_,he,c1.step (.inl ⟨_,_,hr⟩) rel (rel.idx _ _ _ _ hl) (Nat.le_refl _) (.mk' ok.hsz (by have:=(ok.plain hmx).len;simp only [List.length_map] at this ⊢;omega) hmx (fun k hk=>?_) (fun _=>hfz) (fun i c h=>?_) (fun i c' j a h1 h2=>?_)),Nat.le_refl _,nil,rfl⟩
   ·
    rw [hfrz _ hblk]
    refine ⟨?_,((ok.plain hmx).there k hk).2⟩
    by_cases hk2:k < zs.length
    · rw [hcell k hk2];rfl
    ·
     rw [hcell2 _ hblk (.inr (.inr (by simp only;omega)))]
     exact ((ok.plain hmx).there k hk).1
   ·
    rw [List.getElem?_map] at h
    obtain ⟨z,_,rfl⟩:=Option.map_eq_some_iff.1 h
    rfl
   ·
    rw [List.getElem?_map] at h1
    obtain ⟨z,hz,rfl⟩:=Option.map_eq_some_iff.1 h1
    match j with
    |
     0 =>
     cases h2
     have hi:i < zs.length:=by rw [← hsl];exact (List.getElem?_eq_some_iff.1 hz).1
     refine ⟨.int .i64 z,?_,rfl, .int _ _ _ ?_⟩
     ·
      simp only [Nat.mul_one,Nat.add_zero]
      rw [hcell i hi,List.getD_eq_getElem?_getD,hz]
      rfl
     ·
      obtain ⟨k,hk,hke⟩:=List.mem_iff_getElem.1 ((zZ zs).mem_iff.1 (List.mem_of_getElem? hz))
      have:=(hin k hk).2
      simp only [List.getD,List.getElem?_eq_getElem hk,Option.getD_some] at this
      rw [hke] at this
      exact this
    | j+1=>cases h2
end
end Go.Ab
