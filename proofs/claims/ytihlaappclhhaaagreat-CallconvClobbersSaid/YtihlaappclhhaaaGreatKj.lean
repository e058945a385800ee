/-
  Part 10 of the proof: how the calls of this program run, over values instead of memory, and what each function computes.
-/
import Derived.KernelRfl
import Derived.Test.YtihlaappclhhaaaGreatKi
set_option maxRecDepth 100000
set_option linter.unusedVariables false
set_option linter.unusedSimpArgs false
set_option linter.unnecessarySimpa false
set_option linter.unusedSectionVars false
open Go.Ab.Ent renaming keep->Xa,tab->Xd
open Go.Ab.Bl renaming cells->Xb
open Go.Ab.St renaming cells->Xc
open Nat renaming reduceBEq->Xe,reduceAdd->Xf,reduceLeDiff->Xg,le_refl->Xh
open Go.Proofs.Tryz renaming prog->Z9
open Nat renaming zero_le→Wa
open List renaming drop_of_length_le→Wc,drop_eq_getElem_cons→Wd,getElem_mem→We,eq_nil_of_length_eq_zero→Wf,replicate→Wg,all_cons→Wh,getElem?_eq_getElem→Wi,findIdx?_eq_some_iff_getElem→Wj,findIdx?_eq_none_iff→Wk,length_nil→Wm,any_cons→Wn,getD_eq_getElem?_getD→Wo,getLast?_eq_getElem?→Wp,take_length→Wq,cons_append→Wr,mem_iff_getElem→Wt,any_eq_false→Wu,length_cons→Wv
open Bool renaming false_and→Wl,and_eq_true→Ws
namespace Go.Ab
open Go.RowKit Go.Proofs
def zAX:ACode:=Z8 0x8000264001900007219381129c32ea05004006226c26130800640017107229381b00044439c0413142c10001860102c221330000951082120c31ea05001504006229261360200000444396211c32313 []
def zvJ:List ARet:=[.cell 6 true 3,.tmp 7]
theorem zIf:zK Z9 zzX (qRo [3])=some (zAX.strip,zvJ,22):=by kernel_rfl
def zuf:ACode:=Z8 0x88c1000062113088c16c000621131400170202810c012207fa05006225c24133080730251062a00213142c10001860102c221330046410721106fa06220c231308702320006211314006141b8601505004082413350200006211c32213 []
def zit:List ARet:=[.tmp 6]
theorem zBb:zK Z9 zrU (qRo [3])=some (zuf.strip,zit,21):=by kernel_rfl
def zlx:ACode:=Z8 0xdc06c441062100106090bc23108fd0201510042113140000000000000000000000002acec101bd7000013631cd20cfa31131153312843903113111331224380311351133400df61005001760110110301284090011011130122408001105113dc2ec133532701400000002c815c360150110111301224080011051130902c29133 []
def zlD:ACode:=Z8 0x056310521001060800c231 []
def zlJ:ACode:=Z8 0x1909625b100006211315307014000741a3601501105113080725133 [zlx,zlD]
def zlR:ACode:=.seq (.region [ Yaa] [1,2,5]) (.ret)
def zpr:ACode:=Z8 0x190960500000011333021004211c22213 [zlJ,zlR]
attribute[irreducible]zlx zlD zlJ zlR
def zkR:List ARet:=[.tmp 4]
theorem zwH:zK Z9 zig (qRo [2])=some (zpr.strip,zkR,51):=by kernel_rfl
def zqM:ACode:=Z8 0x505441052100106080a231080b300510428002131400002961276040011012140800300c26131530701400631936015030080624133 []
def zqV:ACode:=.seq (.region [(oK 4 (-1))] [0,1,5]) (.ret)
def zww:ACode:=Z8 0x1909605000000113341000042113 [zqM,zqV]
attribute[irreducible]zqM zqV
def zrs:List ARet:=[.tmp 4]
theorem zCL:zK Z9 zmJ (qRo [])=some (zww.strip,zrs,19):=by kernel_rfl
def zsG:ACode:=Z8 0x80001560719381132012340a00300513080560419381044439c0213140c10001360100c22133000231610721b20cfa01108153040825132144439051c52213 []
def znt:List ARet:=[.cell 6 true 3]
theorem zzD:zK Z9 ziq (qRo [5])=some (zsG.strip,znt,19):=by kernel_rfl
def zqQ:ACode:=Z8 0x800000001191022120970300176311341030c6100100176011021030913102100011c0213 []
def zl0:List ARet:=[.tmp 2]
theorem zxE:zK Z9 zjJ (qRo [1])=some (zqQ.strip,zl0,11):=by kernel_rfl
def zrh:ACode:=Z8 0x706a410b210010602c05c231082c5000017200a21131400000024c81221ca0400115bfa01520125402c0011081637c2813153070140000c413c360150110816302c00c25133 []
def zqL:ACode:=Z8 0x8000000000bbc000014c10a21016e701c0013634023f6100101270701df6100a0017601108103dd2b130800000000000bc000015c10a21017d701221ca340310101d3128d32ffa388236035005f61001c0013604000c131403cb350017601108103fc23133 []
def zvo:ACode:=Z8 0x19096050000001133902100a211c52213 [zrh,zqL]
attribute[irreducible]zrh zqL
def zfj:List ARet:=[.tmp 10]
theorem zDx:zK Z9 ztX (qRo [5])=some (zvo.strip,zfj,51):=by kernel_rfl
def zn4:ACode:=Z8 0x07c2101c210011604c07c2310000000000006d1c1022120bd70121e0efd534fa38037036034031823128434c03300cf6100107d21c106d110022111400000000000026c2c1011d701276340311311133128434c03309e61001130fa01820128404c00309c22c133153070145c100016604c05c22133 []
def zoL:ACode:=Z8 0x85d70000008100c2503e2213 []
def zsD:ACode:=Z8 0x1909605002c3101c21001160150302c241330c11000c2113 [zn4,zoL]
attribute[irreducible]zn4 zoL
def zs4:List ARet:=[.tmp 12]
theorem zzo:zK Z9 zpR (qRo [])=some (zsD.strip,zs4,48):=by kernel_rfl
def zom:ACode:=Z8 0x02d2101c210010604c00310000000000000000021d7c102118138d7d1402124e3efded618fb02700260025002120e319fb022c0024c00282202400211021113021224024c00211028113024c0022c04d22235327014000dc410d360150110811304c0dc25133 []
def zoN:ACode:=Z8 0x091c3100c210010603c0bc231 []
def zov:ACode:=Z8 0x1909625ac100001c2113153070140006c419c460150110811303c06c25133 [zom,zoN]
def zoo:ACode:=Z8 0x89d0500001810a22c06e2213 []
def zsH:ACode:=Z8 0x190960500000011330002c410b2111111ac015011081132c251390216ca211c52213 [zov,zoo]
attribute[irreducible]zom zoN zov zoo
def zsp:List ARet:=[.tmp 10]
theorem zzd:zK Z9 zpH (qRo [5])=some (zsH.strip,zsp,51):=by kernel_rfl
def zm3:ACode:=Z8 0x6096410821001060b04c231083c042420062113140000023c711019c14011012140b00a00506c271315307014000c313c360150a00b00c24133 []
def zmY:ACode:=.seq (.region [(oN 6 (.mov (.c (.bool false))))] [2,7,8]) (.ret)
def zqN:ACode:=Z8 0x19096050000001133005115107212235fa0400622924135021006211c32213 [zm3,zmY]
attribute[irreducible]zm3 zmY
def zl4:List ARet:=[.tmp 6]
theorem zxF:zK Z9 znb (qRo [3])=some (zqN.strip,zl4,25):=by kernel_rfl
def zso:ACode:=Z8 0x0521022100106050523100024521381a423874c011110010203000039c05005072511530701431800136050322133 []
def zsz:ACode:=Z8 0x8801313cc814cc2b2213 []
def zyH:ACode:=Z8 0x190960500000011330030000030000030000030000030000030000030000030000cc901130030000030000030000030000030000030000030000030000cc902113 [zso,zsz]
attribute[irreducible]zso zsz
def zyB:List ARet:=[.cell 0 true 24]
theorem zFl:zK Z9 zwz (qRo [])=some (zyH.strip,zyB,12):=by kernel_rfl
def zrd:ACode:=Z8 0xbc0831052100106080823100005d4213812523874c020010103000039c0806d2418d400000000000052c2c01010d70213d2000310c4c32132321623874c328032132321523874c32807e6210020001860211021103021623874c02800223000002c6213816c523874c013201623874c080080061140002750001760110110301523874c080a25131530701461800136080622133 []
def zq9:ACode:=Z8 0x83d102417cc815cc29d2213 []
def zvK:ACode:=Z8 0x19096050000001133002030000030000030000030000030000030000030000030000cc9027c017c22313 [zrd,zq9]
attribute[irreducible]zrd zq9
def zw6:List ARet:=[.cell 4 true 24]
theorem zCO:zK Z9 ztW (qRo [])=some (zvK.strip,zw6,38):=by kernel_rfl
def zhs:List AOper:=[(oF 45 4 1 2),(oL 46 45),(oN 47 (.idx 5 (.t 46) (.c (.int .i64 0)))),(oA 48 5 47),(oA 49 24 3),(oN 50 (.callq znU [(.t 48),(.t 49)])),(oN 5 (.alloc [.int .i64 0,.int .i64 0,.int .u32 0])),(oS 3 5 50)]
def zrV:List (List Nat):=[[],[0],[1],[2],[],[3,4],[],[6,5,5,0,1,2,3,4,5,6]]
def zfw:List Nat:=[6,7]
def zoy:List (List Nat):=[[],[0],[0,1],[0,1,2],[],[0,1,2,3,4],[],[0,1,2,3,4,5,6]]
def zm1:List (List Nat):=[[],[6],[6,7]]
def zef:Plan:=[(0,[],[]),(1,[],[]),(1,[6],[6]),(2,[],[]),(2,[6],[6]),(3,[],[]),(3,[6],[6]),(4,[],[]),(4,[6],[6]),(5,[],[]),(5,[6],[6]),(6,[],[6]),(7,[6],[6,7])]
def zuE:ACode:=.seq (.region [(oN 2 (.rbox (.t 0))),(oN 3 (.box (.t 1))),(oN 4 (.alloc [.int .i64 0,.int .i64 0,.int .u32 0]))] [0,1]) (.seq (.seq (.region [(oF 6 0 1 2),(oL 7 6),(oC 8 .eql 7 2),(oM 9 8),(oG 10 9 true (.fldaddr 2 1 (.t 2))),(oG 11 9 true (.load false 1 (.t 10))),(oG 12 9 true (.bin .geq (.t 11) (.c (.int .i64 0)))),(oN 13 (.pick (.t 9) (.t 12) (.c (.bool false)))),(oM 14 13),(oG 15 14 true (.fldaddr 2 1 (.t 2))),(oG 16 14 true (.load false 1 (.t 15))),(oG 17 14 true (.bin .lss (.t 16) (.c (.int .i64 8)))),(oN 18 (.pick (.t 14) (.t 17) (.c (.bool false))))] [6,7,8,9,10,11,12,13,14,15,16,17]) (.cond (.t 18) (.seq (.region [(oF 19 2 1 2),(oL 20 19),(oN 21 (.xop (.aaddr 8 3) [(.t 3),(.t 20)])),(oA 22 3 21),(oS 3 4 22)] [2,3,18,19,20,21,22]) (.ret)) (.skip))) (.seq (.seq (.region [(oF 23 0 1 2),(oL 24 23),(oC 25 .eql 24 3),(oM 26 25),(oG 27 26 false (.fldaddr 0 1 (.t 2))),(oG 28 26 false (.load false 1 (.t 27))),(oG 29 26 false (.bin .eql (.t 28) (.c (.int .i64 4)))),(oN 30 (.pick (.t 26) (.c (.bool true)) (.t 29))),(oM 31 30),(oG 32 31 true (.fldaddr 4 1 (.t 2))),(oG 33 31 true (.load false 1 (.t 32))),(oG 34 31 true (.len (.t 33))),(oG 35 31 true (.bin .eql (.t 34) (.c (.int .i64 2)))),(oN 36 (.pick (.t 31) (.t 35) (.c (.bool false)))),(oM 37 36),(oG 38 37 true (.fldaddr 4 1 (.t 2))),(oG 39 37 true (.load false 1 (.t 38))),(oG 40 37 true (.idx 5 (.t 39) (.c (.int .i64 1)))),(oG 41 37 true (.fldaddr 0 1 (.t 40))),(oG 42 37 true (.load false 1 (.t 41))),(oG 43 37 true (.bin .eql (.t 42) (.c (.int .i64 1)))),(oN 44 (.pick (.t 37) (.t 43) (.c (.bool false))))] [18,23,24,25,26,27,28,29,30,31,32,33,34,35,36,37,38,39,40,41,42,43]) (.cond (.t 44) (.seq (.draw (zfZ zhs zrV 8 (Wg 8 false)) [3,44,45,46,47,48,49,50]) (.seq (.seq (.region [(oF 51 0 1 5),(oL 52 51),(oC 53 .neq 52 1)] [51,52]) (.cond (.t 53) (.seq (.region [(oA 54 3 5),(oS 3 4 54)] [2,5,53,54]) (.ret)) (.skip))) (.seq (.seq (.region [(oF 55 0 1 2),(oL 56 55),(oC 57 .eql 56 3)] [53,55,56]) (.cond (.t 57) (.draw (.step (oF 58 2 1 5) (.step (oL 59 58) (.step (oF 60 4 1 2) (.step (oL 61 60) (.step (oN 62 (.idx 5 (.t 61) (.c (.int .i64 1)))) (.step (oF 63 1 1 62) (.step (oL 64 63) (.step (oB 65 .add 59 64) (.step (oF 66 2 1 5) (.alt (oS 1 66 65) (.done) (.stop))))))))))) [2,57,58,59,60,61,62,63,64,65,66]) (.draw (.step (oF 67 2 1 5) (.step (oL 68 67) (.step (oF 69 4 1 2) (.step (oL 70 69) (.step (oN 71 (.idx 5 (.t 70) (.c (.int .i64 1)))) (.step (oF 72 1 1 71) (.step (oL 73 72) (.step (oB 74 .sub 68 73) (.step (oF 75 2 1 5) (.alt (oS 1 75 74) (.done) (.stop))))))))))) [2,57,67,68,69,70,71,72,73,74,75]))) (.seq (.region [(oA 76 3 5),(oS 3 4 76)] [5,76]) (.ret))))) (.skip))) (.seq (.region [(oN 77 (.build [.int .i64 0,.int .i64 0,.int .u32 0] [(0,1,(.c (.int .i64 2)))])),(oS 3 4 77)] [2,3,44,77]) (.ret))))
def zbq:List ARet:=[.cell 4 true 3]
theorem zAR:zK Z9 znU (qRo [2])=some (zuE.strip,zbq,78):=by kernel_rfl
def zlF:ACode:=Z8 0xb0c0841052100106080823100006d4213812523874c020010103000039c08004114005c1c41221ca080011061130413000000000ac93d118111230ec523874c04301060110112301523874c08008009114000000001c91017c701001763113110331523874c3805d6100700176080091314002741221ca08001106123a24131530701461800136080622133 []
def zlq:ACode:=Z8 0x84d102417cc815cc2ad2213 []
def zpJ:ACode:=Z8 0x19096050000001133002030000030000030000030000030000030000030000030000cc9021c017c22313 [zlF,zlq]
attribute[irreducible]zlF zlq
def zpy:List ARet:=[.cell 4 true 24]
theorem zvx:zK Z9 zl5 (qRo [3])=some (zpJ.strip,zpy,39):=by kernel_rfl
def zml:ACode:=Z8 0x7d04a4109210010600c03c2310000000dda81018cc8131ce256fb0212de32ffb021c8202600250028cc202214041e350017601101c1030313000001e5213812823874c020010103000039c01101c1130511400000090d81010e7080013631131c11317f610030017601101c103ad2813300000000000da102138135d823874c0212255fb028cc202152020001540211021c1630211021c113022140000009c7101fc7080013631131c1135e6100100176011011039c2813300022c5bc18814403000000000089a21820128400c00305c26131530701400b312c3601503000c0b24133 []
def zmP:ACode:=Z8 0x85e3101061bcc818cc2fe2213 []
def zrk:ACode:=Z8 0x1909605000000113311030000030000030000030000030000030000030000030000cc98247c52213 [zml,zmP]
attribute[irreducible]zml zmP
def zrf:List ARet:=[.cell 8 true 24]
theorem zxh:zK Z9 zjI (qRo [])=some (zrk.strip,zrf,60):=by kernel_rfl
def zjP:List AOper:=[(oF 31 1 1 3),(oL 32 31),(oM 33 8),(oM 34 10),(oI 35 1 33 34),(oL 36 35),(oI 37 2 32 36),(oF 38 1 1 37),(oL 39 38),(oM 40 7),(oM 41 8),(oM 42 10),(oI 43 1 41 42),(oL 44 43),(oI 45 24 40 44),(oA 46 24 45),(oM 47 1),(oM 48 2),(oN 49 (.callq zjI [(.t 39),(.t 46),(.t 47),(.t 48)])),(oN 11 (.alloc [.int .i64 0,.int .i64 0,.int .u32 0,.int .i64 0,.int .i64 0,.int .u32 0,.int .i64 0,.int .i64 0,.int .u32 0,.int .i64 0,.int .i64 0,.int .u32 0,.int .i64 0,.int .i64 0,.int .u32 0,.int .i64 0,.int .i64 0,.int .u32 0,.int .i64 0,.int .i64 0,.int .u32 0,.int .i64 0,.int .i64 0,.int .u32 0])),(oS 24 11 49)]
def zqD:List (List Nat):=[[],[0],[],[],[2,3],[4],[1,5],[6],[7],[],[],[],[10,11],[12],[9,13],[14],[],[],[8,15,16,17],[],[19,18,18,0,1,2,3,4,5,6,7,8,9,10,11,12,13,14,15,16,17,18,19]]
def zlC:List Nat:=[19,20]
def ztS:List (List Nat):=[[],[0],[],[],[2,3],[2,3,4],[0,1,2,3,4,5],[0,1,2,3,4,5,6],[0,1,2,3,4,5,6,7],[],[],[],[10,11],[10,11,12],[9,10,11,12,13],[9,10,11,12,13,14],[],[],[0,1,2,3,4,5,6,7,8,9,10,11,12,13,14,15,16,17],[],[0,1,2,3,4,5,6,7,8,9,10,11,12,13,14,15,16,17,18,19]]
def zsY:List (List Nat):=[[],[19],[19,20]]
def ziN:Plan:=[(0,[],[]),(1,[],[]),(1,[19],[19]),(2,[],[]),(3,[],[]),(4,[],[]),(4,[19],[19]),(5,[],[]),(5,[19],[19]),(6,[],[]),(6,[19],[19]),(7,[],[]),(8,[],[]),(8,[19],[19]),(9,[],[]),(10,[],[]),(11,[],[]),(12,[],[]),(12,[19],[19]),(13,[],[]),(13,[19],[19]),(14,[],[]),(14,[19],[19]),(15,[],[]),(15,[19],[19]),(16,[],[]),(17,[],[]),(18,[],[]),(18,[19],[19]),(19,[],[19]),(20,[19],[19,20])]
def zjO:List AOper:=[(oM 62 7),(oM 63 12),(oM 64 13),(oI 65 1 63 64),(oL 66 65),(oI 67 24 62 66),(oA 68 24 67),(oA 69 24 11),(oN 70 (.callq ztW [(.t 68),(.t 69)])),(oN 14 (.alloc [.int .i64 0,.int .i64 0,.int .u32 0,.int .i64 0,.int .i64 0,.int .u32 0,.int .i64 0,.int .i64 0,.int .u32 0,.int .i64 0,.int .i64 0,.int .u32 0,.int .i64 0,.int .i64 0,.int .u32 0,.int .i64 0,.int .i64 0,.int .u32 0,.int .i64 0,.int .i64 0,.int .u32 0,.int .i64 0,.int .i64 0,.int .u32 0])),(oS 24 14 70)]
def zqC:List (List Nat):=[[],[],[],[1,2],[3],[0,4],[5],[],[6,7],[],[9,8,8,0,1,2,3,4,5,6,7,8,9]]
def zll:List Nat:=[9,10]
def ztN:List (List Nat):=[[],[],[],[1,2],[1,2,3],[0,1,2,3,4],[0,1,2,3,4,5],[],[0,1,2,3,4,5,6,7],[],[0,1,2,3,4,5,6,7,8,9]]
def zs9:List (List Nat):=[[],[9],[9,10]]
def zjt:Plan:=[(0,[],[]),(1,[],[]),(2,[],[]),(3,[],[]),(3,[9],[9]),(4,[],[]),(4,[9],[9]),(5,[],[]),(5,[9],[9]),(6,[],[]),(6,[9],[9]),(7,[],[]),(7,[9],[9]),(8,[],[]),(8,[9],[9]),(9,[],[9]),(10,[9],[9,10])]
def zoG:ACode:=.seq (.seq (.region [(oM 56 13),(oM 57 12),(oE 58 57),(oB 59 .lss 56 58)] [56,57,58]) (.cond (.t 59) (.skip) (.exit 4))) (.seq (.block 5 (.seq (.draw (zfZ zjO zqC 11 (Wg 11 false)) [59,62,63,64,65,66,67,68,69,70]) (.seq (.draw (.step (oM 71 9) (.step (oM 72 71) (.step (oG 73 72 false (.load true 24 (.t 14))) (.step (oG 74 72 false (.mov (.t 7))) (.step (oG 75 72 false (.mov (.t 12))) (.step (oG 76 72 false (.mov (.t 13))) (.step (oG 77 72 false (.idx 1 (.t 75) (.t 76))) (.step (oG 78 72 false (.load false 1 (.t 77))) (.step (oG 79 72 false (.idx 24 (.t 74) (.t 78))) (.step (oG 80 72 false (.load true 24 (.t 79))) (.step (oG 81 72 false (.xop (.eqs true [0,0,0,0,0,0,0,0,0,0,0,0,0,0,0,0,0,0,0,0,0,0,0,0]) [(.t 73),(.t 80)])) (.step (oN 82 (.pick (.t 72) (.c (.bool true)) (.t 81))) (.step (oM 9 82) (.done)))))))))))))) [71,72,73,74,75,76,77,78,79,80,81,82]) (.draw (.step (oM 83 7) (.step (oM 84 12) (.step (oM 85 13) (.step (oI 86 1 84 85) (.step (oL 87 86) (.step (oA 88 24 14) (.step (oI 89 24 83 87) (.alt (oS 24 89 88) (.done) (.stop))))))))) [14,83,84,85,86,87,88,89])))) (.region [(oM 60 13),(oC 61 .add 60 1),(oM 13 61)] [60,61]))
def zor:ACode:=Z8 0x03c00b510a210010601c01d231 []
def zoM:ACode:=.seq (.seq (.region [(oM 25 10),(oM 26 8),(oE 27 26),(oB 28 .lss 25 27)] [25,26,27]) (.cond (.t 28) (.skip) (.exit 2))) (.seq (.block 3 (.seq (.draw (zfZ zjP zqD 21 (Wg 21 false)) [28,31,32,33,34,35,36,37,38,39,40,41,42,43,44,45,46,47,48,49]) (.seq (.draw (.step (oA 50 2 3) (.step (oM 51 8) (.step (oM 52 10) (.step (oI 53 1 51 52) (.step (oL 54 53) (.step (oN 55 (.callq zhT [(.t 50),(.t 54)])) (.step (oM 12 55) (.done)))))))) [50,51,52,53,54,55]) (.seq (.region [(oK 13 0)] []) (.block 4 (.loop zoG)))))) (zor))
def zoh:ACode:=Z8 0x09625000000113cc1100921131507014910c0cc21133 [zoM]
def zou:ACode:=.seq (.region [(oM 90 7),(oM 6 90)] [1,2,3,7,8,9,10,90]) (.ret)
def zs2:ACode:=Z8 0x19096050200011330ac210821109fa06220313007c321cc810002cc40053fa0107c24130003c4107211030000030000030000030000030000030000030000030000cc84fccac015011061133c2513502cc6c6211c32213 [zoh,zou]
attribute[irreducible]zoM zoh zou
def zs8:List ARet:=[.tmp 6]
theorem zzb:zK Z9 zo9 (qRo [3])=some (zs2.strip,zs8,91):=by kernel_rfl
def zpL:ACode:=Z8 0x5d06d3101c210010604c06d231009f11000c2110cf4000000000000000000000002d2cdc0101ce702122000310c4c322c323212213884c321c0321204fde42dfb32503240321cc2321eecc43211321214324c0320c032b0325c02ff621002a0017602110211030214e84021001160215025c0025c01e22230000000025da0102c2211021113021cd240211021214024c0020c002110261138d222335327014002d315d3601500c004c02d24133 []
def zp4:ACode:=Z8 0x000000af5107210ef813c0101001115c01c00a00511400b33c00af2113 []
def zkB:ACode:=Z8 0x1e0bc310a210010601c0bc231 []
def zpp:ACode:=Z8 0x29190962500000011330d12000c2113000d243011812c12302114fc1700176020fc2213302ac31d138103000039b211110010203000039c01c0dc2413153070149c180013601c09c22133 [zpL,zp4,zkB]
def zpM:ACode:=.seq (.region [(oM 75 7),(oM 6 75)] [1,2,3,7,8,9,10,75]) (.ret)
def zuA:ACode:=Z8 0x190960500000a21133000003c60bc0029c08221109fb0262202126c32cfb02500240026223c2223016c011350216c6211c32213 [zpp,zpM]
attribute[irreducible]zpL zp4 zkB zpp zpM
def zui:List ARet:=[.tmp 6]
theorem zBo:zK Z9 zrB (qRo [3])=some (zuA.strip,zui,76):=by kernel_rfl
def zqR:ACode:=Z8 0x800000006c700011c10821018d7012763403113711307f61001130fa07823d29130800000000000007714c1082120cc70101fc7ed61221ca34031130c1235e6103700176340ed61001221ca040011011135c23c130000700287c13814443992124c32ffa07820600500613140a250017601107103a231337021008211c42213 []
def zex:List ARet:=[.tmp 8]
theorem zxL:zK Z9 znA (qRo [4])=some (zqR.strip,zex,39):=by kernel_rfl
def zk0:ACode:=Z8 0x0de2101c210010604c0de23100000000002ce0c10a212003f701208f07f40bfa35034030c031823128434c033c03cf61001c0fe20c155347014009e31ce3601503c004c09e24133 []
def zj4:ACode:=Z8 0x00d00c410b210010602c0ed231 []
def zgs:ACode:=Z8 0x1909645000001c2113000000002dda0100c22110211130214e240211021214022c002b002110261130e22233532701400ad31dd360150b002c0ad24133 [zk0,zj4]
def zam:ACode:=Z8 0x000000011f721181a1130116f813c0101001115c00c00110a11307114000000ee0a91010ef7010c31221ca30c03113a12353f61001c00af2813 []
def zx:ACode:=Z8 0x8e0bc3109210010600c0bc231 []
def zj8:ACode:=Z8 0x29190962500000011333d1100a211300000003d721181a103018d813c0101001115c00c00110a10307114000002ac7110000114010121d0d50afa05004000c00622dc27133153070149c11c0013600c09c22133 [zgs,zam,zx]
def zcV:ACode:=Z8 0x80ef003001719381a3218f2213 []
def zok:ACode:=Z8 0x1909605000000113307c210821109fa06227c231300002c59c13814443972112144439c0125c308fa05004006222c271301444396211c32213 [zj8,zcV]
attribute[irreducible]zk0 zj4 zgs zam zx zj8 zcV
def zer:List ARet:=[.cell 6 true 3]
theorem zuS:zK Z9 zhD (qRo [3])=some (zok.strip,zer,85):=by kernel_rfl
def zwQ:ACode:=Z8 0x8000000000000001025c104212c23ea0126c14c0341315c011061230110611301106103012b190341315c01105123011051130110510304c132003100021c011c22313 []
def zw7:List ARet:=[.tmp 4]
theorem zCg:zK Z9 zgB (qRo [2,3])=some (zwQ.strip,zw7,20):=by kernel_rfl
def zlO:ACode:=Z8 0xa07310421001060707231000007c510321bc813c0101001115c0700600511400000000026b1014c7010c31221ca37031134123fc61001221ca0700110411392b1315307014511c00136070522133 []
def zlt:ACode:=.seq (.region [(oM 24 3),(oM 2 24)] [1,3,4,24]) (.ret)
def zoW:ACode:=Z8 0x19096050000001133016c011310216c011c0213 [zlO,zlt]
attribute[irreducible]zlO zlt
def zpA:List ARet:=[.tmp 2]
theorem zvn:zK Z9 zmd (qRo [1])=some (zoW.strip,zpA,25):=by kernel_rfl
def zra:ACode:=Z8 0x80000254001a11100000722193813bc129da9c236225c221228da031110000072219381318c29da03ac9c28da8c236225c235002406c22230800540017107229381b00044439c0413141c10001860101c2213000941082120c30ea050040062292513360200000444396211c32313 []
def zl1:List ARet:=[.cell 6 true 3,.tmp 7]
theorem zxj:zK Z9 zS (qRoL [3] [(4,[0,1,2,5,6,7,8,9,10,11,12,13,14,15,16,17,18,19,20,21,22,23,24,25,26,27,28,29,30,31,32,33,34,35,36,37,38,39,40,41,42,43,44,45,46,47,48,49,50,51,52,53,54,55,56,57,58,59,60,61,62,63,64,65,66,67,68,69,70,71,72,73,74,75,76,77,78,79,80,81,82,83,84,85,86,87,88,89,90,91,92,93,94,95,96,97,98,99,100,101,102,103,104,105,106,107,108,109,110,111,112,113,114,115,116,117,118,119,120,121,122,123,124,125,126,127,128,129,130,131,132,133,134,135,136,137,138,139,140,141,142,143,144,145,146,147,148,149])])=some (zra.strip,zl1,22):=by kernel_rfl
def ziX:ACode:=Z8 0x05d63101d21004d06dd22108a006c856c0006211314ec0c210c010bd2213000009c0a8dd00cd138144439b28d12c0102c9d2105d21224443a1794c01c00b06d2913002d310a211022d14031315307014303d4d362d2113 []
def zjk:ACode:=.seq (.region [(oK 6 0)] [8,27,28,29]) (.ret)
def zmE:ACode:=Z8 0x1909605ac320000015011eea0622ec241330011c0301810821228da050040bc24130801c300161062a00213148c10001860108c221300a64107211dea06226c23133081c0014200062113140001c415c860150500150401c2513350200006211c32213 [ziX,zjk]
attribute[irreducible]ziX zjk
def zdK:List ARet:=[.tmp 6]
theorem ztc:zK Z9 ziH (qRo [3])=some (zmE.strip,zdK,42):=by kernel_rfl
def zg4:ACode:=Z8 0x01c210621001160900310000000020ca101ac6c37a4c131320212340290023002110212140290024002803c22215307014b1000166090b22133 []
def zhf:ACode:=.seq (.region [(oM 24 5),(oM 4 24)] [0,1,5,6,24]) (.ret)
def zjs:ACode:=Z8 0x190960500831062100116015040824133711052014c722134180042113 [zg4,zhf]
attribute[irreducible]zg4 zhf
def zi6:List ARet:=[.tmp 4]
theorem zqn:zK Z9 zbQ (qRo [])=some (zjs.strip,zi6,25):=by kernel_rfl
def zrc:ACode:=Z8 0x80000000000032013c111111110173813ac121115c10344439c8c228c7c6c300fa6c2340126ea03110300011403401c138eab235229235223c2311111110173813ac121115c10344439c8c228c7c6c300fa6c2340126ea03110300011403401c0c38eab235223c231111110173813ac121115c10344439c8c228c7c6c300fa6c2340126ea0311030002c140c235223c23111110173813ac121115c10344439c8c228c7c6c300fa6c2340126ea033c11c235223c2311110173813ac121115c10344439c8c228c7c6c300fa6c23404c26ea2c235223c23110173813ac121115c10344439c8c228c7c1300fa6c235220240126ea03110300011403401c138eab23522923807c228002404c2240a222300631052122fea04005226241301444394211c22213 []
def zq1:List ARet:=[.cell 4 true 3]
theorem zxt:zK Z9 zgM (qRoL [2] [(2,[0,1,3,4,6,7,8,10,11,12,13,14,15,16,17,18,19,20,21,22,23,24,25,26,27,28,29,30,31,32,33,34,35,36,37,38,39,40,41,42,43,44,45,46,47,48,49,50,51,52,53,54,55,56,57,58,59,60,61,62,63,64,65,66,67,68,69,70,71,72,73,74,75,76,77,78,79,80,81,82,83,84,85,86,87,88,89,90,91,92,93,94,95,96,97,98,99,100,101,102,103,104,105,106,107,108,109,110,111,112,113,114,115,116,117,118,119,120,121,122,123,124,125,126,127,128,129,130,131,132,133,134,135,136,137,138,139,140,141,142,143,144,145,146,147,148,149])])=some (zrc.strip,zq1,21):=by kernel_rfl
def zdp:ACode:=Z8 0x4b631072100a06bc22100000b6610521ac813c0101001115c090080051140000000a81014c7010c312202fa390340fc610012210494c090030a2913082106220021315307014301c00a3682113 []
def zdr:ACode:=Z8 0x804c1300610421103fa080cc2313 []
def zeJ:ACode:=Z8 0x190960500000721133016c01134116c42113 [zdp,zdr]
attribute[irreducible]zdp zdr
def zeZ:List ARet:=[.tmp 4]
theorem zhb:zK Z9 zai (qRo [])=some (zeJ.strip,zeZ,26):=by kernel_rfl
def zjN:ACode:=Z8 0xfc1108c2100bc060210002c85211812ec140014c0b0020bc25109c210822002131530701430acbc369c2113 []
def zkd:ACode:=Z8 0x0cd01336be188144030000000000891c221 []
def zkJ:ACode:=Z8 0x0000bd1504912dece413fa08107104c8202c19e25175 []
def zkt:ACode:=Z8 0x000009eb62009221181209f1402c101c00a006f26108f4000000ee70102f86021144c0211021214021c002a0021144c022c1ee2223 []
def zgl:ACode:=Z8 0x0d0bcb410a210011601c07d231 []
def zgz:ACode:=Z8 0x392919098e7e21b65000000e61112fa011011130122401c0011061130e2713300000026d82e1181819b2122aea0a001220122401c0011061139d2913553470145d100016601c05d22133 [zkd,zkJ,zkt,zgl]
def zgq:ACode:=Z8 0x096450001d410a2100116015011061131d25130d1100921133527014910c00d21133 [zgz]
def zkj:ACode:=.seq (.region [(oM 70 7),(oM 6 70)] [3,4,5,7,9,10,70]) (.ret)
def zkn:ACode:=Z8 0x190962507c2200921133 [zgq,zkj]
def zot:ACode:=Z8 0x19096056c100000150106c231330002c41072118181ac015011061132c25133000416c051c047c011c32413 [zjN,zkn]
attribute[irreducible]zjN zkd zkJ zkt zgl zgz zgq zkj zkn
def zn6:List ARet:=[.tmp 6]
theorem zu4:zK Z9 zff (qRo [3,5])=some (zot.strip,zn6,71):=by kernel_rfl
def zjd:ACode:=Z8 0x05c83201234a4c1b0080ec23100bc31082102c0cc154c031335270143ac1102c0cc2dac2213 []
def zi9:ACode:=.region [(oC 28 .add 13 1),(oM 13 28)] [21,28]
def zjr:ACode:=Z8 0x19096250009751134c011012140a00405c2513002c3107211022c14031315307014303c4c362c2113 [zjd,zi9]
def zjn:ACode:=.seq (.region [(oM 29 5),(oM 4 29)] [1,5,11,12,13,29]) (.ret)
def zmG:ACode:=Z8 0x1909605722000001501116fa0522a24133911052014c922133028004211c22213 [zjr,zjn]
attribute[irreducible]zjd zi9 zjr zjn
def zm5:List ARet:=[.tmp 4]
theorem ztw:zK Z9 ziD (qRo [2])=some (zmG.strip,zm5,30):=by kernel_rfl
def zdN:ACode:=Z8 0xdc1107c2100ac0602101c931224b4c10c0030bc231008c3109211028c14031315307014309cac368c2113 []
def zdR:ACode:=Z8 0x7d1101d21004d0602109cb3201234a4c12c00305d231002d310b211022d14031335327014303d4d362d2113 []
def zdM:ACode:=Z8 0x2dd1c3102e21005e06021000dd1c4201234a4c14c00300311400006e5101be701c0013634c02df61000001660106e2613003e3101c211023e14031365357014304e5e363e2113 []
def zdW:ACode:=Z8 0x09f11003f210006f0602107e3c3201234a4c16c003007f2310004f3103c2110204f140313853770143005f06f3604f2113 []
def zdQ:ACode:=Z8 0x019675be32000001506001f2313149c03d22510fe2a00cd7600f221309655000103d10290000015010101d01fd24443a0794c01108153050cd271314bd110ad2500176bd221345600fc411081038d2213 [zdM,zdW]
def zdT:ACode:=Z8 0x19096256005c4000001501132fa0882ec24133 [zdR,zdQ]
def zeS:ACode:=Z8 0x19096054c1000001501124fa01824c241331141c52113 [zdN,zdT]
attribute[irreducible]zdN zdR zdM zdW zdQ zdT
def zbs:List ARet:=[]
theorem zjL:zK Z9 zcR (qRo [5])=some (zeS.strip,zbs,70):=by kernel_rfl
def zi2:ACode:=Z8 0xdc1108c2100bc0602103c732011811921874c010bc23109c210722002131530701430800bc369c2113 []
def zfL:ACode:=Z8 0x0df110ce2100fe060df22100000000000000e2c3c1021181302f921874c0210106f702109f2000300c4c32132321823874c325c0321323212c23874c325c043f62100211021921874c025c00210fe2220de2102c22002137536701430800fe36de2113 []
def zfK:ACode:=Z8 0x0005c0dd1c712ccc811211f323fa04004c8202ccc20ef251 []
def zfO:ACode:=.region [(oC 78 .add 49 1),(oM 49 78)] [78]
def zfM:ACode:=Z8 0x2919009665be1000001131409e2a00176011011039e23133006e3be188144030000000000891c2182026e84041355347014307e8e366e2113 [zfL,zfK,zfO]
def ziO:ACode:=Z8 0x1d007db5106d21009d0613f221 []
def zjp:ACode:=Z8 0x190964500003da60000015011011130122401c001105113ed2813000ad40e1cc81030000030000030000030000030000030000030000030000cc9b21cc2012cc401c00b0ad2613007d310a211027d14031335327014308d9d367d2113 [zfM,ziO]
def zje:ACode:=Z8 0x408f4c31015f210018f061ef2210000008f4c6103c211df813c0101001115c07c006c0051145c11019f21130016f31bf00204c218f17f201884c0200413953870143080018f3616f2113 []
def zjm:ACode:=Z8 0x809004f3c510421103fa06c01ff2313 []
def ziZ:ACode:=Z8 0x1909685610000098214f2213300bc2201716c3c2113 [zje,zjm]
def zim:ACode:=Z8 0x19096253d1000001501122fa05223d24133000d3108212221fa04005220413058c3430118111230700823874cec2313 [zjp,ziZ]
def zmt:ACode:=Z8 0x1909605000008c211337c1ac188111111111896201111111189c7c23136c19c1cc81030000030000030000030000030000030000030000030000cc952020fa6c231330216c4211c22213 [zi2,zim]
attribute[irreducible]zi2 zfL zfK zfO zfM ziO zjp zje zjm ziZ zim
def zmj:List ARet:=[.tmp 4]
theorem ztj:zK Z9 ziF (qRo [2])=some (zmt.strip,zmj,93):=by kernel_rfl
def zgo:ACode:=Z8 0x7e110fd21002e060210006d0c511ccc81126e323fa04003c8201ccc23e251000e35e188144030000000000890c2182020e84041355347014301e2e360e2113 []
attribute[irreducible]zgo
def zhK:List AOper:=[(oM 63 5),(oM 64 14),(oI 65 24 63 64),(oA 66 24 65),(oA 67 24 10),(oN 68 (.callq zdv [(.t 66),(.t 67)])),(oN 15 (.alloc [.int .i64 0,.int .i64 0,.int .u32 0,.int .i64 0,.int .i64 0,.int .u32 0,.int .i64 0,.int .i64 0,.int .u32 0,.int .i64 0,.int .i64 0,.int .u32 0,.int .i64 0,.int .i64 0,.int .u32 0,.int .i64 0,.int .i64 0,.int .u32 0,.int .i64 0,.int .i64 0,.int .u32 0,.int .i64 0,.int .i64 0,.int .u32 0])),(oS 24 15 68)]
def znQ:List (List Nat):=[[],[],[0,1],[2],[],[3,4],[],[6,5,5,0,1,2,3,4,5,6]]
def zij:List Nat:=[6,7]
def zqF:List (List Nat):=[[],[],[0,1],[0,1,2],[],[0,1,2,3,4],[],[0,1,2,3,4,5,6]]
def zpu:List (List Nat):=[[],[6],[6,7]]
def zgU:Plan:=[(0,[],[]),(1,[],[]),(2,[],[]),(2,[6],[6]),(3,[],[]),(3,[6],[6]),(4,[],[]),(4,[6],[6]),(5,[],[]),(5,[6],[6]),(6,[],[6]),(7,[6],[6,7])]
def zgx:ACode:=.seq (.region [(oB 60 .lss 59 58)] []) (.seq (.cond (.t 60) (.skip) (.exit 6)) (.seq (.block 7 (.seq (.region [(oI 61 1 57 59),(oL 62 61),(oM 14 62)] [60,61,62]) (.seq (.draw (zfZ zhK znQ 8 (Wg 8 false)) [63,64,65,66,67,68]) (.seq (.draw (.step (oA 69 24 15) (.step (oM 70 5) (.step (oM 71 14) (.step (oI 72 24 70 71) (.step (oA 73 24 72) (.step (oN 74 (.xop (.eqs true [0,0,0,0,0,0,0,0,0,0,0,0,0,0,0,0,0,0,0,0,0,0,0,0]) [(.t 69),(.t 73)])) (.done))))))) [69,70,71,72,73]) (.cond (.t 74) (.region [(oM 75 5),(oM 76 14),(oA 77 24 15),(oI 78 24 75 76),(oS 24 78 77),(oN 7 (.mov (.c (.bool true))))] [14,15,74,75,76,77,78]) (.skip)))))) (.region [(oC 79 .add 59 1),(oM 59 79)] [14,15,74,79])))
def zkX:ACode:=Z8 0x0966500008003d99000001501116fa01220122400c0011051138e2813 [zgx]
def zki:ACode:=Z8 0x8c002ea5100d21003d0614f221 []
def zkg:ACode:=Z8 0x29190964500008d50000015011011130122400c0011051138d281330004d4ad1cc81030000030000030000030000030000030000030000030000cc9a21cc2012cc400c00804d2613001d3109211021d14031335327014302d3d361d2113 [zgo,zkX,zki]
def zj9:ACode:=Z8 0x0962500000015020ec2313dc110072113150701471a0dc21133 [zkg]
def zks:ACode:=Z8 0x88e006c00201910428015f2213 []
def zoc:ACode:=Z8 0x19096050200011330bc210621122fa05220313008c321cc810002cc40020fa0108c24130004c4105211030000030000030000030000030000030000030000030000cc84fccac015011051134c2513302cc6c4211c22213 [zj9,zks]
attribute[irreducible]zgx zkX zki zkg zj9 zks
def zow:List ARet:=[.tmp 4]
theorem zuZ:zK Z9 zkk (qRo [2])=some (zoc.strip,zow,82):=by kernel_rfl
def zjo:ACode:=Z8 0xa11032100606021000325213819423874c011110010203000039c05001062510421022200213153070143080063642113 []
def zi1:ACode:=Z8 0x8711313cc814cc2b2213 []
def zmO:ACode:=Z8 0x1909605000003211330030000030000030000030000030000030000030000030000cc901130030000030000030000030000030000030000030000030000cc902113 [zjo,zi1]
attribute[irreducible]zjo zi1
def zmr:List ARet:=[.cell 0 true 24]
theorem ztq:zK Z9 zge (qRo [])=some (zmO.strip,zmr,12):=by kernel_rfl
def zce:ACode:=Z8 0x773e8410cd2100fd060210004be85213812623874c020010103000039c0b009f241140009cfd51004f212202fa0b00110a11305f2513000000003e8904f11811123000f623874c04301060110112301623874c0b00811400000004fd91019e701001763113110331623874c3b029f61007001760b04e2913140000e410fd212202fa0b0011021230e2513350dd210822002132531701430800fd36dd2113 []
def zR:ACode:=Z8 0x84d541c72002919cc816cc20df2213 []
def ze6:ACode:=Z8 0x1900961500000cd211300011d127ed138144439721bd24443a0794c011071530508d26131492ca3106d25001c767d221300000cc46213812623874c020010103000039c0110711305114012c72580013601107113fc2313142cb210dc23001c76ec22130000000000a4b102138138c623874c0219c242fb02152020001540211027163026cc2021102711302214010725800136011071131c2313140c110b21001760c221305911107103922133002030000030000030000030000030000030000030000030000cc96241c017c32313 [zce,zR]
attribute[irreducible]zce zR
def z6:List ARet:=[.cell 6 true 24]
theorem zkD:zK Z9 zbG (qRo [4])=some (ze6.strip,z6,74):=by kernel_rfl
def zep:ACode:=Z8 0x5c2c5310621009060210002c2c55213812523874c020010103000039c0807d241bc40000000000000b93c0108c221011d70214d2000310c4c32132321623874c328032132321523874c32809e6210020001860211021103021623874c02809c222300005357213816c523874c013201623874c0800803c261140000a510920001760110110301523874c010a2613250721052200213153070143080093672113 []
def zeq:ACode:=Z8 0x84d202417cc815cc2bd2213 []
def zfA:ACode:=Z8 0x190960500000621133002030000030000030000030000030000030000030000030000cc9027c017c22313 [zep,zeq]
attribute[irreducible]zep zeq
def zfB:List ARet:=[.cell 4 true 24]
theorem zk1:zK Z9 zdv (qRo [])=some (zfA.strip,zfB,40):=by kernel_rfl
def zbE:List AOper:=[(oA 20 24 2),(oF 21 4 1 3),(oL 22 21),(oN 23 (.idx 5 (.t 22) (.c (.int .i64 0)))),(oA 24 5 23),(oN 25 (.callq zb5 [(.t 20),(.t 24)])),(oN 5 (.alloc [.int .i64 0,.int .i64 0,.int .u32 0])),(oS 3 5 25)]
def zgN:List (List Nat):=[[],[],[1],[2],[3],[0,4],[],[6,5,5,0,1,2,3,4,5,6]]
def zaX:List Nat:=[6,7]
def zd4:List (List Nat):=[[],[],[1],[1,2],[1,2,3],[0,1,2,3,4],[],[0,1,2,3,4,5,6]]
def zdD:List (List Nat):=[[],[6],[6,7]]
def zaJ:Plan:=[(0,[],[]),(0,[6],[6]),(1,[],[]),(2,[],[]),(2,[6],[6]),(3,[],[]),(3,[6],[6]),(4,[],[]),(4,[6],[6]),(5,[],[]),(5,[6],[6]),(6,[],[6]),(7,[6],[6,7])]
def zfF:ACode:=.seq (.region [(oN 2 (.box (.t 0))),(oN 3 (.rbox (.t 1))),(oN 4 (.alloc [.int .i64 0,.int .i64 0,.int .u32 0]))] [0,1]) (.seq (.seq (.region [(oF 6 0 1 3),(oL 7 6)] [6]) (.block 0 (.seq (.region [(oC 9 .eql 7 2),(oM 8 9)] [9]) (.cond (.t 8) (.seq (.region [(oF 10 2 1 3),(oL 11 10),(oC 12 .lss 11 8)] [7,8,10,11]) (.cond (.t 12) (.seq (.region [(oF 13 2 1 3),(oL 14 13),(oN 15 (.xop (.aaddr 8 3) [(.t 2),(.t 14)])),(oA 16 3 15),(oS 3 4 16)] [2,3,12,13,14,15,16]) (.ret)) (.skip))) (.seq (.seq (.region [(oC 18 .eql 7 3),(oM 17 18)] [8,18]) (.cond (.t 17) (.skip) (.region [(oC 19 .eql 7 4),(oM 17 19)] [7,19]))) (.cond (.t 17) (.seq (.draw (zfZ zbE zgN 8 (Wg 8 false)) [2,7,17,20,21,22,23,24,25]) (.seq (.seq (.region [(oF 26 4 1 3),(oL 27 26),(oN 28 (.idx 5 (.t 27) (.c (.int .i64 1)))),(oF 29 0 1 28),(oL 30 29),(oC 31 .neq 30 1),(oM 32 31),(oG 33 32 false (.fldaddr 0 1 (.t 5))),(oG 34 32 false (.load false 1 (.t 33))),(oG 35 32 false (.bin .neq (.t 34) (.c (.int .i64 1)))),(oN 36 (.pick (.t 32) (.c (.bool true)) (.t 35)))] [26,27,28,29,30,31,32,33,34,35]) (.cond (.t 36) (.seq (.seq (.region [(oF 37 0 1 5),(oL 38 37),(oC 39 .eql 38 0),(oM 40 39),(oG 41 40 true (.fldaddr 4 1 (.t 3))),(oG 42 40 true (.load false 1 (.t 41))),(oG 43 40 true (.idx 5 (.t 42) (.c (.int .i64 1)))),(oG 44 40 true (.fldaddr 0 1 (.t 43))),(oG 45 40 true (.load false 1 (.t 44))),(oG 46 40 true (.bin .eql (.t 45) (.c (.int .i64 1)))),(oN 47 (.pick (.t 40) (.t 46) (.c (.bool false))))] [3,36,37,38,39,40,41,42,43,44,45,46]) (.cond (.t 47) (.seq (.region [(oA 48 3 5),(oS 3 4 48)] [5,47,48]) (.ret)) (.skip))) (.seq (.region [(oN 49 (.build [.int .i64 0,.int .i64 0,.int .u32 0] [(0,1,(.c (.int .i64 2)))])),(oS 3 4 49)] [5,47,49]) (.ret))) (.skip))) (.seq (.seq (.region [(oF 50 0 1 3),(oL 51 50),(oC 52 .eql 51 3)] [36,50,51]) (.cond (.t 52) (.draw (.step (oF 53 2 1 5) (.step (oL 54 53) (.step (oF 55 4 1 3) (.step (oL 56 55) (.step (oN 57 (.idx 5 (.t 56) (.c (.int .i64 1)))) (.step (oF 58 1 1 57) (.step (oL 59 58) (.step (oB 60 .add 54 59) (.step (oF 61 2 1 5) (.alt (oS 1 61 60) (.done) (.stop))))))))))) [3,52,53,54,55,56,57,58,59,60,61]) (.draw (.step (oF 62 2 1 5) (.step (oL 63 62) (.step (oF 64 4 1 3) (.step (oL 65 64) (.step (oN 66 (.idx 5 (.t 65) (.c (.int .i64 1)))) (.step (oF 67 1 1 66) (.step (oL 68 67) (.step (oB 69 .sub 63 68) (.step (oF 70 2 1 5) (.alt (oS 1 70 69) (.done) (.stop))))))))))) [3,52,62,63,64,65,66,67,68,69,70]))) (.seq (.region [(oA 71 3 5),(oS 3 4 71)] [5,71]) (.ret))))) (.skip))))))) (.seq (.region [(oN 72 (.build [.int .i64 0,.int .i64 0,.int .u32 0] [(0,1,(.c (.int .i64 2)))])),(oS 3 4 72)] [2,3,7,12,17,72]) (.ret)))
def zF:List ARet:=[.cell 4 true 3]
theorem zk4:zK Z9 zb5 (qRo [3])=some (zfF.strip,zF,73):=by kernel_rfl
def zeC:ACode:=Z8 0x0e110ad2100dd0602100d1c3201234a4c14c00a0ed23100bd3101c21102bd1403135534701430cddd36bd2113 []
def zeE:ACode:=Z8 0x00f110ae2100de060210ed3c3201234a4c16c00a0ee23100be3103c21102be1403137536701430cede36be2113 []
def zeG:ACode:=Z8 0x0006f220700134a4c1a0021140000600cdb97001202fa010121d0104f24443a0794c01102c15304001f2613 []
def zhQ:ACode:=Z8 0x190966500003e50000015010111d017e24443a0794c01102c153040071330371406008d550018601102c1031e23133 [zeE,zeG]
def za7:ACode:=.region [(oC 68 .add 31 1),(oM 31 68)] [66,68]
def zeA:ACode:=Z8 0x2919096457d1000001501124fa01827d24133004d39d18814403000000000089b2182024d84041335327014305d6d364d2113 [zeC,zhQ,za7]
def zhN:ACode:=Z8 0x9d001d4108c2100bc0609f221 []
def zhI:ACode:=Z8 0x190962500002c960000015011011130122400c001106113cc2813009c3109211029c1403131530701430acbc369c2113 [zeA,zhN]
def zhS:ACode:=Z8 0x8005e00a3001a10621226ea0500a00af2413 []
def zkW:ACode:=Z8 0x19096055c1000001501122fa06225c241334c11072014c4c221350216c6211c32213 [zhI,zhS]
attribute[irreducible]zeC zeE zeG zhQ za7 zeA zhN zhI zhS
def zkb:List ARet:=[.tmp 6]
theorem zrM:zK Z9 za4 (qRo [3])=some (zkW.strip,zkb,73):=by kernel_rfl
def zkm:ACode:=Z8 0x8000002071022186311c4c01503001503003007132116c22113 []
def zjV:List ARet:=[.tmp 2]
theorem zrD:zK Z9 zdq (qRo [])=some (zkm.strip,zjV,9):=by kernel_rfl
def zhq:ACode:=Z8 0x4c110a21001c060210853201234a4c1800602c23100b310521102b14031315307014300c1c36b2113 []
def zhu:ACode:=Z8 0x80006004119102218c26ea011041230605c2513 []
def zjf:ACode:=Z8 0x190960571000001501104113724133611032014c6221310216c011c0213 [zhq,zhu]
attribute[irreducible]zhq zhu
def zi4:List ARet:=[.tmp 2]
theorem zqy:zK Z9 zd9 (qRo [1])=some (zjf.strip,zi4,21):=by kernel_rfl
def zcJ:ACode:=.seq (.region [(oN 1 (.rbox (.t 0))),(oN 2 (.mov (.c (.nilfn))))] [0,2]) (.seq (.region [(oN 3 (.mkfn (.func zay) [(.t 1)])),(oM 2 3)] [1,3]) (.ret))
def zcN:List ARet:=[.tmp 2]
theorem zf0:zK Z9 zbl (qRo [1])=some (zcJ.strip,zcN,4):=by kernel_rfl
def zbJ:ACode:=Z8 0x709310321001160609231081400000028810c013c22cbc018201284060041060030b28131530701471000166060722133 []
def zck:ACode:=Z8 0x096050043103210011601504142413 [zbJ]
attribute[irreducible]zbJ
def zfo:List ARet:=[]
theorem zft:zK Z9 zay (qRo [])=some (zck.strip,zfo,19):=by kernel_rfl
def zf7:List St->Bool
 |[]=>true
 |x::l=>(zo8 x == l.isEmpty)&&zf7 l
def inN(n:Int)(t:Int):Bool:=decide (0<=t/\t<n)
def zaO(l:List St):List Int:=match l.getLast? with
 |none=>[]
 |some s=>znu s
def zfR(l:List St)(n:Int):Bool := !l.isEmpty&&(zf7 l&&(zaO l).all (inN n))
theorem zC4{l:List St}{i:Nat}(h:i<l.length):zf7 (l.drop i)=((zo8 l[i] == decide ((i:Int)=(l.length:Int)-1))&&zf7 (l.drop (i+1))):=by
 rw[Wd h,zf7];congr 2;by_cases b:i+1<l.length
 .rw[Wd b,decide_eq_false (by omega)];rfl
 .rw[Wc (by omega),decide_eq_true (by omega)];rfl
theorem zJU{l:List Int}{i:Nat}{p:Int->Bool}(h:i<l.length):(l.drop i).all p=(p l[i]&&(l.drop (i+1)).all p):=by rw[Wd h,Wh]
theorem zpE{l}(h:l.length-1<l.length):zaO l=znu l[l.length-1]:=by unfold zaO;rw[Wp,Wi h]
theorem zwe(b:Bl)(n:Int):zq Z9 zma [.agg b.cells,.int .i64 n] (·=.bool (zfR b.stmts n)):=by
 refine fn_x zvE rfl ?_;refine dcU zo2.eq_1 ?_;have w:=hBig;obtain⟨p,l⟩:=b;simp only[Xb,zfR];by_cases j:l.length=0
 .obtain rfl:l=[]:=Wf j;refine Gw4 @ub @dT @m9O @zcY.eq_1 ?_;intros;exact bzO
 have u:l.isEmpty=false:=by cases l with|nil=>simp at j|cons a l=>rfl
 rw[u];refine Qj ?_;intros;refine zd (λi:Nat=>([(1,.int .i64 n),(2,encP 2 [.int .u32 p,encL 8 Xc l]),(5,.int .i64 i)],[])) 0 (λi=>i<=l.length/\zf7 (l.drop i)=zf7 l) (λi=>l.length-i) 0 ⟨Wa _,rfl⟩ (Xa rfl fin5) ?_;rintro i ⟨v,c⟩ wf;refine dcU zlj.eq_1 ?_;by_cases e:i<l.length
 .rw[zC4 e]at c;refine Gw5 @ub @dT (gmp e) @St.len @St.eight ?_;intros;refine zp (zb (zC6 l[i]) rfl) ?_;generalize zo8 l[i]=q at c;by_cases k:(i:Int)=(l.length:Int)-1
  .rw[decide_eq_true k]at c
   cases q with
   |true=>refine Gw2 @ub @dT ?_;intros;exact⟨i+1,⟨by omega,by simpa using c⟩,by omega,Xa rfl fin5⟩
   |false=>
    replace c:zf7 l=false:=by rw[<-c];rfl
    rw[c];refine Gw3 @ub @dT @zcY.eq_1 ?_;intros;exact bzO
  .rw[decide_eq_false k]at c
   cases q with
   |false=>refine Qj ?_;intros;exact⟨i+1,⟨by omega,by simpa using c⟩,by omega,Xa rfl fin5⟩
   |true=>
    replace c:zf7 l=false:=by rw[<-c];rfl
    rw[c];refine Gw3 @ub @dF @zcY.eq_1 ?_;intros;exact bzO
 rw[Wc (by omega),zf7]at c;rw[<-c];have d:l.length-1<l.length:=by omega
 have g:(((l.length:Nat):Int)-1).toNat=l.length-1:=by omega
 rw[zpE d];refine Qj ?_;intros;refine dcU zlc.eq_1 ?_;refine Gw6 @ub @dT g (gmp d) @St.len @St.eight ?_;intros;refine zc (zb (zxg l[l.length-1]) rfl) ?_;generalize znu l[l.length-1]=t;generalize s:t.all (inN n)=R;refine Gw0 ?_;intros;refine zd (λi:Nat=>([(1,.int .i64 n),(6,za t),(7,.int .i64 i)],[])) 0 (λi=>i<=t.length/\(t.drop i).all (inN n)=R) (λi=>t.length-i) 0 ⟨Wa _,s⟩ (Xa rfl fin5) ?_;rintro i ⟨v,c⟩ wf;refine dcU zlm.eq_1 ?_;by_cases e:i<t.length
 .rw[zJU e]at c;unfold inN at c;by_cases m:0<=t[i]
  .by_cases o:t[i]<n
   .rw[decide_eq_true ⟨m,o⟩,Bool.true_and]at c;refine Gw5 @ub @dT @dF @ua (gmp e) ?_;intros;exact⟨i+1,⟨by omega,c⟩,by omega,Xa rfl fin5⟩
   .rw[decide_eq_false (λh=>o h.2),Wl]at c;subst c;refine Gw6 @ub @dT @dF @ua (gmp e) @zcY.eq_1 ?_;intros;exact bzO
  .rw[decide_eq_false (λh=>m h.1),Wl]at c;subst c;refine Gw6 @ub @dT @dF @ua (gmp e) @zcY.eq_1 ?_;intros;exact bzO
 .rw[Wc (by omega)]at c;replace c:R=true:=by rw[<-c];rfl
  subst c;refine Gw3 @ub @dF @ua ?_;intros;unfold zlo;refine Gw1 @zcY.eq_1 ?_;intros;exact bzO
def ziu:List St->Int
 |[]=>0
 |s::l=>if s.check≠0 then s.check else ziu l
def zmw:List Bl->Int
 |[]=>0
 |b::l=>if ziu b.stmts≠0 then ziu b.stmts else zmw l
def zyh(g:G):Int:=if (!g.blocks.isEmpty&&g.blocks.all λb=>zfR b.stmts g.blocks.length)=true then zmw g.blocks else 18
theorem zwE{l:List St}{i:Nat}(h:i<l.length):ziu (l.drop i)=if l[i].check≠0 then l[i].check else ziu (l.drop (i+1)):=by rw[Wd h,ziu]
theorem zvQ{l:List Bl}{i:Nat}(h:i<l.length):zmw (l.drop i)=if ziu l[i].stmts≠0 then ziu l[i].stmts else zmw (l.drop (i+1)):=by rw[Wd h,zmw]
structure fewB(g:G):Prop where
 blocks:g.blocks.length<=12
 stmts:∀b∈g.blocks,b.stmts.length<=8
def cntB(l:List Bl):Nat:=(l.map λb=>b.stmts.length).sum
theorem zBu{l:List Bl}{i:Nat}(h:i<l.length):cntB (l.take (i+1))=cntB (l.take i)+l[i].stmts.length:=by rw[List.take_succ_eq_append_getElem h];unfold cntB;rw[List.map_append,List.sum_append];simp only[List.map_cons,List.map_nil,List.sum_cons,List.sum_nil,Nat.add_zero]
def zc1(g:G):Int:=if 256<g.blocks.length\/1024<cntB g.blocks then 6 else zyh g
structure manyB(g:G):Prop where
 blocks:g.blocks.length<=1000000
 stmts:∀b∈g.blocks,b.stmts.length<=1000000
theorem zls(g)(D:manyB g):zq Z9 zgd [.agg g.cells] (·=.int .i64 (zc1 g)):=by
 refine fn_x zth rfl ?_;refine dcU zms.eq_1 ?_;have J:=hBig;obtain⟨B,x⟩:=D;obtain⟨q,l⟩:=g;simp only at B x;simp only[G.cells,zc1,zyh];by_cases o:256<l.length
 .rw[if_pos (.inl o)];refine Gw3 @ub @dT @zbT.eq_1 ?_;intros;exact izO
 refine Qj ?_;intros;refine zd (λs:Nat×Nat=>([(1,encP 2 [.int .u32 q,encL 2 Xb l]),(3,.int .i64 s.2),(4,.int .i64 s.1)],[])) 0 (λs=>s.1<=l.length/\s.2=cntB (l.take s.1)/\s.2<=1000000*s.1) (λs=>l.length-s.1) (0,0) ⟨Wa _,rfl,Xh _⟩ (Xa rfl fin5) ?_;rintro⟨i,n⟩ ⟨t,p,F⟩ wf;simp only at t p F;refine dcU zju.eq_1 ?_;by_cases h:i<l.length
 .have e:(l.map Xb).getD i []=[.int .u32 l[i].addr,encL 8 Xc l[i].stmts]:=zj h;have H:=x l[i] (We h);refine Gw3 @ub @dT e ?_;intros;exact⟨(i+1,n+l[i].stmts.length),⟨by simp only;omega,by simp only;rw[zBu h];omega,by simp only;omega⟩,by simp only;omega,Xa rfl fin5⟩
 obtain rfl:i=l.length:=by omega
 rw[Wq]at p;refine Qj ?_;intros;refine dcU ziM.eq_1 ?_;by_cases k:1024<cntB l
 .rw[if_pos (.inr k)];refine Gw3 @ub @dT @zbT.eq_1 ?_;intros;exact izO
 rw[if_neg (by omega)];by_cases u:l.length=0
 .obtain rfl:l=[]:=Wf u;refine Gw5 @ub @dT @dF @m9O @zbT.eq_1 ?_;intros;exact izO
 have C:l.isEmpty=false:=by cases l with|nil=>simp at u|cons a l=>rfl
 rw[C];refine Qj ?_;intros;refine zd (λi:Nat=>([(1,encP 2 [.int .u32 q,encL 2 Xb l]),(5,.int .i64 i)],[])) 0 (λi=>i<=l.length/\((l.drop i).all λb=>zfR b.stmts l.length)=(l.all λb=>zfR b.stmts l.length)) (λi=>l.length-i) 0 ⟨Wa _,rfl⟩ (Xa rfl fin5) ?_;rintro i ⟨t,c⟩ wf;refine dcU ziQ.eq_1 ?_;by_cases h:i<l.length
 .have e:(l.map Xb).getD i []=[.int .u32 l[i].addr,encL 8 Xc l[i].stmts]:=zj h;rw[Wd h,Wh]at c;refine Gw3 @ub @dT e ?_;intros;refine zp (zb (zwe l[i] l.length) rfl) ?_
  cases v:zfR l[i].stmts l.length with
  |true=>rw[v,Bool.true_and]at c;refine Gw0 ?_;intros;exact⟨i+1,⟨by omega,c⟩,by omega,Xa rfl fin5⟩
  |false=>rw[v,Wl]at c;rw[<-c];refine Gw1 @zbT.eq_1 ?_;intros;exact izO
 rw[Wc (by omega)]at c;replace c:(l.all λb=>zfR b.stmts l.length)=true:=by rw[<-c];rfl
 rw[c];refine Qj ?_;intros;unfold zjl;refine Gw0 ?_;intros;refine zd (λi:Nat=>([(1,encP 2 [.int .u32 q,encL 2 Xb l]),(6,.int .i64 i)],[])) 0 (λi=>i<=l.length/\zmw (l.drop i)=zmw l) (λi=>l.length-i) 0 ⟨Wa _,rfl⟩ (Xa rfl fin5) ?_;rintro i ⟨t,c⟩ wf;refine dcU ziS.eq_1 ?_;by_cases h:i<l.length
 .have e:(l.map Xb).getD i []=[.int .u32 l[i].addr,encL 8 Xc l[i].stmts]:=zj h;rw[zvQ h]at c;refine Gw3 @ub @dT e ?_;intros;generalize l[i].stmts=m at e c;generalize l[i].addr=A at e;refine zd (λj:Nat=>([(1,encP 2 [.int .u32 q,encL 2 Xb l]),(6,.int .i64 i),(7,.int .i64 j)],[])) 0 (λj=>j<=m.length/\ziu (m.drop j)=ziu m) (λj=>m.length-j) 0 ⟨Wa _,rfl⟩ (Xa rfl fin5) ?_;rintro j ⟨K,d⟩ I;refine dcU zi0.eq_1 ?_;by_cases w:j<m.length
  .rw[zwE w]at d;refine Gw6 @ub @dT e (gmp w) @St.len @St.eight ?_;intros;refine zc (zb (zu6 m[j]) rfl) ?_;by_cases y:m[j].check=0
   .rw[if_neg (by omega)]at d;refine Qa ?_;intros;exact⟨j+1,⟨by omega,d⟩,by omega,Xa rfl fin5⟩
   .rw[if_pos y]at d;rw[<-d,if_pos y]at c;rw[<-c];refine Gw2 @dT @zbT.eq_1 ?_;intros;exact izO
  .rw[Wc (by omega),ziu]at d;rw[<-d,if_neg (by omega)]at c;refine Gw3 @ub @dF e ?_;intros;refine dcU zi7.eq_1 ?_;refine Gw0 ?_;intros;exact⟨i+1,⟨by omega,c⟩,by omega,Xa rfl fin5⟩
 rw[Wc (by omega),zmw]at c;rw[<-c];refine Qj ?_;intros;unfold zjg;refine Gw1 @zbT.eq_1 ?_;intros;exact izO
end Go.Ab
namespace Go.Ab
open Go.RowKit Go.Proofs
structure PredT(fv:AV)(l:List St)(p:St->Bool):Prop where
 ex:∃f caps,fv=.fn (.func f) caps/\zhd Z9 f=true/\zQ caps=true/\∀s∈l,zq Z9 f ([.agg s.cells]++caps) (·=.bool (p s))
theorem zCu{fv}{l}{p}(g:PredT fv l p){s}(h:s∈l){H}{nx}{k}(e:k (.bool (p s)) H nx):zuC Z9 fv [.agg s.cells] H nx k:=by obtain⟨f,b,rfl,d,c,j⟩:=g.ex;rw[zpQ];refine⟨d,zc (zb (j s h) ?_) e⟩;simp only[Wr,List.nil_append,Wh,Ws];exact⟨rfl,zgw c⟩
theorem zD3{fv}{l}{p}(h:PredT fv l p){H H2}{σ}{D}{t}:Vw H H2 σ D t fv fv:=by
 obtain⟨f,c,rfl,j,g,k⟩:=h.ex;refine .fn _ _ _ _ rfl λi a b d e=>?_
 rw[d]at e;cases e;exact zB (zdu g d)
theorem zqs(l)(fv)(p)(n:PredT fv l p):zq Z9 zbe [encL 8 Xc l,fv] (·=.int .i64 (idxI (l.findIdx? p))):=by
 refine fn_x zfT rfl ?_;refine dcU zcr.eq_1 ?_;have q:=hBig;refine Gw0 ?_;intros;refine zd (λi:Nat=>([(0,encL 8 Xc l),(1,fv),(7,.int .i64 l.length),(8,.int .i64 i)],[])) 0 (λi=>i<=l.length/\∀j (h:j<l.length),j<i->p l[j]=false) (λi=>l.length-i) 0 ⟨Wa _,λj _ h=>by omega⟩ (Xa rfl fin5) ?_;intro i ⟨s,c⟩ wf;refine dcU zbW.eq_1 ?_;refine Gw0 ?_;intros;(refine zA (λh=>?_) (λh=>?_))<;>(try simp only[dcd]at h)
 .have b:i<l.length:=by omega
  refine Gw3 (gmp b) @St.len @St.eight ?_;intros;refine zCu n (We b) ?_;refine Gw0 ?_;intros;(refine zA (λg=>?_) (λg=>?_))<;>(try simp only[dcd]at g)
  ·(refine Gw1 @za3.eq_1 ?_;intros);have e:l.findIdx? p=some i:=by rw[Wj];exact⟨b,g,λj d=>by rw[c j (by omega) d];simp⟩
   rw[e];exact izO
  ·(refine Gw0 ?_;intros);refine⟨i+1,⟨by omega,λj d m=>?_⟩,by omega,Xa rfl fin5⟩;by_cases k:j=i
   .subst k;simpa using g
   .exact c j d (by omega)
 .unfold zb0;refine Gw1 @za3.eq_1 ?_;intros;have e:l.findIdx? p=none:=by rw[Wk];intro x o;obtain⟨j,d,rfl⟩:=Wt.1 o;exact c j d (by omega)
  rw[e];exact izO
theorem zJu{l:List St}{p:St->Bool}:decide (idxI (l.findIdx? p) >= 0)=l.any p:=by
 cases h:l.findIdx? p with
 |none=>have:=Wk.1 h;rw[decide_eq_false (by simp[idxI])];symm;rw[Wu];intro x d;rw[this x d];simp
 |some i=>obtain⟨b,c,_⟩:=Wj.1 h;rw[decide_eq_true (by simp[idxI])];exact(zBZ b c).symm
theorem znO(l)(fv)(p)(b:PredT fv l p):zq Z9 zaT [encL 8 Xc l,fv] (·=.bool (l.any p)):=by refine fn_x ze3 rfl ?_;refine dcU zbU.eq_1 ?_;refine Gw0 ?_;intros;refine zc (zaM (D:=noR) (zqs l fv p b) (.cons (zZ rfl) (.cons (zD3 b) .nil)) (.inl rfl)) ?_;refine Gw1 @zb4.eq_1 ?_;intros;refine⟨_,.bool _ _,?_⟩;rw[<-zJu]
structure PredI(fv:AV)(l:List Int)(p:Int->Bool):Prop where
 ex:∃f caps,fv=.fn (.func f) caps/\zhd Z9 f=true/\zQ caps=true/\∀s∈l,zq Z9 f ([.int .i64 s]++caps) (·=.bool (p s))
theorem zDf{fv}{l}{p}(g:PredI fv l p){s}(h:s∈l){H}{nx}{k}(e:k (.bool (p s)) H nx):zuC Z9 fv [.int .i64 s] H nx k:=by obtain⟨f,b,rfl,d,c,j⟩:=g.ex;rw[zpQ];refine⟨d,zc (zb (j s h) ?_) e⟩;simp only[Wr,List.nil_append,Wh,Ws];exact⟨rfl,zgw c⟩
theorem zEy{fv}{l}{p}(h:PredI fv l p){H H2}{σ}{D}{t}:Vw H H2 σ D t fv fv:=by
 obtain⟨f,c,rfl,j,g,k⟩:=h.ex;refine .fn _ _ _ _ rfl λi a b d e=>?_
 rw[d]at e;cases e;exact zB (zdu g d)
theorem zqz(l)(fv)(p)(n:PredI fv l p):zq Z9 zaZ [za l,fv] (·=.int .i64 (idxI (l.findIdx? p))):=by
 refine fn_x zfl rfl ?_;refine dcU zcS.eq_1 ?_;have q:=hBig;refine Gw1 @ua ?_;intros;refine zd (λi:Nat=>([(0,za l),(1,fv),(7,.int .i64 l.length),(8,.int .i64 i)],[])) 0 (λi=>i<=l.length/\∀j (h:j<l.length),j<i->p l[j]=false) (λi=>l.length-i) 0 ⟨Wa _,λj _ h=>by omega⟩ (Xa rfl fin5) ?_;intro i ⟨s,c⟩ wf;refine dcU zcc.eq_1 ?_;refine Gw0 ?_;intros;(refine zA (λh=>?_) (λh=>?_))<;>(try simp only[dcd]at h)
 .have b:i<l.length:=by omega
  refine Gw2 @ua (gmp b) ?_;intros;refine zDf n (We b) ?_;refine Gw0 ?_;intros;(refine zA (λg=>?_) (λg=>?_))<;>(try simp only[dcd]at g)
  ·(refine Gw1 @zaR.eq_1 ?_;intros);have e:l.findIdx? p=some i:=by rw[Wj];exact⟨b,g,λj d=>by rw[c j (by omega) d];simp⟩
   rw[e];exact izO
  ·(refine Gw0 ?_;intros);refine⟨i+1,⟨by omega,λj d m=>?_⟩,by omega,Xa rfl fin5⟩;by_cases k:j=i
   .subst k;simpa using g
   .exact c j d (by omega)
 .unfold zca;refine Gw1 @zaR.eq_1 ?_;intros;have e:l.findIdx? p=none:=by rw[Wk];intro x o;obtain⟨j,d,rfl⟩:=Wt.1 o;exact c j d (by omega)
  rw[e];exact izO
theorem zKi{l:List Int}{p:Int->Bool}:decide (idxI (l.findIdx? p) >= 0)=l.any p:=by
 cases h:l.findIdx? p with
 |none=>have:=Wk.1 h;rw[decide_eq_false (by simp[idxI])];symm;rw[Wu];intro x d;rw[this x d];simp
 |some i=>obtain⟨b,c,_⟩:=Wj.1 h;rw[decide_eq_true (by simp[idxI])];exact(zBZ b c).symm
theorem znN(l)(fv)(p)(b:PredI fv l p):zq Z9 zcn [za l,fv] (·=.bool (l.any p)):=by refine fn_x zio rfl ?_;refine dcU zd2.eq_1 ?_;refine Gw0 ?_;intros;refine zc (zaM (D:=noR) (zqz l fv p b) (.cons (zZ rfl) (.cons (zEy b) .nil)) (.inl rfl)) ?_;refine Gw1 @zd1.eq_1 ?_;intros;refine⟨_,.bool _ _,?_⟩;rw[<-zKi]
theorem zIF(l)(j:l.length<=100000000):zad Z9 zbM [za l] [] 0 (λv H g=>v=.own 0 0 0 0 l.length/\H=[(0,.row 1 (l.map cI) 0)]/\g=1):=by
 refine zab (fn_x zg5 rfl ?_);unfold zei za;conv in Z8 _ _=>reduce
 have h:=hBig;have c:∀H,zgb 1 (encL 1 (λn=>[.int .i64 n]) l) H=some (l.map cI):=λH=>zFC
 refine Gw1 @zBf ?_;intros
 cases d:(l.length == 0)with
 |true=>
  have e:l=[]:=Wf (by simpa using d);subst e;refine Gw0 ?_;intros;rename_i b;cases b
  ·(refine Gw2 c @zaB.eq_1 ?_;intros);exact⟨.own 0 0 0 0 0,[(0,.row 1 [] 0)],1,(Xd [(0,1,1)] [] rfl Qn Qn),rfl,rfl,rfl⟩
  ·(refine Gw1 @zaB.eq_1 ?_;intros);exact⟨.own 0 0 0 0 0,[(0,.row 1 [] 0)],1,(Xd [(0,1,0)] [] rfl Qn Qn),rfl,rfl,rfl⟩
 |false=>refine Gw2 c @zaB.eq_1 ?_;intros;exact⟨.own 0 0 0 0 l.length,[(0,.row 1 (l.map cI) 0)],1,(Xd [(0,1,1)] [] rfl Qn Qn),rfl,rfl,rfl⟩
theorem renI{ρ:Nat->Nat}{l:List Int}{g:Nat}:AObj.ren ρ (.row 1 (l.map cI) g)=.row 1 (l.map cI) g:=by simp only[AObj.ren];rw[zjw (zy λ_=>rfl)]
theorem ziI(b:Bl)(t:∀s∈b.stmts,s.cases.length<=100000000):zq Z9 zfd [.agg b.cells] (·=za (zaO b.stmts)):=by
 refine fn_x zu3 rfl ?_;refine dcU zoa.eq_1 ?_;have x:=hBig;obtain⟨w,l⟩:=b;simp only at t;simp only[Xb];by_cases u:l.length=0
 .obtain rfl:l=[]:=Wf u;refine Gw4 @ub @dT @m9O @zdn.eq_1 ?_;intros;exact⟨_,zaP (l:=[]) trivial rfl (by simp only[Wm];omega),rfl⟩
 have c:l.length-1<l.length:=by omega
 have h:(((l.length:Nat):Int)-1).toNat=l.length-1:=by omega
 have g:=t _ (We c);have k:=zj (f:=Xc) (d:=[]) c;rw[zpE c];generalize l[l.length-1]=s at k g;obtain⟨op,var,m,next,j,v,e,n⟩:=s;simp only[Xc]at k g;unfold znu;simp only;refine Gw5 @ub @dT @dF h k ?_;intros;by_cases o:op=6
 .rw[if_pos o];refine Gw6 @dT @dF @ub @ua @ud @zdn.eq_1 ?_;intros;exact⟨_,zaP (l:=[next]) trivial rfl (by simp only[List.length_singleton];omega),rfl⟩
 rw[if_neg o];by_cases p:op=7
 .rw[if_pos p];refine Gw6 @dT @dF @ub @ua @ud @zdn.eq_1 ?_;intros;exact⟨_,zaP (l:=[next,j]) trivial rfl (by simp only[Wv,Wm];omega),rfl⟩
 rw[if_neg p];by_cases q:op=8
 .rw[if_pos q];refine Gw4 @dT @dF @ub @ud ?_;intros;refine zH [] 0 _ (zIF n g) rfl rfl Gin1_0 Gin1_0 ?_;rintro _ _ _ ⟨rfl,rfl,rfl⟩;refine Gw2 @renI @zdn.eq_1 ?_;intros;exact⟨_,zaP (l:=n) trivial rfl (by omega),rfl⟩
 rw[if_neg q];refine Gw6 @dT @dF @ub @ua @ud @zdn.eq_1 ?_;intros;exact⟨_,zaP (l:=[]) trivial rfl (by simp only[Wm];omega),rfl⟩
theorem zuu:∀(l:List St)(h:l.length-1<l.length),zf7 l=(zo8 (l[l.length-1]'h) && !((l.take (l.length-1)).any zo8))
 |[],h=>by simp at h
 |
  [x],h=>by
  rw[zf7,zf7];simp
 |
  x::y::l,h=>by
  have b:=zuu (y::l) (by simp);rw[zf7,b];simp only[Wv,Nat.add_sub_cancel,List.isEmpty_cons,List.take_succ_cons,Wn];have e:(x::y::l)[l.length+1]=(y::l)[l.length]:=rfl;rw[e];cases zo8 x<;>cases zo8 (y::l)[l.length]<;>simp
theorem zKO{α:Type}{f:α->List AV}{H c:AH}{σ:Nat->Nat->Option (Nat×Nat×Nat)}{D:Nat->Nat->Prop}{t:Bool}{l:List α}{b i n z:Nat}(p:i<=l.length)(k:n=i)(o:z=0)(h:∀a,zQ (f a)=true):
  Vw H c σ D t (.sl b n (λa j=>((l.map f).getD (z+a) []).getD j .undef)) (encL b f (l.take i)):=by
 subst k o;have e:(l.take n).length=n:=by rw[List.length_take];omega
 unfold encL;rw[e];refine .slf _ _ _ _ _ (λa j g q=>?_);have d:(List.map f (List.take n l)).getD a []=(l.map f).getD (0+a) []:=by rw[Nat.zero_add,List.map_take,Wo,List.getElem?_take_of_lt g,Wo]
 rw[d,zj (show 0+a<l.length by omega),Wo]
 cases m:(f l[0+a])[j]? with
 |none=>exact .undef _ _
 |some x=>exact zB (zdu (h _) m)
theorem zyD(l):PredT (.fn (.func zfk) []) l zo8:=⟨_,_,rfl,by kernel_rfl,rfl,λs _=>zn9 s⟩
theorem zxs(t ad)(l):zq Z9 zjK [.int .i64 t,encP 2 [.int .u32 ad,encL 2 Xb l]] (·=.bool (!inN l.length t)):=by
 refine fn_x zxJ rfl ?_;unfold zqK inN;conv in Z8 _ _=>reduce
 have d:=hBig;by_cases b:0<=t
 .by_cases c:t<l.length
  .rw[decide_eq_true ⟨b,c⟩];refine Gw4 @ub @dT @dF @zif.eq_1 ?_;intros;exact bzO
  .rw[decide_eq_false (λh=>c h.2)];refine Gw4 @ub @dT @dF @zif.eq_1 ?_;intros;exact bzO
 .rw[decide_eq_false (λh=>b h.1)];refine Gw4 @ub @dT @dF @zif.eq_1 ?_;intros;exact bzO
theorem zt2(b)(l)(m):PredI (.fn (.func zjK) [encP 2 [.int .u32 b,encL 2 Xb l]]) m (λt=> !inN l.length t):=⟨_,_,rfl,by kernel_rfl,rfl,λs _=>zxs s b l⟩
theorem zzs(g)(B:manyB g)(v:∀b∈g.blocks,∀s∈b.stmts,s.cases.length<=100000000):zq Z9 zrJ [.agg g.cells] (·=.bool (!g.blocks.isEmpty&&g.blocks.all λb=>zfR b.stmts g.blocks.length)):=by
 refine fn_x zA6 rfl ?_;refine dcU zuw.eq_1 ?_;have F:=hBig;obtain⟨y,C⟩:=B;obtain⟨n,l⟩:=g;simp only at y C v;simp only[G.cells];by_cases u:l.length=0
 .obtain rfl:l=[]:=Wf u;refine Gw4 @ub @dT @m9O @zfi.eq_1 ?_;intros;exact bzO
 have A:l.isEmpty=false:=by cases l with|nil=>simp at u|cons a l=>rfl
 rw[A];generalize x:(l.all λb=>zfR b.stmts l.length)=R;refine Qj ?_;intros;refine zd (λi:Nat=>([(1,encP 2 [.int .u32 n,encL 2 Xb l]),(11,encL 2 Xb l),(12,.int .i64 l.length),(13,.int .i64 i)],[])) 0 (λi=>i<=l.length/\((l.drop i).all λb=>zfR b.stmts l.length)=R) (λi=>l.length-i) 0 ⟨Wa _,x⟩ (Xa rfl fin5) ?_;rintro i ⟨H,c⟩ wf;unfold zpk;by_cases o:i<l.length
 .have k:(l.map Xb).getD i []=[.int .u32 l[i].addr,encL 8 Xc l[i].stmts]:=zj o;have e:=ziI l[i] (v _ (We o));rw[Wd o,Wh]at c;simp only[Xb]at e;generalize l[i].stmts=m at k c e;generalize l[i].addr=w at k e;by_cases j:m.length=0
  .obtain rfl:m=[]:=Wf j;replace c:R=false:=by rw[<-c];rfl
   subst c;refine Gw5 @ub @dT k @m9O @zfi.eq_1 ?_;intros;exact bzO
  have d:m.length-1<m.length:=by omega
  have h:(((m.length:Nat):Int)-1).toNat=m.length-1:=by omega
  have p:m.isEmpty=false:=by cases m with|nil=>simp at j|cons a l=>rfl
  unfold zfR at c;rw[p,zuu m d]at c;refine Gw8 @ub @dT @dF k h (gmp d) @St.len @St.eight ?_;intros;refine zc (zb (zn9 m[m.length-1]) rfl) ?_;generalize zo8 m[m.length-1]=q at c
  cases q with
  |false=>
   replace c:R=false:=by rw[<-c];rfl
   subst c;refine Gw1 @zfi.eq_1 ?_;intros;exact bzO
  |true=>
   refine Gw3 @ub @zw4 h ?_;intros;refine zc (zaM (D:=noR) (znO (m.take (m.length-1)) _ _ (zyD _)) (.cons (zKO (by omega) (by omega) rfl (λ_=>rfl)) (.cons (zD3 (zyD (m.take (m.length-1)))) .nil)) (.inl rfl)) ?_;generalize (m.take (m.length-1)).any zo8=q at c
   cases q with
   |true=>
    replace c:R=false:=by rw[<-c];rfl
    subst c;refine Gw1 @zfi.eq_1 ?_;intros;exact bzO
   |false=>
    refine Gw1 @ub ?_;intros;refine zc (zb e rfl) ?_;refine Gw1 @ub ?_;intros;refine zc (zaM (D:=noR) (znN (zaO m) _ _ (zt2 n l _)) (.cons (zZ rfl) (.cons (zEy (zt2 n l (zaO m))) .nil)) (.inl rfl)) ?_;rw[List.all_eq_not_any_not]at c;generalize ((zaO m).any λt=> !inN l.length t)=q at c
    cases q with
    |true=>
     replace c:R=false:=by rw[<-c];rfl
     subst c;refine Gw1 @zfi.eq_1 ?_;intros;exact bzO
    |false=>
     replace c:((l.drop (i+1)).all λb=>zfR b.stmts l.length)=R:=by rw[<-c];rfl
     refine Gw0 ?_;intros;exact⟨i+1,⟨by omega,c⟩,by omega,(Xd [] [] rfl Qn Qn)⟩
 .rw[Wc (by omega)]at c;replace c:R=true:=by rw[<-c];rfl
  subst c;refine Qj ?_;intros;unfold zoY;refine Gw1 @zfi.eq_1 ?_;intros;exact bzO
theorem zmC(g)(w:manyB g)(F:∀b∈g.blocks,∀s∈b.stmts,s.cases.length<=100000000):zq Z9 zhx [.agg g.cells] (·=.int .i64 (zc1 g)):=by
 refine fn_x zva rfl ?_;refine dcU zoI.eq_1 ?_;have J:=hBig;have k:=zzs g w F;obtain⟨D,v⟩:=w;obtain⟨B,l⟩:=g;simp only at D v k;simp only[G.cells,zc1,zyh]at k⊢;refine Gw1 @ub ?_;intros;refine zd (λs:Nat×Nat=>([(1,encP 2 [.int .u32 B,encL 2 Xb l]),(3,.int .i64 s.2),(12,encL 2 Xb l),(13,.int .i64 l.length),(14,.int .i64 s.1)],[])) 0 (λs=>s.1<=l.length/\s.2=cntB (l.take s.1)/\s.2<=1000000*s.1) (λs=>l.length-s.1) (0,0) ⟨Wa _,rfl,Xh _⟩ (Xa rfl fin5) ?_;rintro⟨i,n⟩ ⟨x,t,H⟩ wf;simp only at x t H;refine dcU zkG.eq_1 ?_;by_cases h:i<l.length
 .have p:(l.map Xb).getD i []=[.int .u32 l[i].addr,encL 8 Xc l[i].stmts]:=zj h;have u:=v l[i] (We h);refine Gw3 @ub @dT p ?_;intros;exact⟨(i+1,n+l[i].stmts.length),⟨by simp only;omega,by simp only;rw[zBu h];omega,by simp only;omega⟩,by simp only;omega,(Xd [] [] rfl Qn Qn)⟩
 obtain rfl:i=l.length:=by omega
 rw[Wq]at t;refine Qj ?_;intros;refine dcU zjW.eq_1 ?_;by_cases o:256<l.length
 .rw[if_pos (.inl o)];refine Gw3 @ub @dT @zdl.eq_1 ?_;intros;exact izO
 by_cases e:1024<cntB l
 .rw[if_pos (.inr e)];refine Gw4 @ub @dT @dF @zdl.eq_1 ?_;intros;exact izO
 rw[if_neg (by omega)]
 (repeat first|simp(disch:=try exact dis1) only[evD,Xe,Xf,Xg,fldP,dF,zu,tab,List.getD_cons_zero,List.getD_cons_succ]|with_reducible first|intro _|refine aJ ?_)
 refine zc (zb k rfl) ?_;generalize (!l.isEmpty&&l.all λb=>zfR b.stmts l.length)=q
 cases q with
 |false=>refine Gw1 @zdl.eq_1 ?_;intros;exact izO
 |true=>
 rw[if_pos rfl];refine Gw1 @ub ?_;intros;refine zd (λi:Nat=>([(36,encL 2 Xb l),(37,.int .i64 l.length),(38,.int .i64 i)],[])) 0 (λi=>i<=l.length/\zmw (l.drop i)=zmw l) (λi=>l.length-i) 0 ⟨Wa _,rfl⟩ (Xa rfl fin5) ?_;rintro i ⟨x,d⟩ wf;refine dcU zj5.eq_1 ?_;by_cases h:i<l.length
 .have p:(l.map Xb).getD i []=[.int .u32 l[i].addr,encL 8 Xc l[i].stmts]:=zj h;have u:=v l[i] (We h);rw[zvQ h]at d;refine Gw3 @ub @dT p ?_;intros;generalize l[i].stmts=m at p d u;generalize l[i].addr=C at p;refine zd (λj:Nat=>([(36,encL 2 Xb l),(37,.int .i64 l.length),(38,.int .i64 i),(43,encL 8 Xc m),(44,.int .i64 m.length),(45,.int .i64 j)],[])) 0 (λj=>j<=m.length/\ziu (m.drop j)=ziu m) (λj=>m.length-j) 0 ⟨Wa _,rfl⟩ (Xd [] [] rfl Qn Qn) ?_;rintro j ⟨K,c⟩ I;refine dcU zj0.eq_1 ?_;by_cases y:j<m.length
  .rw[zwE y]at c;refine Gw6 @ub @dT (gmp y) @St.len @St.eight @St.flat ?_;intros;refine zc (zb (zvO m[j]) rfl) ?_;by_cases A:m[j].check=0
   .rw[if_neg (by omega)]at c;refine Qa ?_;intros;exact⟨j+1,⟨by omega,c⟩,by omega,(Xd [] [] rfl Qn Qn)⟩
   .rw[if_pos A]at c;rw[<-c,if_pos A]at d;rw[<-d];refine Gw2 @dT @zdl.eq_1 ?_;intros;exact izO
  .rw[Wc (by omega),ziu]at c;rw[<-c,if_neg (by omega)]at d;refine Qj ?_;intros;refine dcU zjT.eq_1 ?_;refine Gw0 ?_;intros;exact⟨i+1,⟨by omega,d⟩,by omega,Xa rfl fin5⟩
 rw[Wc (by omega),zmw]at d;rw[<-d];refine Qj ?_;intros;unfold zkU;refine Gw1 @zdl.eq_1 ?_;intros;exact izO
def hasI(l:List Int)(t:Int):Bool:=l.any λx=>decide (x=t)
theorem R24_Has_ok(l)(t):zq Z9 zaY [za l,.int .i64 t] (·=.bool (hasI l t)):=by
 refine fn_x zx0 rfl ?_;unfold ztA hasI;conv in Z8 _ _=>reduce
 have g:=hBig;generalize e:(l.any λx=>decide (x=t))=R;refine Gw1 @ua ?_;intros;refine zd (λi:Nat=>([(0,za l),(1,.int .i64 t),(5,.int .i64 i)],[])) 0 (λi=>i<=l.length/\((l.drop i).any λx=>decide (x=t))=R) (λi=>l.length-i) 0 ⟨Wa _,e⟩ (Xa rfl fin5) ?_;rintro i ⟨h,b⟩ wf;refine dcU zno.eq_1 ?_;by_cases c:i<l.length
 .rw[Wd c,Wn]at b;by_cases d:l[i]=t
  .rw[decide_eq_true d,Bool.true_or]at b;subst b;refine Gw4 @dT @ua (gmp c) @zmV.eq_1 ?_;intros;exact bzO
  .rw[decide_eq_false d,Bool.false_or]at b;refine Gw4 @dT @dF @ua (gmp c) ?_;intros;exact⟨i+1,⟨by omega,b⟩,by omega,Xa rfl fin5⟩
 .rw[Wc (by omega)]at b;replace b:R=false:=by rw[<-b];rfl
  subst b;refine Gw2 @dF @ua ?_;intros;unfold znK;refine Gw1 @zmV.eq_1 ?_;intros;exact bzO
theorem zrO(l)(t):zq Z9 zeH [za l,.int .i64 t] (λa=>∃n:Int,a=.int .i64 n/\decide (n >= 0)=hasI l t):=by
 refine fn_x znj rfl ?_;unfold zht hasI;conv in Z8 _ _=>reduce
 have j:=hBig;generalize g:(l.any λx=>decide (x=t))=R;refine Gw1 @ua ?_;intros;refine zd (λi:Nat=>([(0,za l),(1,.int .i64 t),(7,.int .i64 l.length),(8,.int .i64 i)],[])) 0 (λi=>i<=l.length/\((l.drop i).any λx=>decide (x=t))=R) (λi=>l.length-i) 0 ⟨Wa _,g⟩ (Xa rfl fin5) ?_;rintro i ⟨k,b⟩ wf;refine dcU zfI.eq_1 ?_;by_cases e:i<l.length
 .rw[Wd e,Wn]at b;by_cases d:l[i]=t
  .rw[decide_eq_true d,Bool.true_or]at b;subst b;have c:decide (t=l[i])=true:=decide_eq_true d.symm;refine Gw5 @dT c @ua (gmp e) @zd5.eq_1 ?_;intros;exact⟨_,.int _ _ _,i,rfl,decide_eq_true (by omega)⟩
  .rw[decide_eq_false d,Bool.false_or]at b;have c:decide (t=l[i])=false:=decide_eq_false (λh=>d h.symm);refine Gw4 @dT c @ua (gmp e) ?_;intros;exact⟨i+1,⟨by omega,b⟩,by omega,Xa rfl fin5⟩
 .rw[Wc (by omega)]at b;replace b:R=false:=by rw[<-b];rfl
  subst b;refine Gw2 @dF @ua ?_;intros;unfold zfD;refine Gw1 @zd5.eq_1 ?_;intros;exact⟨_,.int _ _ _,-1,rfl,rfl⟩
theorem zaI(l)(t):zq Z9 zav [za l,.int .i64 t] (·=.bool (hasI l t)):=by refine fn_x zk2 rfl ?_;refine dcU zfG.eq_1 ?_;have c:=hBig;refine Gw0 ?_;intros;refine zHT (D:=noR) (zrO l t) (.cons (zZ rfl) (.cons (zZ rfl) .nil)) (λa ⟨n,h,_⟩=>.inl (by rw[h];rfl)) ?_;rintro _ ⟨n,rfl,b⟩;refine Gw2 b @zfJ.eq_1 ?_;intros;exact bzO
end Go.Ab
namespace Go.Ab.Dm
open Go.RowKit Go.Proofs
theorem zj{α β:Type}{f:α->β}{l:List α}{i:Nat}{d:β}(h:i<l.length):(l.map f).getD i d=f l[i]:=zhv (Wi h)
theorem R24_Has_ok(l)(x):zq Z9 zaY [za l,.int .i64 x] (·=.bool (decide (x∈l))):=by
 refine fn_x zx0 rfl ?_;refine dcU ztA.eq_1 ?_;simp only[evD,Xe,Xf,Xg];refine zd (λi:Nat=>([(0,za l),(1,.int .i64 x),(5,.int .i64 i)],[])) 0 (λi=>i<=l.length/\x∉l.take i) (λi=>l.length-i) 0 ⟨Wa _,by simp⟩ (Xa rfl fin5) ?_;intro i ⟨j,d⟩ wf;refine dcU zno.eq_1 ?_;simp only[evD,Xe,Xf,Xg,za];refine λb=>zA (λh=>?_) (λh=>?_)
 .have c:i<l.length:=by simpa using h
  simp only[evD,Xe,Xf,Xg,zj c];refine⟨by omega,λk=>zA (λh=>?_) (λh=>?_)⟩
  .have g:l[i]=x:=by simpa using h
   simp only[evD,Xe,Xf,Xg,zmV];refine⟨_,.bool _ _,?_⟩;have:x∈l:=by rw[<-g];exact We c
   simp[this]
  .have g:l[i]≠x:=by simpa using h
   simp only[evD,Xe,Xf,Xg];refine⟨i+1,⟨c,?_⟩,by omega,?_⟩
   .rw[List.take_add_one,Wi c];simp only[List.mem_append,not_or,Option.toList,List.mem_singleton];exact⟨d,λe=>g e.symm⟩
   .unfold big at b;rw[zyo (by omega) (by omega)];exact Xa rfl fin5
 .have c:¬i<l.length:=by simpa using h
  unfold znK;simp only[evD,Xe,Xf,Xg,zmV];refine⟨_,.bool _ _,?_⟩;have:l.take i=l:=List.take_of_length_le (by omega);rw[this]at d;simp[d]
theorem zxc(b:Blk):zq Z9 zni [.agg b.cells] (·=za b.targets):=by
 refine fn_x zxw rfl ?_;refine dcU zq6.eq_1 ?_;have j:=hBig;refine Gw1 @Blk.cells.eq_1 ?_;intros;(refine zA (λh=>?_) (λh=>?_))<;>(try simp only[dcd]at h)
 .have d:b.stmts=[]:=Wf (by omega);refine Gw1 @zew.eq_1 ?_;intros;refine⟨_,?_,rfl⟩;have e:b.targets=[]:=by simp[Blk.targets,d]
  rw[e];exact zaP (l:=[]) trivial rfl (Wa _)
 .have d:0<b.stmts.length:=by omega
  obtain⟨s,g⟩:∃s,b.stmts[b.stmts.length-1]?=some s:=⟨_,Wi (by omega)⟩
  have c:b.targets=if s.op=6 then[s.next]else if s.op=7 then[s.next,s.els]else if s.op=8 then s.cases else[]:=by
   have:b.stmts.getLast?=some s:=by rw[Wp,g]
   simp[Blk.targets,this]
  have e:(b.stmts.map Stm.cells).getD ((b.stmts.length:Int)-1).toNat []=s.cells:=by rw[show((b.stmts.length:Int)-1).toNat=b.stmts.length-1 by omega];exact zhv g
  refine Gw2 e @Stm.cells.eq_1 ?_;intros;(refine zA (λh=>?_) (λh=>?_))<;>(try simp only[dcd]at h)
  .rw[if_pos h]at c;refine Gw2 @ua @zew.eq_1 ?_;intros;refine⟨_,?_,rfl⟩;rw[c];exact zaP (l:=[s.next]) trivial rfl (by simp[big])
  .rw[if_neg h]at c;refine Gw0 ?_;intros;(refine zA (λh=>?_) (λh=>?_))<;>(try simp only[dcd]at h)
   .rw[if_pos h]at c;refine Gw2 @ua @zew.eq_1 ?_;intros;refine⟨_,?_,rfl⟩;rw[c];exact zaP (l:=[s.next,s.els]) trivial rfl (by simp[big])
   .rw[if_neg h]at c;refine Gw0 ?_;intros;(refine zA (λh=>?_) (λh=>?_))<;>(try simp only[dcd]at h)
    .rw[if_pos h]at c;refine Gw2 @ua @zew.eq_1 ?_;intros;refine⟨_,?_,rfl⟩;rw[c];exact .sl _ _ _ _
    .rw[if_neg h]at c;refine Gw1 @zew.eq_1 ?_;intros;refine⟨_,?_,rfl⟩;rw[c];exact zaP (l:=[]) trivial rfl (Wa _)
end Go.Ab.Dm
