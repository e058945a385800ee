/-
  Part 10 of the proof: how the calls of this program run, over values instead of memory, and what each function computes.
-/
import Derived.KernelRfl
import Derived.Test.YtihlaappclhhaaaGreatKi
set_option maxRecDepth 100000
set_option cbv.warning false
set_option cbv.maxSteps 100000000
set_option linter.unusedVariables false
set_option linter.unusedSimpArgs false
set_option linter.unnecessarySimpa false
set_option linter.unusedSectionVars false
open Nat renaming zero_le→Wa
open List renaming getElem_mem→Wc,drop_eq_getElem_cons→Wd,drop_of_length_le→We,findIdx?_eq_some_iff_getElem→Wf,findIdx?_eq_none_iff→Wg,eq_nil_of_length_eq_zero→Wh,getElem?_eq_getElem→Wi,all_cons→Wj,length_nil→Wk,any_cons→Wl,getD_eq_getElem?_getD→Wm,cons_append→Wn,mem_iff_getElem→Wp,any_eq_false→Wq,length_cons→Wr
open Bool renaming and_eq_true→Wo
namespace Go.Ab
open Go.RowKit Go.Proofs
def zq8:ACode:=dcC 0x8000000000000001025c104212c23ea0126c14c0341315c011061230110611301106103012b190341315c01105123011051130110510304c132003100021c011c22313 []
def zrk:List ARet:=[.tmp 4]
theorem zvq:zO Tryz.prog zj4 (qRo [2,3])=some (zq8.strip,zrk,20):=by kernel_rfl
@[cbv_opaque] def zjt:ACode:=dcC 0xa07310421001060707231000007c510321bc813c0101001115c0700600511400000000026b1014c7010c31221ca37031134123fc61001221ca0700110411392b131530701451dc00136070522133 []
@[cbv_opaque] def zjh:ACode:=.seq (.region [(oM 24 3),(oM 2 24)] [1,3,4,24]) (.ret)
def zlz:ACode:=dcC 0x19096050000001133016c011310216c011c0213 [zjt,zjh]
def zlT:List ARet:=[.tmp 2]
theorem zp4:zO Tryz.prog zjM (qRo [1])=some (zlz.strip,zlT,25):=by kernel_rfl
def zm3:ACode:=dcC 0x80000254001a11100000722193813bc129da9c236225c221228da031110000072219381318c29da03ac9c28da8c236225c235002406c22230800540017107229381b00044439c0413141c10001860101c2213000941082120c30ea050040062292513360200000444396211c32313 []
def zjD:List ARet:=[.cell 6 true 3,.tmp 7]
theorem zrr:zO Tryz.prog zk1 (qRoL [3] [(4,[0,1,2,5,6,7,8,9,10,11,12,13,14,15,16,17,18,19,20,21,22,23,24,25,26,27,28,29,30,31,32,33,34,35,36,37,38,39,40,41,42,43,44,45,46,47,48,49,50,51,52,53,54,55,56,57,58,59,60,61,62,63,64,65,66,67,68,69,70,71,72,73,74,75,76,77,78,79,80,81,82,83,84,85,86,87,88,89,90,91,92,93,94,95,96,97,98,99,100,101,102,103,104,105,106,107,108,109,110,111,112,113,114,115,116,117,118,119,120,121,122,123,124,125,126,127,128,129,130,131,132,133,134,135,136,137,138,139,140,141,142,143,144,145,146,147,148,149])])=some (zm3.strip,zjD,22):=by kernel_rfl
@[cbv_opaque] def zhA:ACode:=dcC 0x05d63101d21004d06dd22108a006c857c0006211314ec0c210c010bd2213000009c0a8dd00cd138144439b28d12c0102c9d2105d21224443a1794c01c00b06d2913002d310a211022d14031315307014303d4d362d2113 []
@[cbv_opaque] def zhV:ACode:=.seq (.region [(oK 6 0)] [8,27,28,29]) (.ret)
def zj5:ACode:=dcC 0x1909605ac320000015011eea0622ec241330011c0301810821228da050040bc24130801c300161062a00213148c10001860108c221300a64107211dea06226c23133081c0014700062113140001c415c860150500150401c2513350200006211c32213 [zhA,zhV]
def zc8:List ARet:=[.tmp 6]
theorem zov:zO Tryz.prog zho (qRo [3])=some (zj5.strip,zc8,42):=by kernel_rfl
@[cbv_opaque] def zf0:ACode:=dcC 0x01c210621001160900310000000020ca101ac6c37a4c131320212340290023002110212140290024002803c22215307014b1000166090b22133 []
@[cbv_opaque] def zf9:ACode:=.seq (.region [(oM 24 5),(oM 4 24)] [0,1,5,6,24]) (.ret)
def zh1:ACode:=dcC 0x190960500831062100116015040824133711052014c722134180042113 [zf0,zf9]
def zhI:List ARet:=[.tmp 4]
theorem zmq:zO Tryz.prog zbp (qRo [])=some (zh1.strip,zhI,25):=by kernel_rfl
def zm4:ACode:=dcC 0x80000000000032013c111111110173813ac121115c10344439c8c228c7c6c300fa6c2340126ea03110300011403401c138eab235229235223c2311111110173813ac121115c10344439c8c228c7c6c300fa6c2340126ea03110300011403401c0c38eab235223c231111110173813ac121115c10344439c8c228c7c6c300fa6c2340126ea0311030002c140c235223c23111110173813ac121115c10344439c8c228c7c6c300fa6c2340126ea033c11c235223c2311110173813ac121115c10344439c8c228c7c6c300fa6c23404c26ea2c235223c23110173813ac121115c10344439c8c228c7c1300fa6c235220240126ea03110300011403401c138eab23522923807c228002404c2240a222300631052122fea04005226241301444394211c22213 []
def zmW:List ARet:=[.cell 4 true 3]
theorem zrz:zO Tryz.prog zfJ (qRoL [2] [(2,[0,1,3,4,6,7,8,10,11,12,13,14,15,16,17,18,19,20,21,22,23,24,25,26,27,28,29,30,31,32,33,34,35,36,37,38,39,40,41,42,43,44,45,46,47,48,49,50,51,52,53,54,55,56,57,58,59,60,61,62,63,64,65,66,67,68,69,70,71,72,73,74,75,76,77,78,79,80,81,82,83,84,85,86,87,88,89,90,91,92,93,94,95,96,97,98,99,100,101,102,103,104,105,106,107,108,109,110,111,112,113,114,115,116,117,118,119,120,121,122,123,124,125,126,127,128,129,130,131,132,133,134,135,136,137,138,139,140,141,142,143,144,145,146,147,148,149])])=some (zm4.strip,zmW,21):=by kernel_rfl
@[cbv_opaque] def zcP:ACode:=dcC 0x4b631072100a06bc22100000b6610521ac813c0101001115c090080051140000000a81014c7010c312202fa390340fc610012210494c090030a291308210622002131530701430dc00a3682113 []
@[cbv_opaque] def zcR:ACode:=dcC 0x804c1300610421103fa080cc2313 []
def zd0:ACode:=dcC 0x190960500000721133016c01134116c42113 [zcP,zcR]
def zee:List ARet:=[.tmp 4]
theorem zf6:zO Tryz.prog zX (qRo [])=some (zd0.strip,zee,26):=by kernel_rfl
@[cbv_opaque] def zid:ACode:=dcC 0xfc1108c2100bc060210002c85211812ec140014c0b0020bc25109c210822002131530701430acbc369c2113 []
@[cbv_opaque] def zix:ACode:=dcC 0x0cd01336be188144030000000000891c221 []
@[cbv_opaque] def ziS:ACode:=dcC 0x0000bd1504912dece413fa08107104c8202c19e25175 []
@[cbv_opaque] def ziI:ACode:=dcC 0x000009eb62009221181209f1402c101c00a006f26108f4000000ee70102f86021144c0211021214021c002a0021144c022c1ee2223 []
@[cbv_opaque] def zfn:ACode:=dcC 0x0d0bcb410a210011601c07d231 []
@[cbv_opaque] def zfz:ACode:=dcC 0x392919098e7e21b65000000e61112fa011011130122401c0011061130e2713300000026d82e1181819b2122aea0a001220122401c0011061139d2913553470145d100016601c05d22133 [zix,ziS,ziI,zfn]
@[cbv_opaque] def zfr:ACode:=dcC 0x096450001d410a2100116015011061131d25130d1100921133527014910c00d21133 [zfz]
@[cbv_opaque] def ziB:ACode:=.seq (.region [(oM 70 7),(oM 6 70)] [3,4,5,7,9,10,70]) (.ret)
@[cbv_opaque] def ziE:ACode:=dcC 0x190962507c2200921133 [zfr,ziB]
def zln:ACode:=dcC 0x19096056c100000150106c231330002c41072118181ac015011061132c25133000416c051c047c011c32413 [zid,ziE]
def zlc:List ARet:=[.tmp 6]
theorem zpO:zO Tryz.prog zer (qRo [3,5])=some (zln.strip,zlc,71):=by kernel_rfl
@[cbv_opaque] def zhO:ACode:=dcC 0x05c83201234a4c1b0080ec23100bc31082102c0cc154c031335270143ac1102c0cc2dac2213 []
@[cbv_opaque] def zhK:ACode:=.region [(oC 28 .add 13 1),(oM 13 28)] [21,28]
@[cbv_opaque] def zh0:ACode:=dcC 0x19096250009751134c011012140a00405c2513002c3107211022c14031315307014303c4c362c2113 [zhO,zhK]
@[cbv_opaque] def zhX:ACode:=.seq (.region [(oM 29 5),(oM 4 29)] [1,5,11,12,13,29]) (.ret)
def zj7:ACode:=dcC 0x1909605722000001501116fa0522a24133911052014c922133028004211c22213 [zh0,zhX]
def zkq:List ARet:=[.tmp 4]
theorem zoN:zO Tryz.prog zhk (qRo [2])=some (zj7.strip,zkq,30):=by kernel_rfl
@[cbv_opaque] def zdb:ACode:=dcC 0xdc1107c2100ac0602101c931224b4c10c0030bc231008c3109211028c14031315307014309cac368c2113 []
@[cbv_opaque] def zdg:ACode:=dcC 0x7d1101d21004d0602109cb3201234a4c12c00305d231002d310b211022d14031335327014303d4d362d2113 []
@[cbv_opaque] def zda:ACode:=dcC 0x2dd1c3102e21005e06021000dd1c4201234a4c14c00300311400006e5101be70dc0013634c02df61000001660106e2613003e3101c211023e14031365357014304e5e363e2113 []
@[cbv_opaque] def zdj:ACode:=dcC 0x09f11003f210006f0602107e3c3201234a4c16c003007f2310004f3103c2110204f140313853770143005f06f3604f2113 []
@[cbv_opaque] def zdf:ACode:=dcC 0x019675be32000001506001f2313149c03d22510fe22c00cd7600f221309655000103d10290000015010101d01fd24443a0794c01108153050cd271314bd110ad21c00176bd221345600fc411081038d2213 [zda,zdj]
@[cbv_opaque] def zdh:ACode:=dcC 0x19096256005c4000001501132fa0882ec24133 [zdg,zdf]
def zd8:ACode:=dcC 0x19096054c1000001501124fa01824c241331141c52113 [zdb,zdh]
def za2:List ARet:=[]
theorem zic:zO Tryz.prog zcp (qRo [5])=some (zd8.strip,za2,70):=by kernel_rfl
@[cbv_opaque] def zhE:ACode:=dcC 0xdc1108c2100bc0602103c732011811921874c010bc23109c210722002131530701430400bc369c2113 []
@[cbv_opaque] def zeV:ACode:=dcC 0x0df110ce2100fe060df22100000000000000e2c3c1021181302f921874c0210106f702109f2000300c4c32132321823874c325c0321323212c23874c325c043f62100211021921874c025c00210fe2220de2102c22002137536701430400fe36de2113 []
@[cbv_opaque] def zeU:ACode:=dcC 0x0005c0dd1c712ccc811211f323fa04004c8202ccc20ef251 []
@[cbv_opaque] def zeY:ACode:=.region [(oC 78 .add 49 1),(oM 49 78)] [78]
@[cbv_opaque] def zeW:ACode:=dcC 0x2919009665be1000001131409e22c00176011011039e23133006e3be188144030000000000891c2182026e84041355347014307e8e366e2113 [zeV,zeU,zeY]
@[cbv_opaque] def zht:ACode:=dcC 0x1d007db5106d21009d0613f221 []
@[cbv_opaque] def zhZ:ACode:=dcC 0x190964500003da60000015011011130122401c001105113ed2813000ad40e1cc81030000030000030000030000030000030000030000030000cc9b21cc2012cc401c00b0ad2613007d310a211027d14031335327014308d9d367d2113 [zeW,zht]
@[cbv_opaque] def zhP:ACode:=dcC 0x408f4c31015f210018f061ef2210000008f4c6103c211df813c0101001115c07c006c0051145c11019f21130016f31bf00204c218f17f201884c0200413953870143040018f3616f2113 []
@[cbv_opaque] def zhW:ACode:=dcC 0x809004f3c510421103fa06c01ff2313 []
@[cbv_opaque] def zhC:ACode:=dcC 0x1909685610000098214f2213300bc2201716c3c2113 [zhP,zhW]
@[cbv_opaque] def zha:ACode:=dcC 0x19096253d1000001501122fa05223d24133000d3108212221fa04005220413058c3b30118111230300823874cec2313 [zhZ,zhC]
def zjX:ACode:=dcC 0x1909605000008c211337c1ac188111111111896201111111189c7c23136c19c1cc81030000030000030000030000030000030000030000030000cc952020fa6c231330216c4211c22213 [zhE,zha]
def zjQ:List ARet:=[.tmp 4]
theorem zoB:zO Tryz.prog zhm (qRo [2])=some (zjX.strip,zjQ,93):=by kernel_rfl
@[cbv_opaque] def zfp:ACode:=dcC 0x7e110fd21002e060210006d0c511ccc81126e323fa04003c8201ccc23e251000e35e188144030000000000890c2182020e84041355347014301e2e360e2113 []
def zgC:List AOper:=[(oM 63 5),(oM 64 14),(oI 65 24 63 64),(oA 66 24 65),(oA 67 24 10),(oN 68 (.callq zcV [(.t 66),(.t 67)])),(oN 15 (.alloc [.int .i64 0,.int .i64 0,.int .u32 0,.int .i64 0,.int .i64 0,.int .u32 0,.int .i64 0,.int .i64 0,.int .u32 0,.int .i64 0,.int .i64 0,.int .u32 0,.int .i64 0,.int .i64 0,.int .u32 0,.int .i64 0,.int .i64 0,.int .u32 0,.int .i64 0,.int .i64 0,.int .u32 0,.int .i64 0,.int .i64 0,.int .u32 0])),(oS 24 15 68)]
def zkZ:List (List Nat):=[[],[],[0,1],[2],[],[3,4],[],[6,5,5,0,1,2,3,4,5,6]]
def zg7:List Nat:=[6,7]
def zmG:List (List Nat):=[[],[],[0,1],[0,1,2],[],[0,1,2,3,4],[],[0,1,2,3,4,5,6]]
def zlR:List (List Nat):=[[],[6],[6,7]]
def zfR:Plan:=[(0,[],[]),(1,[],[]),(2,[],[]),(2,[6],[6]),(3,[],[]),(3,[6],[6]),(4,[],[]),(4,[6],[6]),(5,[],[]),(5,[6],[6]),(6,[],[6]),(7,[6],[6,7])]
@[cbv_opaque] def zfx:ACode:=.seq (.region [(oB 60 .lss 59 58)] []) (.seq (.cond (.t 60) (.skip) (.exit 6)) (.seq (.block 7 (.seq (.region [(oI 61 1 57 59),(oL 62 61),(oM 14 62)] [60,61,62]) (.seq (.draw (zil zgC zkZ 8 (List.replicate 8 false)) [63,64,65,66,67,68]) (.seq (.draw (.step (oA 69 24 15) (.step (oM 70 5) (.step (oM 71 14) (.step (oI 72 24 70 71) (.step (oA 73 24 72) (.step (oN 74 (.xop (.eqs true [0,0,0,0,0,0,0,0,0,0,0,0,0,0,0,0,0,0,0,0,0,0,0,0]) [(.t 69),(.t 73)])) (.done))))))) [69,70,71,72,73]) (.cond (.t 74) (.region [(oM 75 5),(oM 76 14),(oA 77 24 15),(oI 78 24 75 76),(oS 24 78 77),(oN 7 (.mov (.c (.bool true))))] [14,15,74,75,76,77,78]) (.skip)))))) (.region [(oC 79 .add 59 1),(oM 59 79)] [14,15,74,79])))
@[cbv_opaque] def zi0:ACode:=dcC 0x0966500008003d99000001501116fa01220122400c0011051138e2813 [zfx]
@[cbv_opaque] def ziA:ACode:=dcC 0x8c002ea5100d21003d0614f221 []
@[cbv_opaque] def ziy:ACode:=dcC 0x29190964500008d50000015011011130122400c0011051138d281330004d4ad1cc81030000030000030000030000030000030000030000030000cc9a21cc2012cc400c00804d2613001d3109211021d14031335327014302d3d361d2113 [zfp,zi0,ziA]
@[cbv_opaque] def ziu:ACode:=dcC 0x0962500000015020ec2313dc110072113150701471a0dc21133 [ziy]
@[cbv_opaque] def ziH:ACode:=dcC 0x88e006c00201910428015f2213 []
def zlf:ACode:=dcC 0x19096050200011330bc210621122fa05220313008c321cc810002cc40020fa0108c24130004c4105211030000030000030000030000030000030000030000030000cc84fccac015011051134c2513302cc6c4211c22213 [ziu,ziH]
def zlo:List ARet:=[.tmp 4]
theorem zpJ:zO Tryz.prog ziC (qRo [2])=some (zlf.strip,zlo,82):=by kernel_rfl
@[cbv_opaque] def zhY:ACode:=dcC 0xa11032100606021000325213819423874c011110010203000039c05001062510421022200213153070143040063642113 []
@[cbv_opaque] def zhD:ACode:=dcC 0x8711313cc814cc2b2213 []
def zke:ACode:=dcC 0x1909605000003211330030000030000030000030000030000030000030000030000cc901130030000030000030000030000030000030000030000030000cc902113 [zhY,zhD]
def zjW:List ARet:=[.cell 0 true 24]
theorem zoI:zO Tryz.prog zfi (qRo [])=some (zke.strip,zjW,12):=by kernel_rfl
@[cbv_opaque] def zbM:ACode:=dcC 0x773e8410cd2100fd060210004be85213812623874c070010103000039c0b009f241140009cfd51004f212202fa0b00110a11305f2513000000003e8904f11811123000f623874c0b301060110112301623874c0b00811400000004fd91019e701001763113110331623874c3b029f61003001760b04e2913140000e410fd212202fa0b0011021230e2513350dd210822002132531701430400fd36dd2113 []
@[cbv_opaque] def zJ:ACode:=dcC 0x84d541c72002919cc816cc20df2213 []
def zek:ACode:=dcC 0x1900961500000cd211300011d127ed138144439721bd24443a0794c011071530508d26131492ca3106d21c001c767d221300000cc46213812623874c070010103000039c0110711305114012c72540013601107113fc2313142cb210dc20c001c76ec22130000000000a4b102138138c623874c0219c242fb02152020001540211027163026cc2021102711302214010725400136011071131c2313140c110b21001760c221305911107103922133002030000030000030000030000030000030000030000030000cc96241c017c32313 [zbM,zJ]
def zQ:List ARet:=[.cell 6 true 24]
theorem ziP:zO Tryz.prog zbf (qRo [4])=some (zek.strip,zQ,74):=by kernel_rfl
@[cbv_opaque] def zdI:ACode:=dcC 0x5c2c5310621009060210002c2c55213812523874c070010103000039c0807d241bc40000000000000b93c0108c221011d70214d2000310c4c32132321623874c328032132321523874c32809e6210020001860211021103021623874c02809c222300005357213816c523874c013201623874c0800803c261140000a510920001760110110301523874c010a2613250721052200213153070143040093672113 []
@[cbv_opaque] def zdJ:ACode:=dcC 0x84d202417cc815cc2bd2213 []
def zeJ:ACode:=dcC 0x190960500000621133002030000030000030000030000030000030000030000030000cc9027c017c22313 [zdI,zdJ]
def zeK:List ARet:=[.cell 4 true 24]
theorem zi3:zO Tryz.prog zcV (qRo [])=some (zeJ.strip,zeK,40):=by kernel_rfl
def zbe:List AOper:=[(oA 20 24 2),(oF 21 4 1 3),(oL 22 21),(oN 23 (.idx 5 (.t 22) (.c (.int .i64 0)))),(oA 24 5 23),(oN 25 (.callq zbD [(.t 20),(.t 24)])),(oN 5 (.alloc [.int .i64 0,.int .i64 0,.int .u32 0])),(oS 3 5 25)]
def zfK:List (List Nat):=[[],[],[1],[2],[3],[0,4],[],[6,5,5,0,1,2,3,4,5,6]]
def zaB:List Nat:=[6,7]
def zdq:List (List Nat):=[[],[],[1],[1,2],[1,2,3],[0,1,2,3,4],[],[0,1,2,3,4,5,6]]
def zc3:List (List Nat):=[[],[6],[6,7]]
def zar:Plan:=[(0,[],[]),(0,[6],[6]),(1,[],[]),(2,[],[]),(2,[6],[6]),(3,[],[]),(3,[6],[6]),(4,[],[]),(4,[6],[6]),(5,[],[]),(5,[6],[6]),(6,[],[6]),(7,[6],[6,7])]
def zeP:ACode:=.seq (.region [(oN 2 (.box (.t 0))),(oN 3 (.rbox (.t 1))),(oN 4 (.alloc [.int .i64 0,.int .i64 0,.int .u32 0]))] [0,1]) (.seq (.seq (.region [(oF 6 0 1 3),(oL 7 6)] [6]) (.block 0 (.seq (.region [(oC 9 .eql 7 2),(oM 8 9)] [9]) (.cond (.t 8) (.seq (.region [(oF 10 2 1 3),(oL 11 10),(oC 12 .lss 11 8)] [7,8,10,11]) (.cond (.t 12) (.seq (.region [(oF 13 2 1 3),(oL 14 13),(oN 15 (.xop (.aaddr 8 3) [(.t 2),(.t 14)])),(oA 16 3 15),(oS 3 4 16)] [2,3,12,13,14,15,16]) (.ret)) (.skip))) (.seq (.seq (.region [(oC 18 .eql 7 3),(oM 17 18)] [8,18]) (.cond (.t 17) (.skip) (.region [(oC 19 .eql 7 4),(oM 17 19)] [7,19]))) (.cond (.t 17) (.seq (.draw (zil zbe zfK 8 (List.replicate 8 false)) [2,7,17,20,21,22,23,24,25]) (.seq (.seq (.region [(oF 26 4 1 3),(oL 27 26),(oN 28 (.idx 5 (.t 27) (.c (.int .i64 1)))),(oF 29 0 1 28),(oL 30 29),(oC 31 .neq 30 1),(oM 32 31),(oG 33 32 false (.fldaddr 0 1 (.t 5))),(oG 34 32 false (.load false 1 (.t 33))),(oG 35 32 false (.bin .neq (.t 34) (.c (.int .i64 1)))),(oN 36 (.pick (.t 32) (.c (.bool true)) (.t 35)))] [26,27,28,29,30,31,32,33,34,35]) (.cond (.t 36) (.seq (.seq (.region [(oF 37 0 1 5),(oL 38 37),(oC 39 .eql 38 0),(oM 40 39),(oG 41 40 true (.fldaddr 4 1 (.t 3))),(oG 42 40 true (.load false 1 (.t 41))),(oG 43 40 true (.idx 5 (.t 42) (.c (.int .i64 1)))),(oG 44 40 true (.fldaddr 0 1 (.t 43))),(oG 45 40 true (.load false 1 (.t 44))),(oG 46 40 true (.bin .eql (.t 45) (.c (.int .i64 1)))),(oN 47 (.pick (.t 40) (.t 46) (.c (.bool false))))] [3,36,37,38,39,40,41,42,43,44,45,46]) (.cond (.t 47) (.seq (.region [(oA 48 3 5),(oS 3 4 48)] [5,47,48]) (.ret)) (.skip))) (.seq (.region [(oN 49 (.build [.int .i64 0,.int .i64 0,.int .u32 0] [(0,1,(.c (.int .i64 2)))])),(oS 3 4 49)] [5,47,49]) (.ret))) (.skip))) (.seq (.seq (.region [(oF 50 0 1 3),(oL 51 50),(oC 52 .eql 51 3)] [36,50,51]) (.cond (.t 52) (.draw (.step (oF 53 2 1 5) (.step (oL 54 53) (.step (oF 55 4 1 3) (.step (oL 56 55) (.step (oN 57 (.idx 5 (.t 56) (.c (.int .i64 1)))) (.step (oF 58 1 1 57) (.step (oL 59 58) (.step (oB 60 .add 54 59) (.step (oF 61 2 1 5) (.alt (oS 1 61 60) (.done) (.stop))))))))))) [3,52,53,54,55,56,57,58,59,60,61]) (.draw (.step (oF 62 2 1 5) (.step (oL 63 62) (.step (oF 64 4 1 3) (.step (oL 65 64) (.step (oN 66 (.idx 5 (.t 65) (.c (.int .i64 1)))) (.step (oF 67 1 1 66) (.step (oL 68 67) (.step (oB 69 .sub 63 68) (.step (oF 70 2 1 5) (.alt (oS 1 70 69) (.done) (.stop))))))))))) [3,52,62,63,64,65,66,67,68,69,70]))) (.seq (.region [(oA 71 3 5),(oS 3 4 71)] [5,71]) (.ret))))) (.skip))))))) (.seq (.region [(oN 72 (.build [.int .i64 0,.int .i64 0,.int .u32 0] [(0,1,(.c (.int .i64 2)))])),(oS 3 4 72)] [2,3,7,12,17,72]) (.ret)))
def zu:List ARet:=[.cell 4 true 3]
theorem zi6:zO Tryz.prog zbD (qRo [3])=some (zeP.strip,zu,73):=by kernel_rfl
@[cbv_opaque] def zdT:ACode:=dcC 0x0e110ad2100dd0602100d1c3201234a4c14c00a0ed23100bd3101c21102bd1403135534701430cddd36bd2113 []
@[cbv_opaque] def zdW:ACode:=dcC 0x00f110ae2100de060210ed3c3201234a4c16c00a0ee23100be3103c21102be1403137536701430cede36be2113 []
@[cbv_opaque] def zdY:ACode:=dcC 0x0006f220300134a4c1a0021140000600cdb93001202fa010121d0104f24443a0794c01102c15304001f2613 []
@[cbv_opaque] def zgH:ACode:=dcC 0x190966500003e50000015010111d017e24443a0794c01102c153040071330371406008d51c0018601102c1031e23133 [zdW,zdY]
@[cbv_opaque] def zaK:ACode:=.region [(oC 68 .add 31 1),(oM 31 68)] [66,68]
@[cbv_opaque] def zdR:ACode:=dcC 0x2919096457d1000001501124fa01827d24133004d39d18814403000000000089b2182024d84041335327014305d6d364d2113 [zdT,zgH,zaK]
@[cbv_opaque] def zgF:ACode:=dcC 0x9d001d4108c2100bc0609f221 []
@[cbv_opaque] def zgA:ACode:=dcC 0x190962500002c960000015011011130122400c001106113cc2813009c3109211029c1403131530701430acbc369c2113 [zdR,zgF]
@[cbv_opaque] def zgJ:ACode:=dcC 0x8005e00a3001a10621226ea0500a00af2413 []
def ziZ:ACode:=dcC 0x19096055c1000001501122fa06225c241334c11072014c4c221350216c6211c32213 [zgA,zgJ]
def ziv:List ARet:=[.tmp 6]
theorem zns:zO Tryz.prog zaI (qRo [3])=some (ziZ.strip,ziv,73):=by kernel_rfl
def ziD:ACode:=dcC 0x8000002071022186311c4c01503001503003007132116c22113 []
def zii:List ARet:=[.tmp 2]
theorem znk:zO Tryz.prog zcQ (qRo [])=some (ziD.strip,zii,9):=by kernel_rfl
@[cbv_opaque] def zgl:ACode:=dcC 0x4c110a21001c060210853201234a4c1800602c23100b310521102b14031315307014300c1c36b2113 []
@[cbv_opaque] def zgo:ACode:=dcC 0x80006004119102218c26ea011041230605c2513 []
def zhQ:ACode:=dcC 0x190960571000001501104113724133611032014c6221310216c011c0213 [zgl,zgo]
def zhG:List ARet:=[.tmp 2]
theorem zmC:zO Tryz.prog zdv (qRo [1])=some (zhQ.strip,zhG,21):=by kernel_rfl
def zcg:ACode:=.seq (.region [(oN 1 (.rbox (.t 0))),(oN 2 (.mov (.c (.nilfn))))] [0,2]) (.seq (.region [(oN 3 (.mkfn (.func zah) [(.t 1)])),(oM 2 3)] [1,3]) (.ret))
def zck:List ARet:=[.tmp 2]
theorem ze8:zO Tryz.prog zaY (qRo [1])=some (zcg.strip,zck,4):=by kernel_rfl
@[cbv_opaque] def zbi:ACode:=dcC 0x709310321001160609231081400000028810c013c22cbc018201284060041060030b28131530701471000166060722133 []
def zbS:ACode:=dcC 0x096050043103210011601504142413 [zbi]
def zez:List ARet:=[]
theorem zeD:zO Tryz.prog zah (qRo [])=some (zbS.strip,zez,19):=by kernel_rfl
def zkc:List St→Bool
 | []=>true
 | x::l=>(zoz x == l.isEmpty)&&zkc l
def inN(n:Int)(t:Int):Bool:=decide (0≤t∧t < n)
def zav(l:List St):List Int:=match l.getLast? with
 | none=>[]
 | some s=>zpV s
def zjH(l:List St)(n:Int):Bool := !l.isEmpty&&(zkc l&&(zav l).all (inN n))
theorem zqU{l:List St}(h:l.length - 1 < l.length):zav l=zpV l[l.length - 1]:=by unfold zav;rw[List.getLast?_eq_getElem?,Wi h]
def zjo:List St→Int
 | []=>0
 | s::l=>if s.check≠0 then s.check else zjo l
def zmR:List Bl→Int
 | []=>0
 | b::l=>if zjo b.stmts≠0 then zjo b.stmts else zmR l
def zur(g:G):Int:=if (!g.blocks.isEmpty&&g.blocks.all fun b=>zjH b.stmts g.blocks.length)=true then zmR g.blocks else 18
theorem zwc{l:List St}{i:Nat}(h:i < l.length):zjo (l.drop i)=if l[i].check≠0 then l[i].check else zjo (l.drop (i+1)):=by rw[Wd h,zjo]
theorem zvy{l:List Bl}{i:Nat}(h:i < l.length):zmR (l.drop i)=if zjo l[i].stmts≠0 then zjo l[i].stmts else zmR (l.drop (i+1)):=by rw[Wd h,zmR]
structure fewB(g:G):Prop where
 blocks:g.blocks.length≤12
 stmts:∀b∈g.blocks,b.stmts.length≤8
def cntB(l:List Bl):Nat:=(l.map fun b=>b.stmts.length).sum
theorem zA7{l:List Bl}{i:Nat}(h:i < l.length):cntB (l.take (i+1))=cntB (l.take i)+l[i].stmts.length:=by rw[List.take_succ_eq_append_getElem h];unfold cntB;rw[List.map_append,List.sum_append];simp only[List.map_cons,List.map_nil,List.sum_cons,List.sum_nil,Nat.add_zero]
def zdU(g:G):Int:=if 256 < g.blocks.length∨1024 < cntB g.blocks then 6 else zur g
structure manyB(g:G):Prop where
 blocks:g.blocks.length≤1000000
 stmts:∀b∈g.blocks,b.stmts.length≤1000000
end Go.Ab
namespace Go.Ab
open Go.RowKit Go.Proofs
structure PredT(fv:AV)(l:List St)(p:St→Bool):Prop where
 ex:∃f caps,fv=.fn (.func f) caps∧zf7 Tryz.prog f=true∧zH caps=true∧∀s∈l,zz Tryz.prog f ([.agg s.cells]++caps) (·=.bool (p s))
theorem zvF{fv:AV}{l:List St}{p:St→Bool}(hp:PredT fv l p){s:St}(hs:s∈l){H:AH}{nx:Nat}{k:AV→AH→Nat→Prop}(hk:k (.bool (p s)) H nx):zpt Tryz.prog fv [.agg s.cells] H nx k:=by obtain⟨f,caps,rfl,hg,hf,hx⟩:=hp.ex;rw[zlY];refine⟨hg,zi (zf (hx s hs) ?_) hk⟩;simp only[Wn,List.nil_append,Wj,Wo];exact⟨rfl,zfw hf⟩
theorem zw6{fv:AV}{l:List St}{p:St→Bool}(hp:PredT fv l p){H H2:AH}{σ:Nat→Nat→Option (Nat × Nat × Nat)}{D:Nat→Nat→Prop}{t:Bool}:Vw H H2 σ D t fv fv:=by
 obtain⟨f,caps,rfl,hg,hf,hx⟩:=hp.ex
 refine .fn _ _ _ _ rfl fun i a b h1 h2=>?_
 rw[h1] at h2;cases h2;exact zdD (zcU hf h1)
theorem zmv(l:List St)(fv:AV)(p:St→Bool)(hp:PredT fv l p):zz Tryz.prog zaR [encL 8 St.cells l,fv] (·=.int .i64 (idxI (l.findIdx? p))):=by
 refine fn_x ze3 rfl ?_
 unfold zbX;conv in dcC _ _=>cbv
 have hB:=hBig;(refine Gw0 ?_;intros);refine zd (fun i:Nat=>([(0,encL 8 St.cells l),(1,fv),(7,.int .i64 l.length),(8,.int .i64 i)],[])) 0 (fun i=>i≤l.length∧∀j (h:j < l.length),j < i→p l[j]=false) (fun i=>l.length - i) 0 ⟨Wa _,fun j _ h=>by omega⟩ (Ent.keep rfl fin5) ?_;intro i ⟨hi,hno⟩ wf
 unfold zbu;conv in dcC _ _=>cbv
 (refine Gw0 ?_;intros)
 (refine zw (fun h=>?_) (fun h=>?_))<;>(try simp only[dcd] at h)
 ·
  have hi':i < l.length:=by omega
  (repeat first|simp(disch:=try exact dis1) only[evD,Nat.reduceBEq,Nat.reduceAdd,Nat.reduceLeDiff,zn hi',St.len,St.eight]|with_reducible first|intro _|refine aJ ?_)
  refine zvF hp (Wc hi') ?_;(refine Gw0 ?_;intros)
  (refine zw (fun h2=>?_) (fun h2=>?_))<;>(try simp only[dcd] at h2)
  ·
   (refine Gw1 @zaG.eq_1 ?_;intros)
   have e:l.findIdx? p=some i:=by rw[Wf];exact⟨hi',h2,fun j hj=>by rw[hno j (by omega) hj];simp⟩
   rw[e];exact⟨_,.int _ _ _,rfl⟩
  ·
   (refine Gw0 ?_;intros);refine⟨i+1,⟨by omega,fun j hj hji=>?_⟩,by omega,Ent.keep rfl fin5⟩
   by_cases hje:j=i
   · subst hje;simpa using h2
   · exact hno j hj (by omega)
 ·
  unfold zby;(refine Gw1 @zaG.eq_1 ?_;intros)
  have e:l.findIdx? p=none:=by rw[Wg];intro x hx;obtain⟨j,hj,rfl⟩:=Wp.1 hx;exact hno j hj (by omega)
  rw[e];exact⟨_,.int _ _ _,rfl⟩
theorem zCr{l:List St}{p:St→Bool}:decide (idxI (l.findIdx? p) ≥ 0)=l.any p:=by
 cases h:l.findIdx? p with
 |
  none =>
  have:=Wg.1 h;rw[decide_eq_false (by simp[idxI])];symm;rw[Wq];intro x hx;rw[this x hx];simp
 |
  some i =>
  obtain⟨h1,h2,_⟩:=Wf.1 h;rw[decide_eq_true (by simp[idxI])];exact(zvc h1 h2).symm
theorem zkY(l:List St)(fv:AV)(p:St→Bool)(hp:PredT fv l p):zz Tryz.prog zax [encL 8 St.cells l,fv] (·=.bool (l.any p)):=by
 refine fn_x zei rfl ?_
 unfold zbs;conv in dcC _ _=>cbv
 (refine Gw0 ?_;intros);refine zi (zaH (D:=noR) (zmv l fv p hp) (.cons (zai rfl) (.cons (zw6 hp) .nil)) (.inl rfl)) ?_;(refine Gw1 @zbC.eq_1 ?_;intros);refine⟨_,.bool _ _,?_⟩;rw[←zCr]
structure PredI(fv:AV)(l:List Int)(p:Int→Bool):Prop where
 ex:∃f caps,fv=.fn (.func f) caps∧zf7 Tryz.prog f=true∧zH caps=true∧∀s∈l,zz Tryz.prog f ([.int .i64 s]++caps) (·=.bool (p s))
theorem zwn{fv:AV}{l:List Int}{p:Int→Bool}(hp:PredI fv l p){s:Int}(hs:s∈l){H:AH}{nx:Nat}{k:AV→AH→Nat→Prop}(hk:k (.bool (p s)) H nx):zpt Tryz.prog fv [.int .i64 s] H nx k:=by obtain⟨f,caps,rfl,hg,hf,hx⟩:=hp.ex;rw[zlY];refine⟨hg,zi (zf (hx s hs) ?_) hk⟩;simp only[Wn,List.nil_append,Wj,Wo];exact⟨rfl,zfw hf⟩
theorem zxC{fv:AV}{l:List Int}{p:Int→Bool}(hp:PredI fv l p){H H2:AH}{σ:Nat→Nat→Option (Nat × Nat × Nat)}{D:Nat→Nat→Prop}{t:Bool}:Vw H H2 σ D t fv fv:=by
 obtain⟨f,caps,rfl,hg,hf,hx⟩:=hp.ex
 refine .fn _ _ _ _ rfl fun i a b h1 h2=>?_
 rw[h1] at h2;cases h2;exact zdD (zcU hf h1)
theorem zmD(l:List Int)(fv:AV)(p:Int→Bool)(hp:PredI fv l p):zz Tryz.prog zaC [za l,fv] (·=.int .i64 (idxI (l.findIdx? p))):=by
 refine fn_x zew rfl ?_
 unfold zcq;conv in dcC _ _=>cbv
 have hB:=hBig;(refine Gw1 @ua ?_;intros);refine zd (fun i:Nat=>([(0,za l),(1,fv),(7,.int .i64 l.length),(8,.int .i64 i)],[])) 0 (fun i=>i≤l.length∧∀j (h:j < l.length),j < i→p l[j]=false) (fun i=>l.length - i) 0 ⟨Wa _,fun j _ h=>by omega⟩ (Ent.keep rfl fin5) ?_;intro i ⟨hi,hno⟩ wf
 unfold zbK;conv in dcC _ _=>cbv
 (refine Gw0 ?_;intros)
 (refine zw (fun h=>?_) (fun h=>?_))<;>(try simp only[dcd] at h)
 ·
  have hi':i < l.length:=by omega
  (repeat first|simp(disch:=try exact dis1) only[evD,Nat.reduceBEq,Nat.reduceAdd,Nat.reduceLeDiff,za,zn hi']|with_reducible first|intro _|refine aJ ?_)
  refine zwn hp (Wc hi') ?_;(refine Gw0 ?_;intros)
  (refine zw (fun h2=>?_) (fun h2=>?_))<;>(try simp only[dcd] at h2)
  ·
   (refine Gw1 @zaw.eq_1 ?_;intros)
   have e:l.findIdx? p=some i:=by rw[Wf];exact⟨hi',h2,fun j hj=>by rw[hno j (by omega) hj];simp⟩
   rw[e];exact⟨_,.int _ _ _,rfl⟩
  ·
   (refine Gw0 ?_;intros);refine⟨i+1,⟨by omega,fun j hj hji=>?_⟩,by omega,Ent.keep rfl fin5⟩
   by_cases hje:j=i
   · subst hje;simpa using h2
   · exact hno j hj (by omega)
 ·
  unfold zbI;(refine Gw1 @zaw.eq_1 ?_;intros)
  have e:l.findIdx? p=none:=by rw[Wg];intro x hx;obtain⟨j,hj,rfl⟩:=Wp.1 hx;exact hno j hj (by omega)
  rw[e];exact⟨_,.int _ _ _,rfl⟩
theorem zDb{l:List Int}{p:Int→Bool}:decide (idxI (l.findIdx? p) ≥ 0)=l.any p:=by
 cases h:l.findIdx? p with
 |
  none =>
  have:=Wg.1 h;rw[decide_eq_false (by simp[idxI])];symm;rw[Wq];intro x hx;rw[this x hx];simp
 |
  some i =>
  obtain⟨h1,h2,_⟩:=Wf.1 h;rw[decide_eq_true (by simp[idxI])];exact(zvc h1 h2).symm
theorem zkX(l:List Int)(fv:AV)(p:Int→Bool)(hp:PredI fv l p):zz Tryz.prog zbT [za l,fv] (·=.bool (l.any p)):=by
 refine fn_x zhc rfl ?_
 unfold zdo;conv in dcC _ _=>cbv
 (refine Gw0 ?_;intros);refine zi (zaH (D:=noR) (zmD l fv p hp) (.cons (zai rfl) (.cons (zxC hp) .nil)) (.inl rfl)) ?_;(refine Gw1 @zdn.eq_1 ?_;intros);refine⟨_,.bool _ _,?_⟩;rw[←zDb]
theorem zBC(l:List Int)(hl:l.length≤100000000):zU Tryz.prog zbl [za l] [] 0 (fun v H nx=>v=.own 0 0 0 0 l.length∧H=[(0,.row 1 (l.map cI) 0)]∧nx=1):=by
 refine zR (fn_x zf1 rfl ?_)
 unfold zdC za;conv in dcC _ _=>cbv
 have hB:=hBig
 have hel:∀H,zgy 1 (encL 1 (fun n=>[.int .i64 n]) l) H=some (l.map cI):=fun H=>zyE
 (refine Gw1 @zuz ?_;intros)
 cases h0:(l.length == 0) with
 |
  true =>
  have e:l=[]:=Wh (by simpa using h0);subst e;(refine Gw0 ?_;intros);rename_i b;cases b
  · (refine Gw2 hel @zak.eq_1 ?_;intros);exact⟨.own 0 0 0 0 0,[(0,.row 1 [] 0)],1,(Ent.tab [(0,1,1)] [] rfl Qh Qh),rfl,rfl,rfl⟩
  · (refine Gw1 @zak.eq_1 ?_;intros);exact⟨.own 0 0 0 0 0,[(0,.row 1 [] 0)],1,(Ent.tab [(0,1,0)] [] rfl Qh Qh),rfl,rfl,rfl⟩
 |
  false =>
  (refine Gw2 hel @zak.eq_1 ?_;intros);exact⟨.own 0 0 0 0 l.length,[(0,.row 1 (l.map cI) 0)],1,(Ent.tab [(0,1,1)] [] rfl Qh Qh),rfl,rfl,rfl⟩
theorem renI{ρ:Nat→Nat}{l:List Int}{g:Nat}:AObj.ren ρ (.row 1 (l.map cI) g)=.row 1 (l.map cI) g:=by simp only[AObj.ren];rw[zh2 (zD fun _=>rfl)]
theorem zhp(b:Bl)(hc:∀s∈b.stmts,s.cases.length≤100000000):zz Tryz.prog zeq [.agg b.cells] (·=za (zav b.stmts)):=by
 refine fn_x zpN rfl ?_
 unfold zle;conv in dcC _ _=>cbv
 have hB:=hBig;obtain⟨ad,l⟩:=b;simp only at hc;simp only[Bl.cells]
 by_cases h0:l.length=0
 · obtain rfl:l=[]:=Wh h0;(refine Gw4 @ub @dT @m9O @zcN.eq_1 ?_;intros);exact⟨_,zen (l:=[]) trivial rfl (by simp only[Wk];omega),rfl⟩
 have hlast:l.length - 1 < l.length:=by omega
 have hidx:(((l.length:Nat):Int) - 1).toNat=l.length - 1:=by omega
 have hcs:=hc _ (Wc hlast);have hg:=zn (f:=St.cells) (d:=[]) hlast;rw[zqU hlast];generalize l[l.length - 1]=s at hg hcs;obtain⟨op,var,width,next,els,tgt,e,cs⟩:=s;simp only[St.cells] at hg hcs;unfold zpV;simp only;(refine Gw5 @ub @dT @dF hidx hg ?_;intros)
 by_cases h6:op=6
 · rw[if_pos h6];(refine Gw6 @dT @dF @ub @ua @uc @zcN.eq_1 ?_;intros);exact⟨_,zen (l:=[next]) trivial rfl (by simp only[List.length_singleton];omega),rfl⟩
 rw[if_neg h6]
 by_cases h7:op=7
 · rw[if_pos h7];(refine Gw6 @dT @dF @ub @ua @uc @zcN.eq_1 ?_;intros);exact⟨_,zen (l:=[next,els]) trivial rfl (by simp only[Wr,Wk];omega),rfl⟩
 rw[if_neg h7]
 by_cases h8:op=8
 · rw[if_pos h8];(refine Gw4 @dT @dF @ub @uc ?_;intros);refine zx [] 0 _ (zBC cs hcs) rfl rfl Gin1_0 Gin1_0 ?_;rintro _ _ _ ⟨rfl,rfl,rfl⟩;(refine Gw2 @renI @zcN.eq_1 ?_;intros);exact⟨_,zen (l:=cs) trivial rfl (by omega),rfl⟩
 rw[if_neg h8];(refine Gw6 @dT @dF @ub @ua @uc @zcN.eq_1 ?_;intros);exact⟨_,zen (l:=[]) trivial rfl (by simp only[Wk];omega),rfl⟩
theorem zpo:∀(l:List St)(h:l.length - 1 < l.length),zkc l=(zoz (l[l.length - 1]'h) && !((l.take (l.length - 1)).any zoz))
 | [],h=>by simp at h
 |
  [x],h=>by
  rw[zkc,zkc];simp
 |
  x::y::l,h=>by
  have ih:=zpo (y::l) (by simp);rw[zkc,ih];simp only[Wr,Nat.add_sub_cancel,List.isEmpty_cons,List.take_succ_cons,Wl];have e:(x::y::l)[l.length+1]=(y::l)[l.length]:=rfl;rw[e]
  cases zoz x<;>cases zoz (y::l)[l.length]<;>simp
theorem zDG{α:Type}{f:α→List AV}{H H2:AH}{σ:Nat→Nat→Option (Nat × Nat × Nat)}{D:Nat→Nat→Prop}{t:Bool}{l:List α}{sz i n z:Nat}(hi:i≤l.length)(hn:n=i)(hz:z=0)(hf:∀a,zH (f a)=true):
  Vw H H2 σ D t (.sl sz n (fun a j=>((l.map f).getD (z+a) []).getD j .undef)) (encL sz f (l.take i)):=by
 subst hn hz
 have e:(l.take n).length=n:=by rw[List.length_take];omega
 unfold encL;rw[e];refine .slf _ _ _ _ _ (fun a j ha hj=>?_)
 have e2:(List.map f (List.take n l)).getD a []=(l.map f).getD (0+a) []:=by rw[Nat.zero_add,List.map_take,Wm,List.getElem?_take_of_lt ha,Wm]
 rw[e2,zn (show 0+a < l.length by omega),Wm]
 cases hx:(f l[0+a])[j]? with
 | none=>exact .undef _ _
 | some x=>exact zdD (zcU (hf _) hx)
theorem zsx(l:List St):PredT (.fn (.func zev) []) l zoz:=⟨_,_,rfl,by kernel_rfl,rfl,fun s _=>zld s⟩
theorem zry(t ad:Int)(l:List Bl):zz Tryz.prog zib [.int .i64 t,encP 2 [.int .u32 ad,encL 2 Bl.cells l]] (·=.bool (!inN l.length t)):=by
 refine fn_x zrN rfl ?_
 unfold zmM inN;conv in dcC _ _=>cbv
 have hB:=hBig
 by_cases h0:0≤t
 ·
  by_cases h1:t < l.length
  · rw[decide_eq_true ⟨h0,h1⟩];(refine Gw4 @ub @dT @dF @zg2.eq_1 ?_;intros);exact⟨_,.bool _ _,rfl⟩
  · rw[decide_eq_false (fun h=>h1 h.2)];(refine Gw4 @ub @dT @dF @zg2.eq_1 ?_;intros);exact⟨_,.bool _ _,rfl⟩
 · rw[decide_eq_false (fun h=>h0 h.1)];(refine Gw4 @ub @dT @dF @zg2.eq_1 ?_;intros);exact⟨_,.bool _ _,rfl⟩
theorem zo9(ad:Int)(l:List Bl)(m:List Int):PredI (.fn (.func zib) [encP 2 [.int .u32 ad,encL 2 Bl.cells l]]) m (fun t => !inN l.length t):=⟨_,_,rfl,by kernel_rfl,rfl,fun s _=>zry s ad l⟩
theorem zta(g:G)(hf:manyB g)(hc:∀b∈g.blocks,∀s∈b.stmts,s.cases.length≤100000000):zz Tryz.prog znp [.agg g.cells] (·=.bool (!g.blocks.isEmpty&&g.blocks.all fun b=>zjH b.stmts g.blocks.length)):=by
 refine fn_x zus rfl ?_
 unfold zpq;conv in dcC _ _=>cbv
 have hB:=hBig;obtain⟨hb,hs⟩:=hf;obtain⟨ad,l⟩:=g;simp only at hb hs hc;simp only[G.cells]
 by_cases h0:l.length=0
 · obtain rfl:l=[]:=Wh h0;(refine Gw4 @ub @dT @m9O @zeu.eq_1 ?_;intros);exact⟨_,.bool _ _,rfl⟩
 have he:l.isEmpty=false:=by cases l with|nil=>simp at h0|cons a l=>rfl
 rw[he];generalize hR:(l.all fun b=>zjH b.stmts l.length)=R;(refine Gw2 @ub @dF ?_;intros);refine zd (fun i:Nat=>([(1,encP 2 [.int .u32 ad,encL 2 Bl.cells l]),(11,encL 2 Bl.cells l),(12,.int .i64 l.length),(13,.int .i64 i)],[])) 0 (fun i=>i≤l.length∧((l.drop i).all fun b=>zjH b.stmts l.length)=R) (fun i=>l.length - i) 0 ⟨Wa _,hR⟩ (Ent.keep rfl fin5) ?_;rintro i ⟨hi,hgo⟩ wf;unfold zlM
 by_cases hl:i < l.length
 ·
  have hg:(l.map Bl.cells).getD i []=[.int .u32 l[i].addr,encL 8 St.cells l[i].stmts]:=zn hl;have hss:=zhp l[i] (hc _ (Wc hl));rw[Wd hl,Wj] at hgo;simp only[Bl.cells] at hss;generalize l[i].stmts=m at hg hgo hss;generalize l[i].addr=ad' at hg hss
  by_cases hm0:m.length=0
  ·
   obtain rfl:m=[]:=Wh hm0
   replace hgo:R=false:=by rw[←hgo];rfl
   subst hgo;(refine Gw5 @ub @dT hg @m9O @zeu.eq_1 ?_;intros);exact⟨_,.bool _ _,rfl⟩
  have hlast:m.length - 1 < m.length:=by omega
  have hidx:(((m.length:Nat):Int) - 1).toNat=m.length - 1:=by omega
  have hme:m.isEmpty=false:=by cases m with|nil=>simp at hm0|cons a l=>rfl
  unfold zjH at hgo;rw[hme,zpo m hlast] at hgo
  (repeat first|simp(disch:=try exact dis1) only[evD,Nat.reduceBEq,Nat.reduceAdd,Nat.reduceLeDiff,fldP,dT,dF,hg,hidx,zn hlast,St.len,St.eight]|with_reducible first|intro _|refine aJ ?_)
  refine zi (zf (zld m[m.length - 1]) rfl) ?_;generalize zoz m[m.length - 1]=q at hgo
  cases q with
  |
   false =>
   replace hgo:R=false:=by rw[←hgo];rfl
   subst hgo;(refine Gw1 @zeu.eq_1 ?_;intros);exact⟨_,.bool _ _,rfl⟩
  |
   true =>
   (refine Gw3 @ub @zBB hidx ?_;intros);refine zi (zaH (D:=noR) (zkY (m.take (m.length - 1)) _ _ (zsx _)) (.cons (zDG (by omega) (by omega) rfl (fun _=>rfl)) (.cons (zw6 (zsx (m.take (m.length - 1)))) .nil)) (.inl rfl)) ?_;generalize (m.take (m.length - 1)).any zoz=q at hgo
   cases q with
   |
    true =>
    replace hgo:R=false:=by rw[←hgo];rfl
    subst hgo;(refine Gw1 @zeu.eq_1 ?_;intros);exact⟨_,.bool _ _,rfl⟩
   |
    false =>
    (refine Gw1 @ub ?_;intros);refine zi (zf hss rfl) ?_;(refine Gw1 @ub ?_;intros);refine zi (zaH (D:=noR) (zkX (zav m) _ _ (zo9 ad l _)) (.cons (zai rfl) (.cons (zxC (zo9 ad l (zav m))) .nil)) (.inl rfl)) ?_;rw[List.all_eq_not_any_not] at hgo;generalize ((zav m).any fun t => !inN l.length t)=q at hgo
    cases q with
    |
     true =>
     replace hgo:R=false:=by rw[←hgo];rfl
     subst hgo;(refine Gw1 @zeu.eq_1 ?_;intros);exact⟨_,.bool _ _,rfl⟩
    |
     false =>
     replace hgo:((l.drop (i+1)).all fun b=>zjH b.stmts l.length)=R:=by rw[←hgo];rfl
     (refine Gw0 ?_;intros);exact⟨i+1,⟨by omega,hgo⟩,by omega,(Ent.tab [] [] rfl Qh Qh)⟩
 ·
  rw[We (by omega)] at hgo
  replace hgo:R=true:=by rw[←hgo];rfl
  subst hgo;(refine Gw2 @ub @dF ?_;intros);unfold zlA;(refine Gw1 @zeu.eq_1 ?_;intros);exact⟨_,.bool _ _,rfl⟩
theorem zj3(g:G)(hf:manyB g)(hc:∀b∈g.blocks,∀s∈b.stmts,s.cases.length≤100000000):zz Tryz.prog zgq [.agg g.cells] (·=.int .i64 (zdU g)):=by
 refine fn_x zpS rfl ?_
 unfold zlr;conv in dcC _ _=>cbv
 have hB:=hBig;have hsh:=zta g hf hc;obtain⟨hb,hs⟩:=hf;obtain⟨ad,l⟩:=g;simp only at hb hs hsh;simp only[G.cells,zdU,zur] at hsh ⊢;(refine Gw1 @ub ?_;intros);refine zd (fun s:Nat × Nat=>([(1,encP 2 [.int .u32 ad,encL 2 Bl.cells l]),(3,.int .i64 s.2),(12,encL 2 Bl.cells l),(13,.int .i64 l.length),(14,.int .i64 s.1)],[])) 0 (fun s=>s.1≤l.length∧s.2=cntB (l.take s.1)∧s.2≤1000000 * s.1) (fun s=>l.length - s.1) (0,0) ⟨Wa _,rfl,Nat.le_refl _⟩ (Ent.keep rfl fin5) ?_;rintro⟨i,n⟩ ⟨hi,hn0,hn⟩ wf;simp only at hi hn0 hn
 unfold ziQ;conv in dcC _ _=>cbv
 by_cases hl:i < l.length
 · have hg:(l.map Bl.cells).getD i []=[.int .u32 l[i].addr,encL 8 St.cells l[i].stmts]:=zn hl;have hsl:=hs l[i] (Wc hl);(refine Gw3 @ub @dT hg ?_;intros);exact⟨(i+1,n+l[i].stmts.length),⟨by simp only;omega,by simp only;rw[zA7 hl];omega,by simp only;omega⟩,by simp only;omega,(Ent.tab [] [] rfl Qh Qh)⟩
 obtain rfl:i=l.length:=by omega
 rw[List.take_length] at hn0;(refine Gw2 @ub @dF ?_;intros)
 unfold zij;conv in dcC _ _=>cbv
 by_cases h256:256 < l.length
 · rw[if_pos (.inl h256)];(refine Gw3 @ub @dT @zcL.eq_1 ?_;intros);exact⟨_,.int _ _ _,rfl⟩
 by_cases h1024:1024 < cntB l
 · rw[if_pos (.inr h1024)];(refine Gw4 @ub @dT @dF @zcL.eq_1 ?_;intros);exact⟨_,.int _ _ _,rfl⟩
 rw[if_neg (by omega)]
 (repeat first|simp(disch:=try exact dis1) only[evD,Nat.reduceBEq,Nat.reduceAdd,Nat.reduceLeDiff,fldP,dF,zP,tab,List.getD_cons_zero,List.getD_cons_succ]|with_reducible first|intro _|refine aJ ?_)
 refine zi (zf hsh rfl) ?_;generalize (!l.isEmpty&&l.all fun b=>zjH b.stmts l.length)=q
 cases q with
 |
  false =>
  (refine Gw1 @zcL.eq_1 ?_;intros);exact⟨_,.int _ _ _,rfl⟩
 | true =>
 rw[if_pos rfl];(refine Gw1 @ub ?_;intros);refine zd (fun i:Nat=>([(36,encL 2 Bl.cells l),(37,.int .i64 l.length),(38,.int .i64 i)],[])) 0 (fun i=>i≤l.length∧zmR (l.drop i)=zmR l) (fun i=>l.length - i) 0 ⟨Wa _,rfl⟩ (Ent.keep rfl fin5) ?_;rintro i ⟨hi,hgo⟩ wf
 unfold zir;conv in dcC _ _=>cbv
 by_cases hl:i < l.length
 ·
  have hg:(l.map Bl.cells).getD i []=[.int .u32 l[i].addr,encL 8 St.cells l[i].stmts]:=zn hl;have hsl:=hs l[i] (Wc hl);rw[zvy hl] at hgo;(refine Gw3 @ub @dT hg ?_;intros);generalize l[i].stmts=m at hg hgo hsl;generalize l[i].addr=ad' at hg;refine zd (fun j:Nat=>([(36,encL 2 Bl.cells l),(37,.int .i64 l.length),(38,.int .i64 i),(43,encL 8 St.cells m),(44,.int .i64 m.length),(45,.int .i64 j)],[])) 0 (fun j=>j≤m.length∧zjo (m.drop j)=zjo m) (fun j=>m.length - j) 0 ⟨Wa _,rfl⟩ (Ent.tab [] [] rfl Qh Qh) ?_;rintro j ⟨hj,hgo2⟩ wf2
  unfold zin;conv in dcC _ _=>cbv
  by_cases hm:j < m.length
  ·
   rw[zwc hm] at hgo2
   (repeat first|simp(disch:=try exact dis1) only[evD,Nat.reduceBEq,Nat.reduceAdd,Nat.reduceLeDiff,fldP,dT,zn hm,St.len,St.eight,St.flat]|with_reducible first|intro _|refine aJ ?_)
   refine zi (zf (zqm m[j]) rfl) ?_
   by_cases hx:m[j].check=0
   · rw[if_neg (by omega)] at hgo2;(refine Qd ?_;intros);exact⟨j+1,⟨by omega,hgo2⟩,by omega,(Ent.tab [] [] rfl Qh Qh)⟩
   · rw[if_pos hx] at hgo2;rw[←hgo2,if_pos hx] at hgo;rw[←hgo];(refine Gw2 @dT @zcL.eq_1 ?_;intros);exact⟨_,.int _ _ _,rfl⟩
  ·
   rw[We (by omega),zjo] at hgo2;rw[←hgo2,if_neg (by omega)] at hgo;(refine Gw2 @ub @dF ?_;intros)
   unfold zih;conv in dcC _ _=>cbv
   (refine Gw0 ?_;intros);exact⟨i+1,⟨by omega,hgo⟩,by omega,Ent.keep rfl fin5⟩
 rw[We (by omega),zmR] at hgo;rw[←hgo];(refine Gw2 @ub @dF ?_;intros);unfold ziX;(refine Gw1 @zcL.eq_1 ?_;intros);exact⟨_,.int _ _ _,rfl⟩
def hasI(l:List Int)(t:Int):Bool:=l.any fun x=>decide (x=t)
theorem R24_Has_ok(l:List Int)(t:Int):zz Tryz.prog zlJ [za l,.int .i64 t] (·=.bool (hasI l t)):=by
 refine fn_x zr2 rfl ?_
 unfold zoR hasI;conv in dcC _ _=>cbv
 have hB:=hBig;generalize hR:(l.any fun x=>decide (x=t))=R;(refine Gw1 @ua ?_;intros);refine zd (fun i:Nat=>([(0,za l),(1,.int .i64 t),(5,.int .i64 i)],[])) 0 (fun i=>i≤l.length∧((l.drop i).any fun x=>decide (x=t))=R) (fun i=>l.length - i) 0 ⟨Wa _,hR⟩ (Ent.keep rfl fin5) ?_;rintro i ⟨hi,hgo⟩ wf
 unfold zkG;conv in dcC _ _=>cbv
 by_cases hl:i < l.length
 ·
  rw[Wd hl,Wl] at hgo
  by_cases hx:l[i]=t
  ·
   rw[decide_eq_true hx,Bool.true_or] at hgo;subst hgo
   (repeat first|simp(disch:=try exact dis1) only[evD,Nat.reduceBEq,Nat.reduceAdd,Nat.reduceLeDiff,dT,za,zn hl,zkk]|with_reducible first|intro _|refine aJ ?_)
   exact⟨_,.bool _ _,rfl⟩
  ·
   rw[decide_eq_false hx,Bool.false_or] at hgo
   (repeat first|simp(disch:=try exact dis1) only[evD,Nat.reduceBEq,Nat.reduceAdd,Nat.reduceLeDiff,dT,dF,za,zn hl]|with_reducible first|intro _|refine aJ ?_)
   exact⟨i+1,⟨by omega,hgo⟩,by omega,Ent.keep rfl fin5⟩
 ·
  rw[We (by omega)] at hgo
  replace hgo:R=false:=by rw[←hgo];rfl
  subst hgo;(refine Gw2 @dF @ua ?_;intros);unfold zkU;(refine Gw1 @zkk.eq_1 ?_;intros);exact⟨_,.bool _ _,rfl⟩
theorem znu(l:List Int)(t:Int):zz Tryz.prog zdZ [za l,.int .i64 t] (fun a=>∃n:Int,a=.int .i64 n∧decide (n ≥ 0)=hasI l t):=by
 refine fn_x zkB rfl ?_
 unfold zgn hasI;conv in dcC _ _=>cbv
 have hB:=hBig;generalize hR:(l.any fun x=>decide (x=t))=R;(refine Gw1 @ua ?_;intros);refine zd (fun i:Nat=>([(0,za l),(1,.int .i64 t),(7,.int .i64 l.length),(8,.int .i64 i)],[])) 0 (fun i=>i≤l.length∧((l.drop i).any fun x=>decide (x=t))=R) (fun i=>l.length - i) 0 ⟨Wa _,hR⟩ (Ent.keep rfl fin5) ?_;rintro i ⟨hi,hgo⟩ wf
 unfold zeS;conv in dcC _ _=>cbv
 by_cases hl:i < l.length
 ·
  rw[Wd hl,Wl] at hgo
  by_cases hx:l[i]=t
  ·
   rw[decide_eq_true hx,Bool.true_or] at hgo;subst hgo;have hx2:decide (t=l[i])=true:=decide_eq_true hx.symm
   (repeat first|simp(disch:=try exact dis1) only[evD,Nat.reduceBEq,Nat.reduceAdd,Nat.reduceLeDiff,dT,hx2,za,zn hl,zdr]|with_reducible first|intro _|refine aJ ?_)
   exact⟨_,.int _ _ _,i,rfl,decide_eq_true (by omega)⟩
  ·
   rw[decide_eq_false hx,Bool.false_or] at hgo;have hx2:decide (t=l[i])=false:=decide_eq_false (fun h=>hx h.symm)
   (repeat first|simp(disch:=try exact dis1) only[evD,Nat.reduceBEq,Nat.reduceAdd,Nat.reduceLeDiff,dT,hx2,za,zn hl]|with_reducible first|intro _|refine aJ ?_)
   exact⟨i+1,⟨by omega,hgo⟩,by omega,Ent.keep rfl fin5⟩
 ·
  rw[We (by omega)] at hgo
  replace hgo:R=false:=by rw[←hgo];rfl
  subst hgo;(refine Gw2 @dF @ua ?_;intros);unfold zeM;(refine Gw1 @zdr.eq_1 ?_;intros);exact⟨_,.int _ _ _,-1,rfl,rfl⟩
theorem zaq(l:List Int)(t:Int):zz Tryz.prog zae [za l,.int .i64 t] (·=.bool (hasI l t)):=by
 refine fn_x zi4 rfl ?_
 unfold zeQ;conv in dcC _ _=>cbv
 have hB:=hBig;(refine Gw0 ?_;intros);refine zAP (D:=noR) (znu l t) (.cons (zai rfl) (.cons (zai rfl) .nil)) (fun a ⟨n,h,_⟩=>.inl (by rw[h];rfl)) ?_;rintro _ ⟨n,rfl,hn⟩;(refine Gw2 hn @zeT.eq_1 ?_;intros);exact⟨_,.bool _ _,rfl⟩
end Go.Ab
namespace Go.Ab.Dm
open Go.RowKit Go.Proofs
theorem zn{α β:Type}{f:α→β}{l:List α}{i:Nat}{d:β}(h:i < l.length):(l.map f).getD i d=f l[i]:=zjr (Wi h)
theorem R24_Has_ok(l:List Int)(x:Int):zz Tryz.prog zlJ [za l,.int .i64 x] (·=.bool (decide (x∈l))):=by
 refine fn_x zr2 rfl ?_
 unfold zoR;conv in dcC _ _=>cbv
 simp only[evD,Nat.reduceBEq,Nat.reduceAdd,Nat.reduceLeDiff];refine zd (fun i:Nat=>([(0,za l),(1,.int .i64 x),(5,.int .i64 i)],[])) 0 (fun i=>i≤l.length∧x∉l.take i) (fun i=>l.length - i) 0 ⟨Wa _,by simp⟩ (Ent.keep rfl fin5) ?_;intro i ⟨h1,h2⟩ wf
 unfold zkG;conv in dcC _ _=>cbv
 simp only[evD,Nat.reduceBEq,Nat.reduceAdd,Nat.reduceLeDiff,za]
 refine fun hbig=>zw (fun h=>?_) (fun h=>?_)
 ·
  have hi:i < l.length:=by simpa using h
  simp only[evD,Nat.reduceBEq,Nat.reduceAdd,Nat.reduceLeDiff,zn hi];refine⟨by omega,fun hr=>zw (fun h=>?_) (fun h=>?_)⟩
  ·
   have hx:l[i]=x:=by simpa using h
   simp only[evD,Nat.reduceBEq,Nat.reduceAdd,Nat.reduceLeDiff,zkk];refine⟨_,.bool _ _,?_⟩
   have:x∈l:=by rw[←hx];exact Wc hi
   simp[this]
  ·
   have hx:l[i]≠x:=by simpa using h
   simp only[evD,Nat.reduceBEq,Nat.reduceAdd,Nat.reduceLeDiff];refine⟨i+1,⟨hi,?_⟩,by omega,?_⟩
   · rw[List.take_add_one,Wi hi];simp only[List.mem_append,not_or,Option.toList,List.mem_singleton];exact⟨h2,fun e=>hx e.symm⟩
   · unfold big at hbig;rw[zxn (by omega) (by omega)];exact Ent.keep rfl fin5
 ·
  have hi:¬i < l.length:=by simpa using h
  unfold zkU;simp only[evD,Nat.reduceBEq,Nat.reduceAdd,Nat.reduceLeDiff,zkk];refine⟨_,.bool _ _,?_⟩;have:l.take i=l:=List.take_of_length_le (by omega);rw[this] at h2;simp[h2]
end Go.Ab.Dm
