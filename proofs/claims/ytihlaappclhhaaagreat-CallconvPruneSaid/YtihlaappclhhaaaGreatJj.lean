/-
  Part 10 of the proof: how the calls of this program run, over values instead of memory, and what each function computes.
-/
import Derived.KernelRfl
import Derived.Test.YtihlaappclhhaaaGreatJi
set_option maxRecDepth 100000
set_option linter.unusedVariables false
set_option linter.unusedSimpArgs false
set_option linter.unnecessarySimpa false
set_option linter.unusedSectionVars false
open Go.Ab.Ent renaming keep->Xa,tab->Xd
open Go.Ab.Bl renaming cells->Xb
open Go.Ab.St renaming cells->Xc
open Nat renaming reduceBEq->Xe,reduceAdd->Xf,reduceLeDiff->Xg,le_refl->Xh
open Go.Proofs.Tryz renaming prog->Z9
open Nat renaming zero_le→Wa
open List renaming drop_of_length_le→Wc,drop_eq_getElem_cons→Wd,getElem_mem→We,eq_nil_of_length_eq_zero→Wf,all_cons→Wg,getElem?_eq_getElem→Wh,findIdx?_eq_some_iff_getElem→Wi,findIdx?_eq_none_iff→Wj,length_nil→Wl,any_cons→Wm,getD_eq_getElem?_getD→Wn,getLast?_eq_getElem?→Wo,take_length→Wp,cons_append→Wq,mem_iff_getElem→Ws,any_eq_false→Wt,length_cons→Wu
open Bool renaming false_and→Wk,and_eq_true→Wr
namespace Go.Ab
open Go.RowKit Go.Proofs
def zt2:ACode:=Z8 0x88c1000062113088c16c000621131400170202810c012207fa05006225c24133080730251062a00213142c10001860102c221330046410721106fa06220c231308702320006211314006141b8601505004082413350200006211c32213 []
def ziY:List ARet:=[.tmp 6]
theorem zBe:zL Z9 zrO (qRo [3])=some (zt2.strip,ziY,21):=by kernel_rfl
def zlO:ACode:=Z8 0xdc06c441062100106090bc23108fd0201510042113140000000000000000000000002acec101bd7000013631cd20cfa31131153312843903113111331224380311351133400df61005001760110110301284090011011130122408001105113dc2ec133532701400000002c815c360150110111301224080011051130902c29133 []
def zlS:ACode:=Z8 0x056310521001060800c231 []
def zlX:ACode:=Z8 0x1909625b100006211315307014000741a3601501105113080725133 [zlO,zlS]
def zl4:ACode:=.seq (.region [ Yaa] [1,2,5]) (.ret)
def zpb:ACode:=Z8 0x190960500000011333021004211c22213 [zlX,zl4]
attribute[irreducible]zlO zlS zlX zl4
def zlc:List ARet:=[.tmp 4]
theorem zwI:zL Z9 zmo (qRo [2])=some (zpb.strip,zlc,51):=by kernel_rfl
def zqE:ACode:=Z8 0x505441052100106080a231080b300510428002131400002961276040011012140800300c26131530701400631936015030080624133 []
def zqP:ACode:=.seq (.region [(oK 4 (-1))] [0,1,5]) (.ret)
def zws:ACode:=Z8 0x1909605000000113341000042113 [zqE,zqP]
attribute[irreducible]zqE zqP
def zrk:List ARet:=[.tmp 4]
theorem zCS:zL Z9 zpZ (qRo [])=some (zws.strip,zrk,19):=by kernel_rfl
def zsw:ACode:=Z8 0x80001560719381132012340a00300513080560419381044439c0213140c10001360100c22133000231610721b20cfa01108153040825132144439051c52213 []
def znB:List ARet:=[.cell 6 true 3]
theorem zzC:zL Z9 zpp (qRo [5])=some (zsw.strip,znB,19):=by kernel_rfl
def zqI:ACode:=Z8 0x800000001191022120970300176311341030c6100100176011021030913102100011c0213 []
def zmd:List ARet:=[.tmp 2]
theorem zxJ:zL Z9 zn9 (qRo [1])=some (zqI.strip,zmd,11):=by kernel_rfl
def zra:ACode:=Z8 0x706a410b210010602c05c231082c5000017200a21131400000024c81221ca0400115bfa01520125402c0011081637c2813153070140000c413c360150110816302c00c25133 []
def zqD:ACode:=Z8 0x8000000000bbc000014c10a21016e701c0013634023f6100101270701df6100a0017601108103dd2b130800000000000bc000015c10a21017d701221ca340310101d3128d32ffa388236035005f61001c0013604000c131403cb350017601108103fc23133 []
def zvh:ACode:=Z8 0x19096050000001133902100a211c52213 [zra,zqD]
attribute[irreducible]zra zqD
def zfq:List ARet:=[.tmp 10]
theorem zDM:zL Z9 ztO (qRo [5])=some (zvh.strip,zfq,51):=by kernel_rfl
def zob:ACode:=Z8 0x07c2101c210011604c07c2310000000000006d1c1022120bd70121e0efd534fa38037036034031823128434c03300cf6100107d21c106d110022111400000000000026c2c1011d701276340311311133128434c03309e61001130fa01820128404c00309c22c133153070145c100016604c05c22133 []
def zoB:ACode:=Z8 0x85d70000008100c2503e2213 []
def zst:ACode:=Z8 0x1909605002c3101c21001160150302c241330c11000c2113 [zob,zoB]
attribute[irreducible]zob zoB
def zsT:List ARet:=[.tmp 12]
theorem zzq:zL Z9 zlW (qRo [])=some (zst.strip,zsT,48):=by kernel_rfl
def zom:ACode:=Z8 0x02d2101c210010604c00310000000000000000021d7c102118138d7d1402124e3efded618fb02700260025002120e319fb022c0024c00282202400211021113021224024c00211028113024c0022c04d22235327014000dc410d360150110811304c0dc25133 []
def zoD:ACode:=Z8 0x091c3100c210010603c0bc231 []
def zos:ACode:=Z8 0x1909625ac100001c2113153070140006c419c460150110811303c06c25133 [zom,zoD]
def zoo:ACode:=Z8 0x89d0500001810a22c06e2213 []
def zsx:ACode:=Z8 0x190960500000011330002c410b2111111ac015011081132c251390216ca211c52213 [zos,zoo]
attribute[irreducible]zom zoD zos zoo
def zsf:List ARet:=[.tmp 10]
theorem zzf:zL Z9 zpr (qRo [5])=some (zsx.strip,zsf,51):=by kernel_rfl
def znf:ACode:=Z8 0x6096410821001060b04c231083c042420062113140000023c711019c14011012140b00a00506c271315307014000c313c360150a00b00c24133 []
def zm9:ACode:=.seq (.region [(oN 6 (.mov (.c (.bool false))))] [2,7,8]) (.ret)
def zqF:ACode:=Z8 0x19096050000001133005115107212235fa0400622924135021006211c32213 [znf,zm9]
attribute[irreducible]znf zm9
def zmg:List ARet:=[.tmp 6]
theorem zxK:zL Z9 zj5 (qRo [3])=some (zqF.strip,zmg,25):=by kernel_rfl
def zwT:ACode:=Z8 0x8000000000000001025c104212c23ea0126c14c0341315c011061230110611301106103012b190341315c01105123011051130110510304c132003100021c011c22313 []
def zxa:List ARet:=[.tmp 4]
theorem zCl:zL Z9 zmP (qRo [2,3])=some (zwT.strip,zxa,20):=by kernel_rfl
def zq6:ACode:=Z8 0x80000254001a11100000722193813bc129da9c236225c221228da031110000072219381318c29da03ac9c28da8c236225c235002406c22230800540017107229381b00044439c0413141c10001860101c2213000941082120c30ea050040062292513360200000444396211c32313 []
def zme:List ARet:=[.cell 6 true 3,.tmp 7]
theorem zxk:zL Z9 znZ (qRoL [3] [(4,[0,1,2,5,6,7,8,9,10,11,12,13,14,15,16,17,18,19,20,21,22,23,24,25,26,27,28,29,30,31,32,33,34,35,36,37,38,39,40,41,42,43,44,45,46,47,48,49,50,51,52,53,54,55,56,57,58,59,60,61,62,63,64,65,66,67,68,69,70,71,72,73,74,75,76,77,78,79,80,81,82,83,84,85,86,87,88,89,90,91,92,93,94,95,96,97,98,99,100,101,102,103,104,105,106,107,108,109,110,111,112,113,114,115,116,117,118,119,120,121,122,123,124,125,126,127,128,129,130,131,132,133,134,135,136,137,138,139,140,141,142,143,144,145,146,147,148,149])])=some (zq6.strip,zme,22):=by kernel_rfl
def zjs:ACode:=Z8 0x05d63101d21004d06dd22108a006c856c0006211314ec0c210c010bd2213000009c0a8dd00cd138144439b28d12c0102c9d2105d21224443a1794c01c00b06d2913002d310a211022d14031315307014303d4d362d2113 []
def zjV:ACode:=.seq (.region [(oK 6 0)] [8,27,28,29]) (.ret)
def zmR:ACode:=Z8 0x1909605ac320000015011eea0622ec241330011c0301810821228da050040bc24130801c300161062a00213148c10001860108c221300a64107211dea06226c23133081c0014200062113140001c415c860150500150401c2513350200006211c32213 [zjs,zjV]
attribute[irreducible]zjs zjV
def zd1:List ARet:=[.tmp 6]
theorem zs4:zL Z9 zgq (qRo [3])=some (zmR.strip,zd1,42):=by kernel_rfl
def zhA:ACode:=Z8 0x01c210621001160900310000000020ca101ac6c37a4c131320212340290023002110212140290024002803c22215307014b1000166090b22133 []
def zhK:ACode:=.seq (.region [(oM 24 5),(oM 4 24)] [0,1,5,6,24]) (.ret)
def zj3:ACode:=Z8 0x190960500831062100116015040824133711052014c722134180042113 [zhA,zhK]
attribute[irreducible]zhA zhK
def zjC:List ARet:=[.tmp 4]
theorem zqc:zL Z9 zbq (qRo [])=some (zj3.strip,zjC,25):=by kernel_rfl
def zq7:ACode:=Z8 0x80000000000032013c111111110173813ac121115c10344439c8c228c7c6c300fa6c2340126ea03110300011403401c138eab235229235223c2311111110173813ac121115c10344439c8c228c7c6c300fa6c2340126ea03110300011403401c0c38eab235223c231111110173813ac121115c10344439c8c228c7c6c300fa6c2340126ea0311030002c140c235223c23111110173813ac121115c10344439c8c228c7c6c300fa6c2340126ea033c11c235223c2311110173813ac121115c10344439c8c228c7c6c300fa6c23404c26ea2c235223c23110173813ac121115c10344439c8c228c7c1300fa6c235220240126ea03110300011403401c138eab23522923807c228002404c2240a222300631052122fea04005226241301444394211c22213 []
def zqV:List ARet:=[.cell 4 true 3]
theorem zxu:zL Z9 zg9 (qRoL [2] [(2,[0,1,3,4,6,7,8,10,11,12,13,14,15,16,17,18,19,20,21,22,23,24,25,26,27,28,29,30,31,32,33,34,35,36,37,38,39,40,41,42,43,44,45,46,47,48,49,50,51,52,53,54,55,56,57,58,59,60,61,62,63,64,65,66,67,68,69,70,71,72,73,74,75,76,77,78,79,80,81,82,83,84,85,86,87,88,89,90,91,92,93,94,95,96,97,98,99,100,101,102,103,104,105,106,107,108,109,110,111,112,113,114,115,116,117,118,119,120,121,122,123,124,125,126,127,128,129,130,131,132,133,134,135,136,137,138,139,140,141,142,143,144,145,146,147,148,149])])=some (zq7.strip,zqV,21):=by kernel_rfl
def zdD:ACode:=Z8 0x4b631072100a06bc22100000b6610521ac813c0101001115c090080051140000000a81014c7010c312202fa390340fc610012210494c090030a2913082106220021315307014301c00a3682113 []
def zdG:ACode:=Z8 0x804c1300610421103fa080cc2313 []
def zeV:ACode:=Z8 0x190960500000721133016c01134116c42113 [zdD,zdG]
attribute[irreducible]zdD zdG
def zfa:List ARet:=[.tmp 4]
theorem zhG:zL Z9 zah (qRo [])=some (zeV.strip,zfa,26):=by kernel_rfl
def zem:ACode:=Z8 0xfc1108c2100bc060210002c85211812ec140014c0b0020bc25109c210822002131530701430acbc369c2113 []
def zgD:ACode:=Z8 0x0cd01336be188144030000000000891c221 []
def zgL:ACode:=Z8 0x0000bd1504912dece413fa08107104c8202c19e25175 []
def zgH:ACode:=Z8 0x000009eb62009221181209f1402c101c00a006f26108f4000000ee70102f86021144c0211021214021c002a0021144c022c1ee2223 []
def zc3:ACode:=Z8 0x0d0bcb410a210011601c07d231 []
def zdl:ACode:=Z8 0x392919098e7e21b65000000e61112fa011011130122401c0011061130e2713300000026d82e1181819b2122aea0a001220122401c0011061139d2913553470145d100016601c05d22133 [zgD,zgL,zgH,zc3]
def zdb:ACode:=Z8 0x096450001d410a2100116015011061131d25130d1100921133527014910c00d21133 [zdl]
def zgE:ACode:=.seq (.region [(oM 70 7),(oM 6 70)] [3,4,5,7,9,10,70]) (.ret)
def zes:ACode:=Z8 0x190962507c2200921133 [zdb,zgE]
def zor:ACode:=Z8 0x19096056c100000150106c231330002c41072118181ac015011061132c25133000416c051c047c011c32413 [zem,zes]
attribute[irreducible]zem zgD zgL zgH zc3 zdl zdb zgE zes
def zgn:List ARet:=[.tmp 6]
theorem zuW:zL Z9 zck (qRo [3,5])=some (zor.strip,zgn,71):=by kernel_rfl
def zjL:ACode:=Z8 0x05c83201234a4c1b0080ec23100bc31082102c0cc154c031335270143ac1102c0cc2dac2213 []
def zjF:ACode:=.region [(oC 28 .add 13 1),(oM 13 28)] [21,28]
def zj2:ACode:=Z8 0x19096250009751134c011012140a00405c2513002c3107211022c14031315307014303c4c362c2113 [zjL,zjF]
def zjY:ACode:=.seq (.region [(oM 29 5),(oM 4 29)] [1,5,11,12,13,29]) (.ret)
def zmU:ACode:=Z8 0x1909605722000001501116fa0522a24133911052014c922133028004211c22213 [zj2,zjY]
attribute[irreducible]zjL zjF zj2 zjY
def zng:List ARet:=[.tmp 4]
theorem zts:zL Z9 zaj (qRo [2])=some (zmU.strip,zng,30):=by kernel_rfl
def zd4:ACode:=Z8 0xdc1107c2100ac0602101c931224b4c10c0030bc231008c3109211028c14031315307014309cac368c2113 []
def zd8:ACode:=Z8 0x7d1101d21004d0602109cb3201234a4c12c00305d231002d310b211022d14031335327014303d4d362d2113 []
def zd3:ACode:=Z8 0x2dd1c3102e21005e06021000dd1c4201234a4c14c00300311400006e5101be701c0013634c02df61000001660106e2613003e3101c211023e14031365357014304e5e363e2113 []
def zed:ACode:=Z8 0x09f11003f210006f0602107e3c3201234a4c16c003007f2310004f3103c2110204f140313853770143005f06f3604f2113 []
def zd6:ACode:=Z8 0x019675be32000001506001f2313149c03d22510fe2a00cd7600f221309655000103d10290000015010101d01fd24443a0794c01108153050cd271314bd110ad2500176bd221345600fc411081038d2213 [zd3,zed]
def zd9:ACode:=Z8 0x19096256005c4000001501132fa0882ec24133 [zd8,zd6]
def ze3:ACode:=Z8 0x19096054c1000001501124fa01824c241331141c52113 [zd4,zd9]
attribute[irreducible]zd4 zd8 zd3 zed zd6 zd9
def zbu:List ARet:=[]
theorem zki:zL Z9 zbB (qRo [5])=some (ze3.strip,zbu,70):=by kernel_rfl
def zjx:ACode:=Z8 0xdc1108c2100bc0602103c732011811921874c010bc23109c210722002131530701430800bc369c2113 []
def zfU:ACode:=Z8 0x0df110ce2100fe060df22100000000000000e2c3c1021181302f921874c0210106f702109f2000300c4c32132321823874c325c0321323212c23874c325c043f62100211021921874c025c00210fe2220de2102c22002137536701430800fe36de2113 []
def zfT:ACode:=Z8 0x0005c0dd1c712ccc811211f323fa04004c8202ccc20ef251 []
def zfY:ACode:=.region [(oC 78 .add 49 1),(oM 49 78)] [78]
def zfV:ACode:=Z8 0x2919009665be1000001131409e2a00176011011039e23133006e3be188144030000000000891c2182026e84041355347014307e8e366e2113 [zfU,zfT,zfY]
def zjj:ACode:=Z8 0x1d007db5106d21009d0613f221 []
def zj1:ACode:=Z8 0x190964500003da60000015011011130122401c001105113ed2813000ad40e1cc81030000030000030000030000030000030000030000030000cc9b21cc2012cc401c00b0ad2613007d310a211027d14031335327014308d9d367d2113 [zfV,zjj]
def zjM:ACode:=Z8 0x408f4c31015f210018f061ef2210000008f4c6103c211df813c0101001115c07c006c0051145c11019f21130016f31bf00204c218f17f201884c0200413953870143080018f3616f2113 []
def zjX:ACode:=Z8 0x809004f3c510421103fa06c01ff2313 []
def zju:ACode:=Z8 0x1909685610000098214f2213300bc2201716c3c2113 [zjM,zjX]
def ziT:ACode:=Z8 0x19096253d1000001501122fa05223d24133000d3108212221fa04005220413058c3430118111230700823874cec2313 [zj1,zju]
def zmG:ACode:=Z8 0x1909605000008c211337c1ac188111111111896201111111189c7c23136c19c1cc81030000030000030000030000030000030000030000030000cc952020fa6c231330216c4211c22213 [zjx,ziT]
attribute[irreducible]zjx zfU zfT zfY zfV zjj zj1 zjM zjX zju ziT
def zmv:List ARet:=[.tmp 4]
theorem zta:zL Z9 zi9 (qRo [2])=some (zmG.strip,zmv,93):=by kernel_rfl
def zgz:ACode:=Z8 0x7e110fd21002e060210006d0c511ccc81126e323fa04003c8201ccc23e251000e35e188144030000000000890c2182020e84041355347014301e2e360e2113 []
attribute[irreducible]zgz
def zif:List AOper:=[(oM 63 5),(oM 64 14),(oI 65 24 63 64),(oA 66 24 65),(oA 67 24 10),(oN 68 (.callq zdL [(.t 66),(.t 67)])),(oN 15 (.alloc [.int .i64 0,.int .i64 0,.int .u32 0,.int .i64 0,.int .i64 0,.int .u32 0,.int .i64 0,.int .i64 0,.int .u32 0,.int .i64 0,.int .i64 0,.int .u32 0,.int .i64 0,.int .i64 0,.int .u32 0,.int .i64 0,.int .i64 0,.int .u32 0,.int .i64 0,.int .i64 0,.int .u32 0,.int .i64 0,.int .i64 0,.int .u32 0])),(oS 24 15 68)]
def znX:List (List Nat):=[[],[],[0,1],[2],[],[3,4],[],[6,5,5,0,1,2,3,4,5,6]]
def ziP:List Nat:=[6,7]
def zqu:List (List Nat):=[[],[],[0,1],[0,1,2],[],[0,1,2,3,4],[],[0,1,2,3,4,5,6]]
def zpe:List (List Nat):=[[],[6],[6,7]]
def zhm:Plan:=[(0,[],[]),(1,[],[]),(2,[],[]),(2,[6],[6]),(3,[],[]),(3,[6],[6]),(4,[],[]),(4,[6],[6]),(5,[],[]),(5,[6],[6]),(6,[],[6]),(7,[6],[6,7])]
def zgO:ACode:=.seq (.region [(oB 60 .lss 59 58)] []) (.seq (.cond (.t 60) (.skip) (.exit 6)) (.seq (.block 7 (.seq (.region [(oI 61 1 57 59),(oL 62 61),(oM 14 62)] [60,61,62]) (.seq (.draw (zgb zif znX 8 (List.replicate 8 false)) [63,64,65,66,67,68]) (.seq (.draw (.step (oA 69 24 15) (.step (oM 70 5) (.step (oM 71 14) (.step (oI 72 24 70 71) (.step (oA 73 24 72) (.step (oN 74 (.xop (.eqs true [0,0,0,0,0,0,0,0,0,0,0,0,0,0,0,0,0,0,0,0,0,0,0,0]) [(.t 69),(.t 73)])) (.done))))))) [69,70,71,72,73]) (.cond (.t 74) (.region [(oM 75 5),(oM 76 14),(oA 77 24 15),(oI 78 24 75 76),(oS 24 78 77),(oN 7 (.mov (.c (.bool true))))] [14,15,74,75,76,77,78]) (.skip)))))) (.region [(oC 79 .add 59 1),(oM 59 79)] [14,15,74,79])))
def zlj:ACode:=Z8 0x0966500008003d99000001501116fa01220122400c0011051138e2813 [zgO]
def zkI:ACode:=Z8 0x8c002ea5100d21003d0614f221 []
def zkG:ACode:=Z8 0x29190964500008d50000015011011130122400c0011051138d281330004d4ad1cc81030000030000030000030000030000030000030000030000cc9a21cc2012cc400c00804d2613001d3109211021d14031335327014302d3d361d2113 [zgz,zlj,zkI]
def zkC:ACode:=Z8 0x0962500000015020ec2313dc110072113150701471a0dc21133 [zkG]
def zkP:ACode:=Z8 0x88e006c00201910428015f2213 []
def zog:ACode:=Z8 0x19096050200011330bc210621122fa05220313008c321cc810002cc40020fa0108c24130004c4105211030000030000030000030000030000030000030000030000cc84fccac015011051134c2513302cc6c4211c22213 [zkC,zkP]
attribute[irreducible]zgO zlj zkI zkG zkC zkP
def zot:List ARet:=[.tmp 4]
theorem zuP:zL Z9 zkJ (qRo [2])=some (zog.strip,zot,82):=by kernel_rfl
def zj0:ACode:=Z8 0xa11032100606021000325213819423874c011110010203000039c05001062510421022200213153070143080063642113 []
def zjw:ACode:=Z8 0x8711313cc814cc2b2213 []
def zm0:ACode:=Z8 0x1909605000003211330030000030000030000030000030000030000030000030000cc901130030000030000030000030000030000030000030000030000cc902113 [zj0,zjw]
attribute[irreducible]zj0 zjw
def zmD:List ARet:=[.cell 0 true 24]
theorem ztj:zL Z9 zgo (qRo [])=some (zm0.strip,zmD,12):=by kernel_rfl
def zcm:ACode:=Z8 0x773e8410cd2100fd060210004be85213812623874c020010103000039c0b009f241140009cfd51004f212202fa0b00110a11305f2513000000003e8904f11811123000f623874c04301060110112301623874c0b00811400000004fd91019e701001763113110331623874c3b029f61007001760b04e2913140000e410fd212202fa0b0011021230e2513350dd210822002132531701430800fd36dd2113 []
def zU:ACode:=Z8 0x84d541c72002919cc816cc20df2213 []
def zfh:ACode:=Z8 0x1900961500000cd211300011d127ed138144439721bd24443a0794c011071530508d26131492ca3106d25001c767d221300000cc46213812623874c020010103000039c0110711305114012c72580013601107113fc2313142cb210dc23001c76ec22130000000000a4b102138138c623874c0219c242fb02152020001540211027163026cc2021102711302214010725800136011071131c2313140c110b21001760c221305911107103922133002030000030000030000030000030000030000030000030000cc96241c017c32313 [zcm,zU]
attribute[irreducible]zcm zU
def zad:List ARet:=[.cell 6 true 24]
theorem zk1:zL Z9 zbN (qRo [4])=some (zfh.strip,zad,74):=by kernel_rfl
def zeE:ACode:=Z8 0x5c2c5310621009060210002c2c55213812523874c020010103000039c0807d241bc40000000000000b93c0108c221011d70214d2000310c4c32132321623874c328032132321523874c32809e6210020001860211021103021623874c02809c222300005357213816c523874c013201623874c0800803c261140000a510920001760110110301523874c010a2613250721052200213153070143080093672113 []
def zeF:ACode:=Z8 0x84d202417cc815cc2bd2213 []
def zfJ:ACode:=Z8 0x190960500000621133002030000030000030000030000030000030000030000030000cc9027c017c22313 [zeE,zeF]
attribute[irreducible]zeE zeF
def zfK:List ARet:=[.cell 4 true 24]
theorem zlm:zL Z9 zdL (qRo [])=some (zfJ.strip,zfK,40):=by kernel_rfl
def zbL:List AOper:=[(oA 20 24 2),(oF 21 4 1 3),(oL 22 21),(oN 23 (.idx 5 (.t 22) (.c (.int .i64 0)))),(oA 24 5 23),(oN 25 (.callq zcb [(.t 20),(.t 24)])),(oN 5 (.alloc [.int .i64 0,.int .i64 0,.int .u32 0])),(oS 3 5 25)]
def zhd:List (List Nat):=[[],[],[1],[2],[3],[0,4],[],[6,5,5,0,1,2,3,4,5,6]]
def zaZ:List Nat:=[6,7]
def zel:List (List Nat):=[[],[],[1],[1,2],[1,2,3],[0,1,2,3,4],[],[0,1,2,3,4,5,6]]
def zdW:List (List Nat):=[[],[6],[6,7]]
def zaM:Plan:=[(0,[],[]),(0,[6],[6]),(1,[],[]),(2,[],[]),(2,[6],[6]),(3,[],[]),(3,[6],[6]),(4,[],[]),(4,[6],[6]),(5,[],[]),(5,[6],[6]),(6,[],[6]),(7,[6],[6,7])]
def zfN:ACode:=.seq (.region [(oN 2 (.box (.t 0))),(oN 3 (.rbox (.t 1))),(oN 4 (.alloc [.int .i64 0,.int .i64 0,.int .u32 0]))] [0,1]) (.seq (.seq (.region [(oF 6 0 1 3),(oL 7 6)] [6]) (.block 0 (.seq (.region [(oC 9 .eql 7 2),(oM 8 9)] [9]) (.cond (.t 8) (.seq (.region [(oF 10 2 1 3),(oL 11 10),(oC 12 .lss 11 8)] [7,8,10,11]) (.cond (.t 12) (.seq (.region [(oF 13 2 1 3),(oL 14 13),(oN 15 (.xop (.aaddr 8 3) [(.t 2),(.t 14)])),(oA 16 3 15),(oS 3 4 16)] [2,3,12,13,14,15,16]) (.ret)) (.skip))) (.seq (.seq (.region [(oC 18 .eql 7 3),(oM 17 18)] [8,18]) (.cond (.t 17) (.skip) (.region [(oC 19 .eql 7 4),(oM 17 19)] [7,19]))) (.cond (.t 17) (.seq (.draw (zgb zbL zhd 8 (List.replicate 8 false)) [2,7,17,20,21,22,23,24,25]) (.seq (.seq (.region [(oF 26 4 1 3),(oL 27 26),(oN 28 (.idx 5 (.t 27) (.c (.int .i64 1)))),(oF 29 0 1 28),(oL 30 29),(oC 31 .neq 30 1),(oM 32 31),(oG 33 32 false (.fldaddr 0 1 (.t 5))),(oG 34 32 false (.load false 1 (.t 33))),(oG 35 32 false (.bin .neq (.t 34) (.c (.int .i64 1)))),(oN 36 (.pick (.t 32) (.c (.bool true)) (.t 35)))] [26,27,28,29,30,31,32,33,34,35]) (.cond (.t 36) (.seq (.seq (.region [(oF 37 0 1 5),(oL 38 37),(oC 39 .eql 38 0),(oM 40 39),(oG 41 40 true (.fldaddr 4 1 (.t 3))),(oG 42 40 true (.load false 1 (.t 41))),(oG 43 40 true (.idx 5 (.t 42) (.c (.int .i64 1)))),(oG 44 40 true (.fldaddr 0 1 (.t 43))),(oG 45 40 true (.load false 1 (.t 44))),(oG 46 40 true (.bin .eql (.t 45) (.c (.int .i64 1)))),(oN 47 (.pick (.t 40) (.t 46) (.c (.bool false))))] [3,36,37,38,39,40,41,42,43,44,45,46]) (.cond (.t 47) (.seq (.region [(oA 48 3 5),(oS 3 4 48)] [5,47,48]) (.ret)) (.skip))) (.seq (.region [(oN 49 (.build [.int .i64 0,.int .i64 0,.int .u32 0] [(0,1,(.c (.int .i64 2)))])),(oS 3 4 49)] [5,47,49]) (.ret))) (.skip))) (.seq (.seq (.region [(oF 50 0 1 3),(oL 51 50),(oC 52 .eql 51 3)] [36,50,51]) (.cond (.t 52) (.draw (.step (oF 53 2 1 5) (.step (oL 54 53) (.step (oF 55 4 1 3) (.step (oL 56 55) (.step (oN 57 (.idx 5 (.t 56) (.c (.int .i64 1)))) (.step (oF 58 1 1 57) (.step (oL 59 58) (.step (oB 60 .add 54 59) (.step (oF 61 2 1 5) (.alt (oS 1 61 60) (.done) (.stop))))))))))) [3,52,53,54,55,56,57,58,59,60,61]) (.draw (.step (oF 62 2 1 5) (.step (oL 63 62) (.step (oF 64 4 1 3) (.step (oL 65 64) (.step (oN 66 (.idx 5 (.t 65) (.c (.int .i64 1)))) (.step (oF 67 1 1 66) (.step (oL 68 67) (.step (oB 69 .sub 63 68) (.step (oF 70 2 1 5) (.alt (oS 1 70 69) (.done) (.stop))))))))))) [3,52,62,63,64,65,66,67,68,69,70]))) (.seq (.region [(oA 71 3 5),(oS 3 4 71)] [5,71]) (.ret))))) (.skip))))))) (.seq (.region [(oN 72 (.build [.int .i64 0,.int .i64 0,.int .u32 0] [(0,1,(.c (.int .i64 2)))])),(oS 3 4 72)] [2,3,7,12,17,72]) (.ret)))
def zE:List ARet:=[.cell 4 true 3]
theorem zlq:zL Z9 zcb (qRo [3])=some (zfN.strip,zE,73):=by kernel_rfl
def zeP:ACode:=Z8 0x0e110ad2100dd0602100d1c3201234a4c14c00a0ed23100bd3101c21102bd1403135534701430cddd36bd2113 []
def zeR:ACode:=Z8 0x00f110ae2100de060210ed3c3201234a4c16c00a0ee23100be3103c21102be1403137536701430cede36be2113 []
def zeT:ACode:=Z8 0x0006f220700134a4c1a0021140000600cdb97001202fa010121d0104f24443a0794c01102c15304001f2613 []
def zil:ACode:=Z8 0x190966500003e50000015010111d017e24443a0794c01102c153040071330371406008d550018601102c1031e23133 [zeR,zeT]
def za7:ACode:=.region [(oC 68 .add 31 1),(oM 31 68)] [66,68]
def zeN:ACode:=Z8 0x2919096457d1000001501124fa01827d24133004d39d18814403000000000089b2182024d84041335327014305d6d364d2113 [zeP,zil,za7]
def zii:ACode:=Z8 0x9d001d4108c2100bc0609f221 []
def zie:ACode:=Z8 0x190962500002c960000015011011130122400c001106113cc2813009c3109211029c1403131530701430acbc369c2113 [zeN,zii]
def zin:ACode:=Z8 0x8005e00a3001a10621226ea0500a00af2413 []
def zlh:ACode:=Z8 0x19096055c1000001501122fa06225c241334c11072014c4c221350216c6211c32213 [zie,zin]
attribute[irreducible]zeP zeR zeT zil za7 zeN zii zie zin
def zkD:List ARet:=[.tmp 6]
theorem zrD:zL Z9 za5 (qRo [3])=some (zlh.strip,zkD,73):=by kernel_rfl
def zkL:ACode:=Z8 0x8000002071022186311c4c01503001503003007132116c22113 []
def zkq:List ARet:=[.tmp 2]
theorem zru:zL Z9 zdF (qRo [])=some (zkL.strip,zkq,9):=by kernel_rfl
def zhZ:ACode:=Z8 0x4c110a21001c060210853201234a4c1800602c23100b310521102b14031315307014300c1c36b2113 []
def zh2:ACode:=Z8 0x80006004119102218c26ea011041230605c2513 []
def zjO:ACode:=Z8 0x190960571000001501104113724133611032014c6221310216c011c0213 [zhZ,zh2]
attribute[irreducible]zhZ zh2
def zjz:List ARet:=[.tmp 2]
theorem zqp:zL Z9 zgC (qRo [1])=some (zjO.strip,zjz,21):=by kernel_rfl
def zcV:ACode:=.seq (.region [(oN 1 (.rbox (.t 0))),(oN 2 (.mov (.c (.nilfn))))] [0,2]) (.seq (.region [(oN 3 (.mkfn (.func zay) [(.t 1)])),(oM 2 3)] [1,3]) (.ret))
def zcZ:List ARet:=[.tmp 2]
theorem zgd:zL Z9 zaC (qRo [1])=some (zcV.strip,zcZ,4):=by kernel_rfl
def zbQ:ACode:=Z8 0x709310321001160609231081400000028810c013c22cbc018201284060041060030b28131530701471000166060722133 []
def zcs:ACode:=Z8 0x096050043103210011601504142413 [zbQ]
attribute[irreducible]zbQ
def zfw:List ARet:=[]
theorem zfA:zL Z9 zay (qRo [])=some (zcs.strip,zfw,19):=by kernel_rfl
def endsOk:List St->Bool
 |[]=>true
 |x::l=>(zmF x == l.isEmpty)&&endsOk l
def inN(n:Int)(t:Int):Bool:=decide (0<=t/\t<n)
def zar(l:List St):List Int:=match l.getLast? with
 |none=>[]
 |some s=>znC s
def zf3(l:List St)(n:Int):Bool := !l.isEmpty&&(endsOk l&&(zar l).all (inN n))
theorem zDf{l:List St}{i:Nat}(h:i<l.length):endsOk (l.drop i)=((zmF l[i] == decide ((i:Int)=(l.length:Int)-1))&&endsOk (l.drop (i+1))):=by
 rw[Wd h,endsOk];congr 2;by_cases b:i+1<l.length
 .rw[Wd b,decide_eq_false (by omega)];rfl
 .rw[Wc (by omega),decide_eq_true (by omega)];rfl
theorem zKa{l:List Int}{i:Nat}{p:Int->Bool}(h:i<l.length):(l.drop i).all p=(p l[i]&&(l.drop (i+1)).all p):=by rw[Wd h,Wg]
theorem zpk{l}(h:l.length-1<l.length):zar l=znC l[l.length-1]:=by unfold zar;rw[Wo,Wh h]
theorem zwb(b:Bl)(n:Int):zw Z9 zmp [.agg b.cells,.int .i64 n] (·=.bool (zf3 b.stmts n)):=by
 refine fn_x zvy rfl ?_;refine dcU zoO.eq_1 ?_;have w:=hBig;obtain⟨p,l⟩:=b;simp only[Xb,zf3];by_cases j:l.length=0
 .obtain rfl:l=[]:=Wf j;refine Gw4 @ub @dT @m9O @zc9.eq_1 ?_;intros;exact bzO
 have u:l.isEmpty=false:=by cases l with|nil=>simp at j|cons a l=>rfl
 rw[u];refine Qi ?_;intros;refine zc (λi:Nat=>([(1,.int .i64 n),(2,encP 2 [.int .u32 p,encL 8 Xc l]),(5,.int .i64 i)],[])) 0 (λi=>i<=l.length/\endsOk (l.drop i)=endsOk l) (λi=>l.length-i) 0 ⟨Wa _,rfl⟩ (Xa rfl fin5) ?_;rintro i ⟨v,c⟩ wf;refine dcU zlB.eq_1 ?_;by_cases e:i<l.length
 .rw[zDf e]at c;refine Gw5 @ub @dT (gmp e) @St.len @St.eight ?_;intros;refine zF (ze (zDh l[i]) rfl) ?_;generalize zmF l[i]=q at c;by_cases k:(i:Int)=(l.length:Int)-1
  .rw[decide_eq_true k]at c
   cases q with
   |true=>refine Gw2 @ub @dT ?_;intros;exact⟨i+1,⟨by omega,by simpa using c⟩,by omega,Xa rfl fin5⟩
   |false=>
    replace c:endsOk l=false:=by rw[<-c];rfl
    rw[c];refine Gw3 @ub @dT @zc9.eq_1 ?_;intros;exact bzO
  .rw[decide_eq_false k]at c
   cases q with
   |false=>refine Qi ?_;intros;exact⟨i+1,⟨by omega,by simpa using c⟩,by omega,Xa rfl fin5⟩
   |true=>
    replace c:endsOk l=false:=by rw[<-c];rfl
    rw[c];refine Gw3 @ub @dF @zc9.eq_1 ?_;intros;exact bzO
 rw[Wc (by omega),endsOk]at c;rw[<-c];have d:l.length-1<l.length:=by omega
 have g:(((l.length:Nat):Int)-1).toNat=l.length-1:=by omega
 rw[zpk d];refine Qi ?_;intros;refine dcU zlw.eq_1 ?_;refine Gw6 @ub @dT g (gmp d) @St.len @St.eight ?_;intros;refine zg (ze (zxi l[l.length-1]) rfl) ?_;generalize znC l[l.length-1]=t;generalize s:t.all (inN n)=R;refine Gw0 ?_;intros;refine zc (λi:Nat=>([(1,.int .i64 n),(6,za t),(7,.int .i64 i)],[])) 0 (λi=>i<=t.length/\(t.drop i).all (inN n)=R) (λi=>t.length-i) 0 ⟨Wa _,s⟩ (Xa rfl fin5) ?_;rintro i ⟨v,c⟩ wf;refine dcU zlE.eq_1 ?_;by_cases e:i<t.length
 .rw[zKa e]at c;unfold inN at c;by_cases m:0<=t[i]
  .by_cases o:t[i]<n
   .rw[decide_eq_true ⟨m,o⟩,Bool.true_and]at c;refine Gw5 @ub @dT @dF @ua (gmp e) ?_;intros;exact⟨i+1,⟨by omega,c⟩,by omega,Xa rfl fin5⟩
   .rw[decide_eq_false (λh=>o h.2),Wk]at c;subst c;refine Gw6 @ub @dT @dF @ua (gmp e) @zc9.eq_1 ?_;intros;exact bzO
  .rw[decide_eq_false (λh=>m h.1),Wk]at c;subst c;refine Gw6 @ub @dT @dF @ua (gmp e) @zc9.eq_1 ?_;intros;exact bzO
 .rw[Wc (by omega)]at c;replace c:R=true:=by rw[<-c];rfl
  subst c;refine Gw3 @ub @dF @ua ?_;intros;unfold zlG;refine Gw1 @zc9.eq_1 ?_;intros;exact bzO
def ziZ:List St->Int
 |[]=>0
 |s::l=>if s.check≠0 then s.check else ziZ l
def zmI:List Bl->Int
 |[]=>0
 |b::l=>if ziZ b.stmts≠0 then ziZ b.stmts else zmI l
def zyn(g:G):Int:=if (!g.blocks.isEmpty&&g.blocks.all λb=>zf3 b.stmts g.blocks.length)=true then zmI g.blocks else 18
theorem zwE{l:List St}{i:Nat}(h:i<l.length):ziZ (l.drop i)=if l[i].check≠0 then l[i].check else ziZ (l.drop (i+1)):=by rw[Wd h,ziZ]
theorem zvK{l:List Bl}{i:Nat}(h:i<l.length):zmI (l.drop i)=if ziZ l[i].stmts≠0 then ziZ l[i].stmts else zmI (l.drop (i+1)):=by rw[Wd h,zmI]
structure fewB(g:G):Prop where
 blocks:g.blocks.length<=12
 stmts:∀b∈g.blocks,b.stmts.length<=8
def cntB(l:List Bl):Nat:=(l.map λb=>b.stmts.length).sum
theorem zBy{l:List Bl}{i:Nat}(h:i<l.length):cntB (l.take (i+1))=cntB (l.take i)+l[i].stmts.length:=by rw[List.take_succ_eq_append_getElem h];unfold cntB;rw[List.map_append,List.sum_append];simp only[List.map_cons,List.map_nil,List.sum_cons,List.sum_nil,Nat.add_zero]
def zdJ(g:G):Int:=if 256<g.blocks.length\/1024<cntB g.blocks then 6 else zyn g
structure manyB(g:G):Prop where
 blocks:g.blocks.length<=1000000
 stmts:∀b∈g.blocks,b.stmts.length<=1000000
theorem zsj(g)(D:manyB g):zw Z9 zi7 [.agg g.cells] (·=.int .i64 (zdJ g)):=by
 refine fn_x zs8 rfl ?_;refine dcU zmE.eq_1 ?_;have J:=hBig;obtain⟨B,x⟩:=D;obtain⟨q,l⟩:=g;simp only at B x;simp only[G.cells,zdJ,zyn];by_cases o:256<l.length
 .rw[if_pos (.inl o)];refine Gw3 @ub @dT @zbZ.eq_1 ?_;intros;exact izO
 refine Qi ?_;intros;refine zc (λs:Nat×Nat=>([(1,encP 2 [.int .u32 q,encL 2 Xb l]),(3,.int .i64 s.2),(4,.int .i64 s.1)],[])) 0 (λs=>s.1<=l.length/\s.2=cntB (l.take s.1)/\s.2<=1000000*s.1) (λs=>l.length-s.1) (0,0) ⟨Wa _,rfl,Xh _⟩ (Xa rfl fin5) ?_;rintro⟨i,n⟩ ⟨t,p,F⟩ wf;simp only at t p F;refine dcU zj4.eq_1 ?_;by_cases h:i<l.length
 .have e:(l.map Xb).getD i []=[.int .u32 l[i].addr,encL 8 Xc l[i].stmts]:=zk h;have H:=x l[i] (We h);refine Gw3 @ub @dT e ?_;intros;exact⟨(i+1,n+l[i].stmts.length),⟨by simp only;omega,by simp only;rw[zBy h];omega,by simp only;omega⟩,by simp only;omega,Xa rfl fin5⟩
 obtain rfl:i=l.length:=by omega
 rw[Wp]at p;refine Qi ?_;intros;refine dcU zjh.eq_1 ?_;by_cases k:1024<cntB l
 .rw[if_pos (.inr k)];refine Gw3 @ub @dT @zbZ.eq_1 ?_;intros;exact izO
 rw[if_neg (by omega)];by_cases u:l.length=0
 .obtain rfl:l=[]:=Wf u;refine Gw5 @ub @dT @dF @m9O @zbZ.eq_1 ?_;intros;exact izO
 have C:l.isEmpty=false:=by cases l with|nil=>simp at u|cons a l=>rfl
 rw[C];refine Qi ?_;intros;refine zc (λi:Nat=>([(1,encP 2 [.int .u32 q,encL 2 Xb l]),(5,.int .i64 i)],[])) 0 (λi=>i<=l.length/\((l.drop i).all λb=>zf3 b.stmts l.length)=(l.all λb=>zf3 b.stmts l.length)) (λi=>l.length-i) 0 ⟨Wa _,rfl⟩ (Xa rfl fin5) ?_;rintro i ⟨t,c⟩ wf;refine dcU zjl.eq_1 ?_;by_cases h:i<l.length
 .have e:(l.map Xb).getD i []=[.int .u32 l[i].addr,encL 8 Xc l[i].stmts]:=zk h;rw[Wd h,Wg]at c;refine Gw3 @ub @dT e ?_;intros;refine zF (ze (zwb l[i] l.length) rfl) ?_
  cases v:zf3 l[i].stmts l.length with
  |true=>rw[v,Bool.true_and]at c;refine Gw0 ?_;intros;exact⟨i+1,⟨by omega,c⟩,by omega,Xa rfl fin5⟩
  |false=>rw[v,Wk]at c;rw[<-c];refine Gw1 @zbZ.eq_1 ?_;intros;exact izO
 rw[Wc (by omega)]at c;replace c:(l.all λb=>zf3 b.stmts l.length)=true:=by rw[<-c];rfl
 rw[c];refine Qi ?_;intros;unfold zjW;refine Gw0 ?_;intros;refine zc (λi:Nat=>([(1,encP 2 [.int .u32 q,encL 2 Xb l]),(6,.int .i64 i)],[])) 0 (λi=>i<=l.length/\zmI (l.drop i)=zmI l) (λi=>l.length-i) 0 ⟨Wa _,rfl⟩ (Xa rfl fin5) ?_;rintro i ⟨t,c⟩ wf;refine dcU zjn.eq_1 ?_;by_cases h:i<l.length
 .have e:(l.map Xb).getD i []=[.int .u32 l[i].addr,encL 8 Xc l[i].stmts]:=zk h;rw[zvK h]at c;refine Gw3 @ub @dT e ?_;intros;generalize l[i].stmts=m at e c;generalize l[i].addr=A at e;refine zc (λj:Nat=>([(1,encP 2 [.int .u32 q,encL 2 Xb l]),(6,.int .i64 i),(7,.int .i64 j)],[])) 0 (λj=>j<=m.length/\ziZ (m.drop j)=ziZ m) (λj=>m.length-j) 0 ⟨Wa _,rfl⟩ (Xa rfl fin5) ?_;rintro j ⟨K,d⟩ I;refine dcU zjv.eq_1 ?_;by_cases w:j<m.length
  .rw[zwE w]at d;refine Gw6 @ub @dT e (gmp w) @St.len @St.eight ?_;intros;refine zg (ze (zuX m[j]) rfl) ?_;by_cases y:m[j].check=0
   .rw[if_neg (by omega)]at d;refine Qa ?_;intros;exact⟨j+1,⟨by omega,d⟩,by omega,Xa rfl fin5⟩
   .rw[if_pos y]at d;rw[<-d,if_pos y]at c;rw[<-c];refine Gw2 @dT @zbZ.eq_1 ?_;intros;exact izO
  .rw[Wc (by omega),ziZ]at d;rw[<-d,if_neg (by omega)]at c;refine Gw3 @ub @dF e ?_;intros;refine dcU zjD.eq_1 ?_;refine Gw0 ?_;intros;exact⟨i+1,⟨by omega,c⟩,by omega,Xa rfl fin5⟩
 rw[Wc (by omega),zmI]at c;rw[<-c];refine Qi ?_;intros;unfold zjP;refine Gw1 @zbZ.eq_1 ?_;intros;exact izO
end Go.Ab
namespace Go.Ab
open Go.RowKit Go.Proofs
structure PredT(fv:AV)(l:List St)(p:St->Bool):Prop where
 ex:∃f caps,fv=.fn (.func f) caps/\zhI Z9 f=true/\zR caps=true/\∀s∈l,zw Z9 f ([.agg s.cells]++caps) (·=.bool (p s))
theorem zCz{fv}{l}{p}(g:PredT fv l p){s}(h:s∈l){H}{nx}{k}(e:k (.bool (p s)) H nx):zuq Z9 fv [.agg s.cells] H nx k:=by obtain⟨f,b,rfl,d,c,j⟩:=g.ex;rw[zpw];refine⟨d,zg (ze (j s h) ?_) e⟩;simp only[Wq,List.nil_append,Wg,Wr];exact⟨rfl,zgN c⟩
theorem zEi{fv}{l}{p}(h:PredT fv l p){H H2}{σ}{D}{t}:Vw H H2 σ D t fv fv:=by
 obtain⟨f,c,rfl,j,g,k⟩:=h.ex;refine .fn _ _ _ _ rfl λi a b d e=>?_
 rw[d]at e;cases e;exact zcL (zdK g d)
theorem zqi(l)(fv)(p)(n:PredT fv l p):zw Z9 zbg [encL 8 Xc l,fv] (·=.int .i64 (idxI (l.findIdx? p))):=by
 refine fn_x zf5 rfl ?_;refine dcU zcB.eq_1 ?_;have q:=hBig;refine Gw0 ?_;intros;refine zc (λi:Nat=>([(0,encL 8 Xc l),(1,fv),(7,.int .i64 l.length),(8,.int .i64 i)],[])) 0 (λi=>i<=l.length/\∀j (h:j<l.length),j<i->p l[j]=false) (λi=>l.length-i) 0 ⟨Wa _,λj _ h=>by omega⟩ (Xa rfl fin5) ?_;intro i ⟨s,c⟩ wf;refine dcU zb2.eq_1 ?_;refine Gw0 ?_;intros;(refine zz (λh=>?_) (λh=>?_))<;>(try simp only[dcd]at h)
 .have b:i<l.length:=by omega
  refine Gw3 (gmp b) @St.len @St.eight ?_;intros;refine zCz n (We b) ?_;refine Gw0 ?_;intros;(refine zz (λg=>?_) (λg=>?_))<;>(try simp only[dcd]at g)
  ·(refine Gw1 @za4.eq_1 ?_;intros);have e:l.findIdx? p=some i:=by rw[Wi];exact⟨b,g,λj d=>by rw[c j (by omega) d];simp⟩
   rw[e];exact izO
  ·(refine Gw0 ?_;intros);refine⟨i+1,⟨by omega,λj d m=>?_⟩,by omega,Xa rfl fin5⟩;by_cases k:j=i
   .subst k;simpa using g
   .exact c j d (by omega)
 .unfold zb6;refine Gw1 @za4.eq_1 ?_;intros;have e:l.findIdx? p=none:=by rw[Wj];intro x o;obtain⟨j,d,rfl⟩:=Ws.1 o;exact c j d (by omega)
  rw[e];exact izO
theorem zJI{l:List St}{p:St->Bool}:decide (idxI (l.findIdx? p) >= 0)=l.any p:=by
 cases h:l.findIdx? p with
 |none=>have:=Wj.1 h;rw[decide_eq_false (by simp[idxI])];symm;rw[Wt];intro x d;rw[this x d];simp
 |some i=>obtain⟨b,c,_⟩:=Wi.1 h;rw[decide_eq_true (by simp[idxI])];exact(zB6 b c).symm
theorem znV(l)(fv)(p)(b:PredT fv l p):zw Z9 zaV [encL 8 Xc l,fv] (·=.bool (l.any p)):=by refine fn_x zff rfl ?_;refine dcU zb0.eq_1 ?_;refine Gw0 ?_;intros;refine zg (zaH (D:=noR) (zqi l fv p b) (.cons (zM rfl) (.cons (zEi b) .nil)) (.inl rfl)) ?_;refine Gw1 @zca.eq_1 ?_;intros;refine⟨_,.bool _ _,?_⟩;rw[<-zJI]
structure PredI(fv:AV)(l:List Int)(p:Int->Bool):Prop where
 ex:∃f caps,fv=.fn (.func f) caps/\zhI Z9 f=true/\zR caps=true/\∀s∈l,zw Z9 f ([.int .i64 s]++caps) (·=.bool (p s))
theorem zDs{fv}{l}{p}(g:PredI fv l p){s}(h:s∈l){H}{nx}{k}(e:k (.bool (p s)) H nx):zuq Z9 fv [.int .i64 s] H nx k:=by obtain⟨f,b,rfl,d,c,j⟩:=g.ex;rw[zpw];refine⟨d,zg (ze (j s h) ?_) e⟩;simp only[Wq,List.nil_append,Wg,Wr];exact⟨rfl,zgN c⟩
theorem zET{fv}{l}{p}(h:PredI fv l p){H H2}{σ}{D}{t}:Vw H H2 σ D t fv fv:=by
 obtain⟨f,c,rfl,j,g,k⟩:=h.ex;refine .fn _ _ _ _ rfl λi a b d e=>?_
 rw[d]at e;cases e;exact zcL (zdK g d)
theorem zqq(l)(fv)(p)(n:PredI fv l p):zw Z9 za0 [za l,fv] (·=.int .i64 (idxI (l.findIdx? p))):=by
 refine fn_x zfs rfl ?_;refine dcU zc4.eq_1 ?_;have q:=hBig;refine Gw1 @ua ?_;intros;refine zc (λi:Nat=>([(0,za l),(1,fv),(7,.int .i64 l.length),(8,.int .i64 i)],[])) 0 (λi=>i<=l.length/\∀j (h:j<l.length),j<i->p l[j]=false) (λi=>l.length-i) 0 ⟨Wa _,λj _ h=>by omega⟩ (Xa rfl fin5) ?_;intro i ⟨s,c⟩ wf;refine dcU zcj.eq_1 ?_;refine Gw0 ?_;intros;(refine zz (λh=>?_) (λh=>?_))<;>(try simp only[dcd]at h)
 .have b:i<l.length:=by omega
  refine Gw2 @ua (gmp b) ?_;intros;refine zDs n (We b) ?_;refine Gw0 ?_;intros;(refine zz (λg=>?_) (λg=>?_))<;>(try simp only[dcd]at g)
  ·(refine Gw1 @zaU.eq_1 ?_;intros);have e:l.findIdx? p=some i:=by rw[Wi];exact⟨b,g,λj d=>by rw[c j (by omega) d];simp⟩
   rw[e];exact izO
  ·(refine Gw0 ?_;intros);refine⟨i+1,⟨by omega,λj d m=>?_⟩,by omega,Xa rfl fin5⟩;by_cases k:j=i
   .subst k;simpa using g
   .exact c j d (by omega)
 .unfold zcg;refine Gw1 @zaU.eq_1 ?_;intros;have e:l.findIdx? p=none:=by rw[Wj];intro x o;obtain⟨j,d,rfl⟩:=Ws.1 o;exact c j d (by omega)
  rw[e];exact izO
theorem zKw{l:List Int}{p:Int->Bool}:decide (idxI (l.findIdx? p) >= 0)=l.any p:=by
 cases h:l.findIdx? p with
 |none=>have:=Wj.1 h;rw[decide_eq_false (by simp[idxI])];symm;rw[Wt];intro x d;rw[this x d];simp
 |some i=>obtain⟨b,c,_⟩:=Wi.1 h;rw[decide_eq_true (by simp[idxI])];exact(zB6 b c).symm
theorem znU(l)(fv)(p)(b:PredI fv l p):zw Z9 zcv [za l,fv] (·=.bool (l.any p)):=by refine fn_x ziV rfl ?_;refine dcU zej.eq_1 ?_;refine Gw0 ?_;intros;refine zg (zaH (D:=noR) (zqq l fv p b) (.cons (zM rfl) (.cons (zET b) .nil)) (.inl rfl)) ?_;refine Gw1 @zei.eq_1 ?_;intros;refine⟨_,.bool _ _,?_⟩;rw[<-zKw]
theorem zBW(l)(j:l.length<=100000000):z7 Z9 za8 [za l] [] 0 (λv H g=>v=.own 0 0 0 0 l.length/\H=[(0,.row 1 (l.map cI) 0)]/\g=1):=by
 refine zS (fn_x zhB rfl ?_);unfold zew za;conv in Z8 _ _=>reduce
 have h:=hBig;have c:∀H,zec 1 (encL 1 (λn=>[.int .i64 n]) l) H=some (l.map cI):=λH=>zF0
 refine Gw1 @zpo ?_;intros
 cases d:(l.length == 0)with
 |true=>
  have e:l=[]:=Wf (by simpa using d);subst e;refine Gw0 ?_;intros;rename_i b;cases b
  ·(refine Gw2 c @zaA.eq_1 ?_;intros);exact⟨.own 0 0 0 0 0,[(0,.row 1 [] 0)],1,(Xd [(0,1,1)] [] rfl Qn Qn),rfl,rfl,rfl⟩
  ·(refine Gw1 @zaA.eq_1 ?_;intros);exact⟨.own 0 0 0 0 0,[(0,.row 1 [] 0)],1,(Xd [(0,1,0)] [] rfl Qn Qn),rfl,rfl,rfl⟩
 |false=>refine Gw2 c @zaA.eq_1 ?_;intros;exact⟨.own 0 0 0 0 l.length,[(0,.row 1 (l.map cI) 0)],1,(Xd [(0,1,1)] [] rfl Qn Qn),rfl,rfl,rfl⟩
theorem renI{ρ:Nat->Nat}{l:List Int}{g:Nat}:AObj.ren ρ (.row 1 (l.map cI) g)=.row 1 (l.map cI) g:=by simp only[AObj.ren];rw[zgm (zK λ_=>rfl)]
theorem zjb(b:Bl)(t:∀s∈b.stmts,s.cases.length<=100000000):zw Z9 zfn [.agg b.cells] (·=za (zar b.stmts)):=by
 refine fn_x zuV rfl ?_;refine dcU zof.eq_1 ?_;have x:=hBig;obtain⟨w,l⟩:=b;simp only at t;simp only[Xb];by_cases u:l.length=0
 .obtain rfl:l=[]:=Wf u;refine Gw4 @ub @dT @m9O @zdz.eq_1 ?_;intros;exact⟨_,zbv (l:=[]) trivial rfl (by simp only[Wl];omega),rfl⟩
 have c:l.length-1<l.length:=by omega
 have h:(((l.length:Nat):Int)-1).toNat=l.length-1:=by omega
 have g:=t _ (We c);have k:=zk (f:=Xc) (d:=[]) c;rw[zpk c];generalize l[l.length-1]=s at k g;obtain⟨op,var,m,next,j,v,e,n⟩:=s;simp only[Xc]at k g;unfold znC;simp only;refine Gw5 @ub @dT @dF h k ?_;intros;by_cases o:op=6
 .rw[if_pos o];refine Gw6 @dT @dF @ub @ua @uc @zdz.eq_1 ?_;intros;exact⟨_,zbv (l:=[next]) trivial rfl (by simp only[List.length_singleton];omega),rfl⟩
 rw[if_neg o];by_cases p:op=7
 .rw[if_pos p];refine Gw6 @dT @dF @ub @ua @uc @zdz.eq_1 ?_;intros;exact⟨_,zbv (l:=[next,j]) trivial rfl (by simp only[Wu,Wl];omega),rfl⟩
 rw[if_neg p];by_cases q:op=8
 .rw[if_pos q];refine Gw4 @dT @dF @ub @uc ?_;intros;refine zx [] 0 _ (zBW n g) rfl rfl Gin1_0 Gin1_0 ?_;rintro _ _ _ ⟨rfl,rfl,rfl⟩;refine Gw2 @renI @zdz.eq_1 ?_;intros;exact⟨_,zbv (l:=n) trivial rfl (by omega),rfl⟩
 rw[if_neg q];refine Gw6 @dT @dF @ub @ua @uc @zdz.eq_1 ?_;intros;exact⟨_,zbv (l:=[]) trivial rfl (by simp only[Wl];omega),rfl⟩
theorem zug:∀(l:List St)(h:l.length-1<l.length),endsOk l=(zmF (l[l.length-1]'h) && !((l.take (l.length-1)).any zmF))
 |[],h=>by simp at h
 |
  [x],h=>by
  rw[endsOk,endsOk];simp
 |
  x::y::l,h=>by
  have b:=zug (y::l) (by simp);rw[endsOk,b];simp only[Wu,Nat.add_sub_cancel,List.isEmpty_cons,List.take_succ_cons,Wm];have e:(x::y::l)[l.length+1]=(y::l)[l.length]:=rfl;rw[e];cases zmF x<;>cases zmF (y::l)[l.length]<;>simp
theorem zK6{α:Type}{f:α->List AV}{H c:AH}{σ:Nat->Nat->Option (Nat×Nat×Nat)}{D:Nat->Nat->Prop}{t:Bool}{l:List α}{b i n z:Nat}(p:i<=l.length)(k:n=i)(o:z=0)(h:∀a,zR (f a)=true):
  Vw H c σ D t (.sl b n (λa j=>((l.map f).getD (z+a) []).getD j .undef)) (encL b f (l.take i)):=by
 subst k o;have e:(l.take n).length=n:=by rw[List.length_take];omega
 unfold encL;rw[e];refine .slf _ _ _ _ _ (λa j g q=>?_);have d:(List.map f (List.take n l)).getD a []=(l.map f).getD (0+a) []:=by rw[Nat.zero_add,List.map_take,Wn,List.getElem?_take_of_lt g,Wn]
 rw[d,zk (show 0+a<l.length by omega),Wn]
 cases m:(f l[0+a])[j]? with
 |none=>exact .undef _ _
 |some x=>exact zcL (zdK (h _) m)
theorem zyH(l):PredT (.fn (.func zfr) []) l zmF:=⟨_,_,rfl,by kernel_rfl,rfl,λs _=>zoe s⟩
theorem zxt(t ad)(l):zw Z9 zkh [.int .i64 t,encP 2 [.int .u32 ad,encL 2 Xb l]] (·=.bool (!inN l.length t)):=by
 refine fn_x zxP rfl ?_;unfold zqC inN;conv in Z8 _ _=>reduce
 have d:=hBig;by_cases b:0<=t
 .by_cases c:t<l.length
  .rw[decide_eq_true ⟨b,c⟩];refine Gw4 @ub @dT @dF @ziM.eq_1 ?_;intros;exact bzO
  .rw[decide_eq_false (λh=>c h.2)];refine Gw4 @ub @dT @dF @ziM.eq_1 ?_;intros;exact bzO
 .rw[decide_eq_false (λh=>b h.1)];refine Gw4 @ub @dT @dF @ziM.eq_1 ?_;intros;exact bzO
theorem ztT(b)(l)(m):PredI (.fn (.func zkh) [encP 2 [.int .u32 b,encL 2 Xb l]]) m (λt=> !inN l.length t):=⟨_,_,rfl,by kernel_rfl,rfl,λs _=>zxt s b l⟩
theorem zzs(g)(B:manyB g)(v:∀b∈g.blocks,∀s∈b.stmts,s.cases.length<=100000000):zw Z9 zrA [.agg g.cells] (·=.bool (!g.blocks.isEmpty&&g.blocks.all λb=>zf3 b.stmts g.blocks.length)):=by
 refine fn_x zA9 rfl ?_;refine dcU zui.eq_1 ?_;have F:=hBig;obtain⟨y,C⟩:=B;obtain⟨n,l⟩:=g;simp only at y C v;simp only[G.cells];by_cases u:l.length=0
 .obtain rfl:l=[]:=Wf u;refine Gw4 @ub @dT @m9O @zfp.eq_1 ?_;intros;exact bzO
 have A:l.isEmpty=false:=by cases l with|nil=>simp at u|cons a l=>rfl
 rw[A];generalize x:(l.all λb=>zf3 b.stmts l.length)=R;refine Qi ?_;intros;refine zc (λi:Nat=>([(1,encP 2 [.int .u32 n,encL 2 Xb l]),(11,encL 2 Xb l),(12,.int .i64 l.length),(13,.int .i64 i)],[])) 0 (λi=>i<=l.length/\((l.drop i).all λb=>zf3 b.stmts l.length)=R) (λi=>l.length-i) 0 ⟨Wa _,x⟩ (Xa rfl fin5) ?_;rintro i ⟨H,c⟩ wf;unfold zo6;by_cases o:i<l.length
 .have k:(l.map Xb).getD i []=[.int .u32 l[i].addr,encL 8 Xc l[i].stmts]:=zk o;have e:=zjb l[i] (v _ (We o));rw[Wd o,Wg]at c;simp only[Xb]at e;generalize l[i].stmts=m at k c e;generalize l[i].addr=w at k e;by_cases j:m.length=0
  .obtain rfl:m=[]:=Wf j;replace c:R=false:=by rw[<-c];rfl
   subst c;refine Gw5 @ub @dT k @m9O @zfp.eq_1 ?_;intros;exact bzO
  have d:m.length-1<m.length:=by omega
  have h:(((m.length:Nat):Int)-1).toNat=m.length-1:=by omega
  have p:m.isEmpty=false:=by cases m with|nil=>simp at j|cons a l=>rfl
  unfold zf3 at c;rw[p,zug m d]at c;refine Gw8 @ub @dT @dF k h (gmp d) @St.len @St.eight ?_;intros;refine zg (ze (zoe m[m.length-1]) rfl) ?_;generalize zmF m[m.length-1]=q at c
  cases q with
  |false=>
   replace c:R=false:=by rw[<-c];rfl
   subst c;refine Gw1 @zfp.eq_1 ?_;intros;exact bzO
  |true=>
   refine Gw3 @ub @zpL h ?_;intros;refine zg (zaH (D:=noR) (znV (m.take (m.length-1)) _ _ (zyH _)) (.cons (zK6 (by omega) (by omega) rfl (λ_=>rfl)) (.cons (zEi (zyH (m.take (m.length-1)))) .nil)) (.inl rfl)) ?_;generalize (m.take (m.length-1)).any zmF=q at c
   cases q with
   |true=>
    replace c:R=false:=by rw[<-c];rfl
    subst c;refine Gw1 @zfp.eq_1 ?_;intros;exact bzO
   |false=>
    refine Gw1 @ub ?_;intros;refine zg (ze e rfl) ?_;refine Gw1 @ub ?_;intros;refine zg (zaH (D:=noR) (znU (zar m) _ _ (ztT n l _)) (.cons (zM rfl) (.cons (zET (ztT n l (zar m))) .nil)) (.inl rfl)) ?_;rw[List.all_eq_not_any_not]at c;generalize ((zar m).any λt=> !inN l.length t)=q at c
    cases q with
    |true=>
     replace c:R=false:=by rw[<-c];rfl
     subst c;refine Gw1 @zfp.eq_1 ?_;intros;exact bzO
    |false=>
     replace c:((l.drop (i+1)).all λb=>zf3 b.stmts l.length)=R:=by rw[<-c];rfl
     refine Gw0 ?_;intros;exact⟨i+1,⟨by omega,c⟩,by omega,(Xd [] [] rfl Qn Qn)⟩
 .rw[Wc (by omega)]at c;replace c:R=true:=by rw[<-c];rfl
  subst c;refine Qi ?_;intros;unfold zoJ;refine Gw1 @zfp.eq_1 ?_;intros;exact bzO
theorem zmO(g)(w:manyB g)(F:∀b∈g.blocks,∀s∈b.stmts,s.cases.length<=100000000):zw Z9 zh5 [.agg g.cells] (·=.int .i64 (zdJ g)):=by
 refine fn_x zu1 rfl ?_;refine dcU zoy.eq_1 ?_;have J:=hBig;have k:=zzs g w F;obtain⟨D,v⟩:=w;obtain⟨B,l⟩:=g;simp only at D v k;simp only[G.cells,zdJ,zyn]at k⊢;refine Gw1 @ub ?_;intros;refine zc (λs:Nat×Nat=>([(1,encP 2 [.int .u32 B,encL 2 Xb l]),(3,.int .i64 s.2),(12,encL 2 Xb l),(13,.int .i64 l.length),(14,.int .i64 s.1)],[])) 0 (λs=>s.1<=l.length/\s.2=cntB (l.take s.1)/\s.2<=1000000*s.1) (λs=>l.length-s.1) (0,0) ⟨Wa _,rfl,Xh _⟩ (Xa rfl fin5) ?_;rintro⟨i,n⟩ ⟨x,t,H⟩ wf;simp only at x t H;refine dcU zk2.eq_1 ?_;by_cases h:i<l.length
 .have p:(l.map Xb).getD i []=[.int .u32 l[i].addr,encL 8 Xc l[i].stmts]:=zk h;have u:=v l[i] (We h);refine Gw3 @ub @dT p ?_;intros;exact⟨(i+1,n+l[i].stmts.length),⟨by simp only;omega,by simp only;rw[zBy h];omega,by simp only;omega⟩,by simp only;omega,(Xd [] [] rfl Qn Qn)⟩
 obtain rfl:i=l.length:=by omega
 rw[Wp]at t;refine Qi ?_;intros;refine dcU zkr.eq_1 ?_;by_cases o:256<l.length
 .rw[if_pos (.inl o)];refine Gw3 @ub @dT @zdx.eq_1 ?_;intros;exact izO
 by_cases e:1024<cntB l
 .rw[if_pos (.inr e)];refine Gw4 @ub @dT @dF @zdx.eq_1 ?_;intros;exact izO
 rw[if_neg (by omega)]
 (repeat first|simp(disch:=try exact dis1) only[evD,Xe,Xf,Xg,fldP,dF,zC,tab,List.getD_cons_zero,List.getD_cons_succ]|with_reducible first|intro _|refine aJ ?_)
 refine zg (ze k rfl) ?_;generalize (!l.isEmpty&&l.all λb=>zf3 b.stmts l.length)=q
 cases q with
 |false=>refine Gw1 @zdx.eq_1 ?_;intros;exact izO
 |true=>
 rw[if_pos rfl];refine Gw1 @ub ?_;intros;refine zc (λi:Nat=>([(36,encL 2 Xb l),(37,.int .i64 l.length),(38,.int .i64 i)],[])) 0 (λi=>i<=l.length/\zmI (l.drop i)=zmI l) (λi=>l.length-i) 0 ⟨Wa _,rfl⟩ (Xa rfl fin5) ?_;rintro i ⟨x,d⟩ wf;refine dcU zky.eq_1 ?_;by_cases h:i<l.length
 .have p:(l.map Xb).getD i []=[.int .u32 l[i].addr,encL 8 Xc l[i].stmts]:=zk h;have u:=v l[i] (We h);rw[zvK h]at d;refine Gw3 @ub @dT p ?_;intros;generalize l[i].stmts=m at p d u;generalize l[i].addr=C at p;refine zc (λj:Nat=>([(36,encL 2 Xb l),(37,.int .i64 l.length),(38,.int .i64 i),(43,encL 8 Xc m),(44,.int .i64 m.length),(45,.int .i64 j)],[])) 0 (λj=>j<=m.length/\ziZ (m.drop j)=ziZ m) (λj=>m.length-j) 0 ⟨Wa _,rfl⟩ (Xd [] [] rfl Qn Qn) ?_;rintro j ⟨K,c⟩ I;refine dcU zkv.eq_1 ?_;by_cases y:j<m.length
  .rw[zwE y]at c;refine Gw6 @ub @dT (gmp y) @St.len @St.eight @St.flat ?_;intros;refine zg (ze (zvI m[j]) rfl) ?_;by_cases A:m[j].check=0
   .rw[if_neg (by omega)]at c;refine Qa ?_;intros;exact⟨j+1,⟨by omega,c⟩,by omega,(Xd [] [] rfl Qn Qn)⟩
   .rw[if_pos A]at c;rw[<-c,if_pos A]at d;rw[<-d];refine Gw2 @dT @zdx.eq_1 ?_;intros;exact izO
  .rw[Wc (by omega),ziZ]at c;rw[<-c,if_neg (by omega)]at d;refine Qi ?_;intros;refine dcU zko.eq_1 ?_;refine Gw0 ?_;intros;exact⟨i+1,⟨by omega,d⟩,by omega,Xa rfl fin5⟩
 rw[Wc (by omega),zmI]at d;rw[<-d];refine Qi ?_;intros;unfold zle;refine Gw1 @zdx.eq_1 ?_;intros;exact izO
def hasI(l:List Int)(t:Int):Bool:=l.any λx=>decide (x=t)
theorem R24_Has_ok(l)(t):zw Z9 zoZ [za l,.int .i64 t] (·=.bool (hasI l t)):=by
 refine fn_x zx6 rfl ?_;unfold ztv hasI;conv in Z8 _ _=>reduce
 have g:=hBig;generalize e:(l.any λx=>decide (x=t))=R;refine Gw1 @ua ?_;intros;refine zc (λi:Nat=>([(0,za l),(1,.int .i64 t),(5,.int .i64 i)],[])) 0 (λi=>i<=l.length/\((l.drop i).any λx=>decide (x=t))=R) (λi=>l.length-i) 0 ⟨Wa _,e⟩ (Xa rfl fin5) ?_;rintro i ⟨h,b⟩ wf;refine dcU zny.eq_1 ?_;by_cases c:i<l.length
 .rw[Wd c,Wm]at b;by_cases d:l[i]=t
  .rw[decide_eq_true d,Bool.true_or]at b;subst b;refine Gw4 @dT @ua (gmp c) @zm5.eq_1 ?_;intros;exact bzO
  .rw[decide_eq_false d,Bool.false_or]at b;refine Gw4 @dT @dF @ua (gmp c) ?_;intros;exact⟨i+1,⟨by omega,b⟩,by omega,Xa rfl fin5⟩
 .rw[Wc (by omega)]at b;replace b:R=false:=by rw[<-b];rfl
  subst b;refine Gw2 @dF @ua ?_;intros;unfold znQ;refine Gw1 @zm5.eq_1 ?_;intros;exact bzO
theorem zrG(l)(t):zw Z9 zeU [za l,.int .i64 t] (λa=>∃n:Int,a=.int .i64 n/\decide (n >= 0)=hasI l t):=by
 refine fn_x znt rfl ?_;unfold zh1 hasI;conv in Z8 _ _=>reduce
 have j:=hBig;generalize g:(l.any λx=>decide (x=t))=R;refine Gw1 @ua ?_;intros;refine zc (λi:Nat=>([(0,za l),(1,.int .i64 t),(7,.int .i64 l.length),(8,.int .i64 i)],[])) 0 (λi=>i<=l.length/\((l.drop i).any λx=>decide (x=t))=R) (λi=>l.length-i) 0 ⟨Wa _,g⟩ (Xa rfl fin5) ?_;rintro i ⟨k,b⟩ wf;refine dcU zfR.eq_1 ?_;by_cases e:i<l.length
 .rw[Wd e,Wm]at b;by_cases d:l[i]=t
  .rw[decide_eq_true d,Bool.true_or]at b;subst b;have c:decide (t=l[i])=true:=decide_eq_true d.symm;refine Gw5 @dT c @ua (gmp e) @zen.eq_1 ?_;intros;exact⟨_,.int _ _ _,i,rfl,decide_eq_true (by omega)⟩
  .rw[decide_eq_false d,Bool.false_or]at b;have c:decide (t=l[i])=false:=decide_eq_false (λh=>d h.symm);refine Gw4 @dT c @ua (gmp e) ?_;intros;exact⟨i+1,⟨by omega,b⟩,by omega,Xa rfl fin5⟩
 .rw[Wc (by omega)]at b;replace b:R=false:=by rw[<-b];rfl
  subst b;refine Gw2 @dF @ua ?_;intros;unfold zfL;refine Gw1 @zen.eq_1 ?_;intros;exact⟨_,.int _ _ _,-1,rfl,rfl⟩
theorem zaK(l)(t):zw Z9 zau [za l,.int .i64 t] (·=.bool (hasI l t)):=by refine fn_x zln rfl ?_;refine dcU zfO.eq_1 ?_;have c:=hBig;refine Gw0 ?_;intros;refine zH8 (D:=noR) (zrG l t) (.cons (zM rfl) (.cons (zM rfl) .nil)) (λa ⟨n,h,_⟩=>.inl (by rw[h];rfl)) ?_;rintro _ ⟨n,rfl,b⟩;refine Gw2 b @zfS.eq_1 ?_;intros;exact bzO
end Go.Ab
namespace Go.Ab.Dm
open Go.RowKit Go.Proofs
theorem zk{α β:Type}{f:α->β}{l:List α}{i:Nat}{d:β}(h:i<l.length):(l.map f).getD i d=f l[i]:=zh3 (Wh h)
theorem R24_Has_ok(l)(x):zw Z9 zoZ [za l,.int .i64 x] (·=.bool (decide (x∈l))):=by
 refine fn_x zx6 rfl ?_;refine dcU ztv.eq_1 ?_;simp only[evD,Xe,Xf,Xg];refine zc (λi:Nat=>([(0,za l),(1,.int .i64 x),(5,.int .i64 i)],[])) 0 (λi=>i<=l.length/\x∉l.take i) (λi=>l.length-i) 0 ⟨Wa _,by simp⟩ (Xa rfl fin5) ?_;intro i ⟨j,d⟩ wf;refine dcU zny.eq_1 ?_;simp only[evD,Xe,Xf,Xg,za];refine λb=>zz (λh=>?_) (λh=>?_)
 .have c:i<l.length:=by simpa using h
  simp only[evD,Xe,Xf,Xg,zk c];refine⟨by omega,λk=>zz (λh=>?_) (λh=>?_)⟩
  .have g:l[i]=x:=by simpa using h
   simp only[evD,Xe,Xf,Xg,zm5];refine⟨_,.bool _ _,?_⟩;have:x∈l:=by rw[<-g];exact We c
   simp[this]
  .have g:l[i]≠x:=by simpa using h
   simp only[evD,Xe,Xf,Xg];refine⟨i+1,⟨c,?_⟩,by omega,?_⟩
   .rw[List.take_add_one,Wh c];simp only[List.mem_append,not_or,Option.toList,List.mem_singleton];exact⟨d,λe=>g e.symm⟩
   .unfold big at b;rw[zBm (by omega) (by omega)];exact Xa rfl fin5
 .have c:¬i<l.length:=by simpa using h
  unfold znQ;simp only[evD,Xe,Xf,Xg,zm5];refine⟨_,.bool _ _,?_⟩;have:l.take i=l:=List.take_of_length_le (by omega);rw[this]at d;simp[d]
theorem zxf(b:Blk):zw Z9 zns [.agg b.cells] (·=za b.targets):=by
 refine fn_x zxy rfl ?_;refine dcU zq3.eq_1 ?_;have j:=hBig;refine Gw1 @Blk.cells.eq_1 ?_;intros;(refine zz (λh=>?_) (λh=>?_))<;>(try simp only[dcd]at h)
 .have d:b.stmts=[]:=Wf (by omega);refine Gw1 @zeK.eq_1 ?_;intros;refine⟨_,?_,rfl⟩;have e:b.targets=[]:=by simp[Blk.targets,d]
  rw[e];exact zbv (l:=[]) trivial rfl (Wa _)
 .have d:0<b.stmts.length:=by omega
  obtain⟨s,g⟩:∃s,b.stmts[b.stmts.length-1]?=some s:=⟨_,Wh (by omega)⟩
  have c:b.targets=if s.op=6 then[s.next]else if s.op=7 then[s.next,s.els]else if s.op=8 then s.cases else[]:=by
   have:b.stmts.getLast?=some s:=by rw[Wo,g]
   simp[Blk.targets,this]
  have e:(b.stmts.map Stm.cells).getD ((b.stmts.length:Int)-1).toNat []=s.cells:=by rw[show((b.stmts.length:Int)-1).toNat=b.stmts.length-1 by omega];exact zh3 g
  refine Gw2 e @Stm.cells.eq_1 ?_;intros;(refine zz (λh=>?_) (λh=>?_))<;>(try simp only[dcd]at h)
  .rw[if_pos h]at c;refine Gw2 @ua @zeK.eq_1 ?_;intros;refine⟨_,?_,rfl⟩;rw[c];exact zbv (l:=[s.next]) trivial rfl (by simp[big])
  .rw[if_neg h]at c;refine Gw0 ?_;intros;(refine zz (λh=>?_) (λh=>?_))<;>(try simp only[dcd]at h)
   .rw[if_pos h]at c;refine Gw2 @ua @zeK.eq_1 ?_;intros;refine⟨_,?_,rfl⟩;rw[c];exact zbv (l:=[s.next,s.els]) trivial rfl (by simp[big])
   .rw[if_neg h]at c;refine Gw0 ?_;intros;(refine zz (λh=>?_) (λh=>?_))<;>(try simp only[dcd]at h)
    .rw[if_pos h]at c;refine Gw2 @ua @zeK.eq_1 ?_;intros;refine⟨_,?_,rfl⟩;rw[c];exact .sl _ _ _ _
    .rw[if_neg h]at c;refine Gw1 @zeK.eq_1 ?_;intros;refine⟨_,?_,rfl⟩;rw[c];exact zbv (l:=[]) trivial rfl (Wa _)
end Go.Ab.Dm
