/-
  Part 19 of the proof: how the calls of this program run, over values instead of memory, and what each function computes.
-/
import Derived.KernelRfl
import Derived.Test.YtmlhipilbnjhiaaGreatQr
set_option maxRecDepth 100000
set_option linter.unusedVariables false
set_option linter.unusedSimpArgs false
set_option linter.unnecessarySimpa false
set_option linter.unusedSectionVars false
open Nat renaming reduceBEq->Xa,reduceAdd->Xb,reduceLeDiff->Xc,reduceSub->Xe,reduceLT->Xf
open Go.Ab.Ent renaming tab->Xd,keep->Xh,tabB->Xj
open Go.Ab.Gr renaming cells->Xg
open Classical renaming not_not->Xi,byContradiction->Xl
open List renaming foldl_nil->Xk,mem_filter->Xm,length_map->Xn,range_succ->Xo,map_append->Xp,take_zero->Xq,nil_append->Xr,map_cons->Xs,sum_cons->Xt,foldl_cons->Xu,all_cons->Xv
open Go.Proofs.Tryz renaming prog->Z9
open Nat renaming zero_le→Wa,le_refl→Wd,le_trans→Wn,lt_or_ge→Wy
open List renaming mem_append→Wc,getElem?_eq_getElem→We,append_nil→Wf,range→Wg,getElem_mem→Wh,take_add_one→Wi,take_of_length_le→Wj,getD_eq_getElem?_getD→Wk,mem_singleton→Wm,length_filter_le→Wo,nodup_append→Wp,mem_iff_getElem→Wq,filter→Ws,take_length→Wt,length_take→Wu,mem_cons→Wv,mem_reverse→Ww,idxOf_lt_length_iff→Wx,replicate→Wz,map_replicate→WA,getElem?_map→WB,filter_append→WD,getElem?_eq_none→WE,mem_of_mem_take→WF,getElem_take→WG,length_append→WH,append_assoc→WI,getElem_idxOf→WJ,findIdx?_eq_some_iff_getElem→WK,findIdx?_eq_none_iff→WL,filter_eq_self→WM
open Bool renaming and_eq_true→Wl,false_eq_true→WN
open Option renaming toList→Wr,getD_some→WC
namespace Go.Ab
open Go.RowKit Go.Proofs
def zmQ:ACode:=Z8 0x08c210521001160808c23100000027c810321dc813c0101001115c01101214080070060ac281153070146c10001660806c22133 []
def zmy:ACode:=.seq (.region [(oM 29 3),(oM 2 29)] [3,4,5,29]) (.ret)
def zq8:ACode:=Z8 0x1909605003c310521001160150103c2413300016017104210111d010002312fa004429c0222b25130805114102260021314006300017601501104113624133016c011310216c011c0213 [zmQ,zmy]
attribute[irreducible]zmQ zmy
def zmx:List ARet:=[.tmp 2]
theorem zyH:zM Z9 zlB (qRo [1])=some (zq8.strip,zmx,30):=by kernel_rfl
def zmY:ACode:=Z8 0x2c06c310721001060a06c231000000006d810521ad813c0101001115c011012140a00900807d2819d4000000000000025c3c01010d70214d3632153211325113321132121432a032907e621002000166021102121402a002908c222315307014002c315c360150900a02c24133 []
def zmN:ACode:=.seq (.region [(oM 42 5),(oM 4 42)] [2,5,6,7,42]) (.ret)
def zrm:ACode:=Z8 0x190960500000011330000061710621113fa0122012240400110511382713016c011330216c4211c22213 [zmY,zmN]
attribute[irreducible]zmY zmN
def zrE:List ARet:=[.tmp 4]
theorem zw8:zM Z9 ze6 (qRo [2])=some (zrm.strip,zrE,43):=by kernel_rfl
def zoi:ACode:=Z8 0x00c210521001060800c231000002b7104215c813c0101001115c012215fa0800600702c2711530701400831b36015060080824133 []
def zon:ACode:=.seq (.region [(oM 20 4),(oM 2 20)] [3,4,5,20]) (.ret)
def ztl:ACode:=Z8 0x19096050000001133016c0113041310321114fa02226231310216c011c0213 [zoi,zon]
attribute[irreducible]zoi zon
def ztB:List ARet:=[.tmp 2]
theorem zzI:zM Z9 zno (qRo [1])=some (ztl.strip,ztB,21):=by kernel_rfl
def zgh:ACode:=Z8 0x407c310621001060907c23100000dc5105211d813c0101001115c0900800511400026c51224ca07001224da09004229c2513353270140002c415c36015011041130902c25133 []
def zgb:ACode:=Z8 0x000bc056103215dcc13c010141115c0800602d251 []
def zgo:ACode:=Z8 0x00c210421001060700c231 []
def zgd:ACode:=Z8 0x2919096250000001133b116c5211315307014000741a3601501104113070725133 [zgh,zgb,zgo]
def zgm:ACode:=.seq (.region [(oM 34 3),(oM 2 34)] [1,3,4,34]) (.ret)
def ziE:ACode:=Z8 0x19096050000001133016c011310216c011c0213 [zgd,zgm]
attribute[irreducible]zgh zgb zgo zgd zgm
def ziA:List ARet:=[.tmp 2]
theorem zoN:zM Z9 zdH (qRo [1])=some (ziE.strip,ziA,35):=by kernel_rfl
def zim:ACode:=Z8 0x02d210721001060a02d2310000fc66102211012140500307d25108ec400052006211314021d312760500404d23133153070140000000000004c1c101fc7010d363153303505e6100101bc70000166350dd610017c460150300a04c22c133 []
def zde:ACode:=.seq (.region [(oN 6 (.mov (.c (.bool false))))] [0,1,2,7]) (.ret)
def zlV:ACode:=Z8 0x1909605862000001133080c00041006211314000000871201c7012c663153303408c61000001360408281336110062113 [zim,zde]
attribute[irreducible]zim zde
def zbO:List ARet:=[.tmp 6]
theorem zrK:zM Z9 zfC (qRo [])=some (zlV.strip,zbO,39):=by kernel_rfl
def znU:ACode:=Z8 0x2c02e310a210010601c02e2310000000002f81072106f813c0101001115c0110121401c000c00a008114000000000000021e3c101de7010c31ee24ca3113121431c030c03a031f610012860500110121401c000c04e23c133532701400ed311e3601500c001c0ed24133 []
def znP:ACode:=Z8 0x0bc09410821001060b06d231 []
def zos:ACode:=Z8 0x190962500000a21130000025d70109221bd24db021102121402b002a0026228d222315307014002d315d360150a00b02d24133 [znU,znP]
def zn0:ACode:=.seq (.region [(oM 70 7),(oM 6 70)] [2,3,7,8,70]) (.ret)
def ztF:ACode:=Z8 0x1909605000000113300015c417107211d813c0101001115c0400a0ec25130804c300161062a0021314000000000000b1c1209c701ac66315311361133408d61001205c700001363400d61001276050040b22c133016c011350216c6211c32213 [zos,zn0]
attribute[irreducible]znU znP zos zn0
def zin:List ARet:=[.tmp 6]
theorem zAa:zM Z9 zj7 (qRo [3])=some (ztF.strip,zin,71):=by kernel_rfl
def znd:ACode:=Z8 0x70ac310821001060b0031000000003d81110182813cd17d312faad2311029d8d147d238229d22b002a0026224d2226d400000029c8010c0210d24cb021102121402b002a00211028103cc222315307014006c319c360150a00b06c24133 []
def zmM:ACode:=Z8 0x8bd52192818220213000002d0311a21181811301fd813c0101001115c04001108113bd2713 []
def zrw:ACode:=Z8 0x19096050000001133003c310721224da040062204130000096211818103011c813c0101001115c04001102103927131024429027c5211c32313 [znd,zmM]
attribute[irreducible]znd zmM
def zri:List ARet:=[.cell 6 true 2]
theorem zya:zM Z9 zi7 (qRoL [3] [(7,[0,1,2,3,4,5,7,8,9,10,11,12,13,14,15,16,17,18,19,20,21,22,23,24,25,26,27,28,29,30,31,32,33,34,35,36,37,38,39,40,41,42,43,44,45,46,47,48,49,50,51,52,53,54,55,56,57,58,59,60,61,62,63,64,65,66,67,68,69,70,71,72,73,74,75,76,77,78,79,80,81,82,83,84,85,86,87,88,89,90,91,92,93,94,95,96,97,98,99,100,101,102,103,104,105,106,107,108,109,110,111,112,113,114,115,116,117,118,119,120,121,122,123,124,125,126,127,128,129,130,131,132,133,134,135,136,137,138,139,140,141,142,143,144,145,146,147,148,149])])=some (zrw.strip,zri,46):=by kernel_rfl
def zoh:ACode:=Z8 0x8ec3216c221130801ec34102211061734d231314755c3102d28008c763d221380000151c381022111d02001215c0110614301106133dc26131456c210bc27008c76cc2213800101c361022101001115c011061338c2413147c1106c26001767c2213054c111011034c2213300000000401b6c1881440300000000008932182010c840100116015011041130110211382a130851216c221131400430001760150110211342413310216c011c0213 []
def zdt:List ARet:=[.tmp 2]
theorem zur:zM Z9 zh6 (qRo [1])=some (zoh.strip,zdt,34):=by kernel_rfl
def zlM:ACode:=Z8 0x0c0cc8410721001060a05d23100000000000ad80c211818e7e1401ce813c0101001115c080011012140b00600b00600b1140000000bd81011e7010c31224ca3b039019f61001286080010bd291300024d5108211012140a00707d251335327014001d314d360150700a01d24133 []
def zhE:ACode:=Z8 0x00c06410521001060808c231 []
def zl8:ACode:=Z8 0x1909625000000113000dc410621000235ea08004220413017140027c410c01224ca080070ac24133153070140003c416c36015011041130803c25133 [zlM,zhE]
def zma:ACode:=.seq (.region [(oM 58 3),(oM 2 58)] [1,3,4,5,58]) (.ret)
def zpu:ACode:=Z8 0x1909605000000113301c21042900000135ea04221c23130009410321141cc1ac015011021139251310216c011c0213 [zl8,zma]
attribute[irreducible]zlM zhE zl8 zma
def zpr:List ARet:=[.tmp 2]
theorem zww:zM Z9 zjE (qRo [1])=some (zpu.strip,zpr,59):=by kernel_rfl
def zkQ:ACode:=Z8 0x9c077410621001060903c231002d73105210bd221dd40000000000000cc2c01201d70216d5632153211321214328032303215321132121432a032308e6210020001360280cc222300000022c810721101214090011012140400305c28131530701400000861b3601501101214040030090827133 []
def zkw:ACode:=.seq (.region [(oM 40 5),(oM 4 40)] [0,1,5,6,40]) (.ret)
def zn6:ACode:=Z8 0x1909605000000113309000011341000042113 [zkQ,zkw]
attribute[irreducible]zkQ zkw
def znO:List ARet:=[.tmp 4]
theorem zug:zM Z9 zh5 (qRo [])=some (zn6.strip,znO,41):=by kernel_rfl
def zkU:ACode:=Z8 0x800041510220001240fa01141fa0222724130841216c22113140033000176015011021130413310216c011c0213 []
def zgw:List ARet:=[.tmp 2]
theorem zqv:zM Z9 za8 (qRo [1])=some (zkU.strip,zgw,10):=by kernel_rfl
def zjM:ACode:=Z8 0x80011410220001242fa01141fa0222041310216c011c0213 []
def zfT:List ARet:=[.tmp 2]
theorem zpS:zM Z9 zaH (qRo [1])=some (zjM.strip,zfT,6):=by kernel_rfl
def zeM:ACode:=Z8 0x8c1101c21004c0602100b5420118112140800605c241002c3105211022c14031315307014303c4c362c2113 []
def zeW:ACode:=.seq (.region [(oM 21 3),(oM 2 21)] [3,11,12,13,21]) (.ret)
def zga:ACode:=Z8 0x1909605812000001501119fa0422a24133000641032111111ac015011021136251310216c011c0213 [zeM,zeW]
attribute[irreducible]zeM zeW
def zgn:List ARet:=[.tmp 2]
theorem zmc:zM Z9 zbw (qRo [1])=some (zga.strip,zgn,22):=by kernel_rfl
def zhT:ACode:=Z8 0x7d110ec21001d067d221000009c77110900118137d1146d22913d2290011813110900118137d1146d229008d1813913d235d4d1402a04d22a002811d2220fc2107220021315307014300d1d36fc2113 []
def zh1:ACode:=Z8 0x7e110dd21000e067e2210000006d981021181323e14020c00211021214020c002b002910e2220ed210922002133532701430fd0e36ed2113 []
def zhN:ACode:=Z8 0x9c00f5c3100af21000df0628f2216c000ce5c6103c212211fbc08c006c002c00ef251212f5c3103c28c027f2211406c12f31024f200013606c025f2313014000000000000000013f5c1012f21201bf701011ff76cf60001363113121438c038175f6103128634038c06cf61000001360110121408c009113f26c13a5000bf3105c211020bf14031395387014300cf0df360bf2113 []
def zh0:ACode:=Z8 0x002000c21100001ef010c821181232f1406c005c008105131400002d0008f812cf860110121405c008106c029f2613 []
def zcN:ACode:=Z8 0x41ef02c410ee210001f0633f221 []
def zhY:ACode:=Z8 0x2919096850005f300000150110121405c001c005f2613304f190003c211307714002f2127604001002f2313300fe3102c21102fe140313753670143000f01f36fe2113 [zhN,zh0,zcN]
def zhW:ACode:=Z8 0x09665000000150b0ce2313be11000c211355470140c13c0be21133 [zhY]
def zhO:ACode:=Z8 0x89e00fd0011031b10428134f2213 []
def zhV:ACode:=.seq (.region [(oM 52 0),(oN 53 (.call zbH [(.t 52)])),(oM 10 53)] [0,40,41,52,53]) (.seq (.region [(oN 54 (.mkfn (.func za2) [(.t 6),(.t 5)])),(oM 11 54)] [54]) (.seq (.seq (.region [(oN 12 (.mov (.c (.bool true))))] []) (.block 4 (.loop zhW))) (zhO)))
def zh2:ACode:=Z8 0x1909625bd10000015010bd231330090dc5108212242fa0400108d2413 [zh1,zhV]
def zkN:ACode:=Z8 0x1909605cc10000015021cc23133009c3ec1181419621100181ac0150309c2513006c3bc1181419521100181ac0150306c25134116c42113 [zhT,zh2]
attribute[irreducible]zhT zh1 zhN zh0 zcN zhY zhV zh2
def zkx:List ARet:=[.tmp 4]
theorem zqB:zM Z9 ze4 (qRo [])=some (zkN.strip,zkx,113):=by kernel_rfl
def ziv:ACode:=Z8 0x9c1100c21003c0602100000a47211817c6c14012266fa07004220700203c27101c2104220021315307014302c3c361c2113 []
def zi2:ACode:=.seq (.region [(oM 22 3),(oM 2 22)] [1,3,11,12,22]) (.ret)
def zl4:ACode:=Z8 0x19096050920000015011041139241330005410321141cc1ac015011021135251310216c011c0213 [ziv,zi2]
attribute[irreducible]ziv zi2
def zlN:List ARet:=[.tmp 2]
theorem zrT:zM Z9 zcZ (qRo [1])=some (zl4.strip,zlN,23):=by kernel_rfl
def zfR:ACode:=.seq (.region [(oN 2 (.rbox (.t 0))),(oN 4 (.mknil 1))] [0,4]) (.seq (.seq (.region [(oM 8 1),(oL 9 2),(oE 10 9),(oB 11 .geq 8 10)] [8,9,10]) (.cond (.t 11) (.seq (.region [(oN 4 (.mknil 1))] [1,2,11]) (.ret)) (.skip))) (.seq (.region [(oL 12 2),(oE 13 12),(oN 14 (.mksl 1 1 [.bool false] (.t 13) (.t 13))),(oN 5 (.alloc [.nilsl])),(oS 1 5 14)] [4,11,12,13,14]) (.seq (.region [(oN 6 (.alloc [.nilsl]))] []) (.seq (.region [(oN 7 (.alloc [.nilfn]))] []) (.seq (.region [(oN 15 (.mkfn (.func zcc) [(.t 5),(.t 2),(.t 7),(.t 6)])),(oS 1 7 15)] [2,5,15]) (.seq (.region [(oL 16 7),(oM 17 1),(oN 18 (.callv (.t 16) [(.t 17)]))] [1,7,16,17,18]) (.seq (.region [(oL 19 6),(oN 20 (.call zbG [(.t 19)]))] [19,20]) (.seq (.region [(oL 21 6),(oM 4 21)] [6,21]) (.ret)))))))))
def zfP:List ARet:=[.tmp 4]
theorem zjJ:zM Z9 zb9 (qRo [2])=some (zfR.strip,zfP,22):=by kernel_rfl
def zf9:ACode:=Z8 0x6d1108c2100bc060210000000005c6b211810dfc14014d813c0101001115c07001101214090060090060cc2b1009c3106211029c1403133532701430acbc369c2113 []
def zf6:ACode:=Z8 0x2c001c45100c21003c067d221 []
def zgk:ACode:=Z8 0x1909625003c30000015011012140700303c261301c2104220021315307014302c3c361c2113 [zf9,zf6]
def zgf:ACode:=.seq (.region [(oM 36 3),(oM 2 36)] [0,3,11,12,36]) (.ret)
def zi3:ACode:=Z8 0x1909605a10000015030a23133007310321141cc1ac015030724132116c22113 [zgk,zgf]
attribute[irreducible]zf9 zf6 zgk zgf
def zi4:List ARet:=[.tmp 2]
theorem zoZ:zM Z9 zbH (qRo [])=some (zi3.strip,zi4,37):=by kernel_rfl
def zf7:ACode:=Z8 0x00046c510121101214040061bc25100006c5100211012140300617c2519c40000000099014c56021102121402400251021102121402300251022315070140721286040010723133 []
def zge:ACode:=.seq (.region [(oM 27 0),(oM 6 27)] [0,1,2,3,27]) (.ret)
def zi1:ACode:=.seq (.region [(oK 6 0)] [6]) (.seq (.block 0 (.loop zf7)) (zge))
def zir:List ARet:=[.tmp 6]
theorem zo1:zM Z9 za2 (qRo [])=some (zi1.strip,zir,28):=by kernel_rfl
def zgV:ACode:=.seq (.region [(oM 42 7),(oN 43 (.mkfn (.func zch) [(.t 2)])),(oN 44 (.call zaZ [(.t 42),(.t 43)])),(oM 4 44)] [2,6,7,37,42,43,44]) (.ret)
def zjv:ACode:=Z8 0x0900012d65107211fea01109173bd2411475cc3109d2800fc76ad22130000155c681072118d02001215c01109143011091334d261145dc2102d2700fc763d221300105c661072101001115c01109133fc24114ec110dc2600176ec221305bc11102103bc2213a016c0113000000a049dc1881440300000000008962182018c8401001160150800805c281308a22316c421131402c20001760150102c23133000006171052110111301224040011051138271330216c4211c22213 [zgV]
attribute[irreducible]zgV
def zfp:List ARet:=[.tmp 4]
theorem zp3:zM Z9 zea (qRo [2])=some (zjv.strip,zfp,45):=by kernel_rfl
def zfN:ACode:=Z8 0x34c73104c21007c0602100004c75112bc0a0061031140008c410c011012140a00418c2513005c3107211025c14031315307014306c7c365c2113 []
def zfz:ACode:=Z8 0x0000c0090100b1718114d813c0101001115c0300711d251 []
def zhU:ACode:=Z8 0x190960500824000001501101214030051061330083201181121403004182413 [zfN,zfz]
attribute[irreducible]zfN zfz
def zhL:List ARet:=[]
theorem znu:zM Z9 zcc (qRo [])=some (zhU.strip,zhL,33):=by kernel_rfl
def zdK:ACode:=Z8 0x000a44c002c02210011606001001060500610000000000000493c11100d118138c7c1402cc118136c5c1402110212140350023002110212140260023002600230025002302c222153070140721236060050723133 []
def zeP:ACode:=Z8 0x09605004390000002210011601501042513 [zdK]
attribute[irreducible]zdK
def zeK:List ARet:=[]
theorem zjW:zM Z9 zbG (qRo [])=some (zeP.strip,zeK,28):=by kernel_rfl
def zeE:ACode:=Z8 0x09d63100d21003d061e221083c0cc000610062113140000009d7120ed701fd6631533035012f61000001360109d28130000dc66102211012140500305d25130830cc00062006211314001d312760500400313315307014302d3d361d2113 []
def zeS:ACode:=.seq (.region [(oN 6 (.mov (.c (.bool false))))] [0,1,2,27,28]) (.ret)
def zgc:ACode:=Z8 0x1909605005c6400000100106015030dc24133089c00041006211314000000000000000075c120ac701bc66315330350ad61001206c700001363502d61001200c7011c663153303406c610000013604006c1336110062113 [zeE,zeS]
attribute[irreducible]zeE zeS
def z7:List ARet:=[.tmp 6]
theorem zme:zM Z9 zcD (qRo [])=some (zgc.strip,z7,46):=by kernel_rfl
def zdI:ACode:=Z8 0x9c110a21001c060210000000849211815c4c14011eea011012140700600700201c2910b2104220021315307014300c1c36b2113 []
def zdB:ACode:=.seq (.region [(oM 22 3),(oM 2 22)] [3,9,10,22]) (.ret)
def zeJ:ACode:=Z8 0x19096058100000150108231330031410321164fa01141fa02225241310216c011c0213 [zdI,zdB]
attribute[irreducible]zdI zdB
def zeO:List ARet:=[.tmp 2]
theorem zjT:zM Z9 zay (qRo [1])=some (zeJ.strip,zeO,23):=by kernel_rfl
def zcR:ACode:=Z8 0x700c7410621001060908c231006d2105210010608003100009c762118125d140a008003005131400ec310c0112bc0a0040ec241300027c510721101214090030ac251315307014004c317c360150300904c24133 []
def zcT:ACode:=Z8 0x8005d405104211021cc0800300413001d415100110d101121cc0800108d2413 []
def zdA:ACode:=Z8 0x19096050174410621001060802c2313308063005104230021314b1900176010b221330083105212261fa040030824134116c42113 [zcR,zcT]
attribute[irreducible]zcR zcT
def zbU:List ARet:=[.tmp 4]
theorem zic:zM Z9 zaZ (qRo [])=some (zdA.strip,zbU,42):=by kernel_rfl
def zhM:ACode:=Z8 0x800000000200b10321209701a66315311341133300c61000001360300a133110032113 []
def zeA:List ARet:=[.tmp 3]
theorem znG:zM Z9 zch (qRo [])=some (zhM.strip,zeA,13):=by kernel_rfl
end Go.Ab
namespace Go.Ab.Dm
open Go.RowKit Go.Proofs
theorem zg{α β:Type}{f:α->β}{l:List α}{i:Nat}{d:β}(h:i<l.length):(l.map f).getD i d=f l[i]:=zf0 (We h)
theorem zqm(l)(x):zn Z9 zbb [za l,.int .i64 x] (·=.bool (decide (x∈l))):=by
 refine fn_x zuW rfl ?_;refine dcU zqJ.eq_1 ?_;simp only[evD,Xa,Xb,Xc];refine zd (λi:Nat=>([(0,za l),(1,.int .i64 x),(5,.int .i64 i)],[])) 0 (λi=>i<=l.length/\x∉l.take i) (λi=>l.length-i) 0 ⟨Wa _,by simp⟩ (Xh rfl fin5) ?_;intro i ⟨j,d⟩ wf;refine dcU zk6.eq_1 ?_;simp only[evD,Xa,Xb,Xc,za];refine λb=>zf (λh=>?_) (λh=>?_)
 .have c:i<l.length:=by simpa using h
  simp only[evD,Xa,Xb,Xc,zg c];refine⟨by omega,λk=>zf (λh=>?_) (λh=>?_)⟩
  .have g:l[i]=x:=by simpa using h
   simp only[evD,Xa,Xb,Xc,zkG];refine⟨_,.bool _ _,?_⟩;have:x∈l:=by rw[<-g];exact Wh c
   simp[this]
  .have g:l[i]≠x:=by simpa using h
   simp only[evD,Xa,Xb,Xc];refine⟨i+1,⟨c,?_⟩,by omega,?_⟩
   .rw[Wi,We c];simp only[Wc,not_or,Wr,Wm];exact⟨d,λe=>g e.symm⟩
   .unfold big at b;rw[zrC (by omega) (by omega)];exact Xh rfl fin5
 .have c:¬i<l.length:=by simpa using h
  unfold zlq;simp only[evD,Xa,Xb,Xc,zkG];refine⟨_,.bool _ _,?_⟩;have:l.take i=l:=Wj (by omega);rw[this]at d;simp[d]
theorem zuc(b:Blk):zn Z9 zh6 [.agg b.cells] (·=za b.targets):=by
 refine fn_x zur rfl ?_;refine dcU zoh.eq_1 ?_;have j:=hBig;refine Gw1 @Blk.cells.eq_1 ?_;intros;(refine zf (λh=>?_) (λh=>?_))<;>(try simp only[dcd]at h)
 .have d:b.stmts=[]:=List.eq_nil_of_length_eq_zero (by omega);refine Gw1 @zdt.eq_1 ?_;intros;refine⟨_,?_,rfl⟩;have e:b.targets=[]:=by simp[Blk.targets,d]
  rw[e];exact zbz (l:=[]) trivial rfl (Wa _)
 .have d:0<b.stmts.length:=by omega
  obtain⟨s,g⟩:∃s,b.stmts[b.stmts.length-1]?=some s:=⟨_,We (by omega)⟩
  have c:b.targets=if s.op=6 then[s.next]else if s.op=7 then[s.next,s.els]else if s.op=8 then s.cases else[]:=by
   have:b.stmts.getLast?=some s:=by rw[List.getLast?_eq_getElem?,g]
   simp[Blk.targets,this]
  have e:(b.stmts.map Stm.cells).getD ((b.stmts.length:Int)-1).toNat []=s.cells:=by rw[show((b.stmts.length:Int)-1).toNat=b.stmts.length-1 by omega];exact zf0 g
  refine Gw2 e @Stm.cells.eq_1 ?_;intros;(refine zf (λh=>?_) (λh=>?_))<;>(try simp only[dcd]at h)
  .rw[if_pos h]at c;refine Gw2 @ud @zdt.eq_1 ?_;intros;refine⟨_,?_,rfl⟩;rw[c];exact zbz (l:=[s.next]) trivial rfl (by simp[big])
  .rw[if_neg h]at c;refine Gw0 ?_;intros;(refine zf (λh=>?_) (λh=>?_))<;>(try simp only[dcd]at h)
   .rw[if_pos h]at c;refine Gw2 @ud @zdt.eq_1 ?_;intros;refine⟨_,?_,rfl⟩;rw[c];exact zbz (l:=[s.next,s.els]) trivial rfl (by simp[big])
   .rw[if_neg h]at c;refine Gw0 ?_;intros;(refine zf (λh=>?_) (λh=>?_))<;>(try simp only[dcd]at h)
    .rw[if_pos h]at c;refine Gw2 @ud @zdt.eq_1 ?_;intros;refine⟨_,?_,rfl⟩;rw[c];exact .sl _ _ _ _
    .rw[if_neg h]at c;refine Gw1 @zdt.eq_1 ?_;intros;refine⟨_,?_,rfl⟩;rw[c];exact zbz (l:=[]) trivial rfl (Wa _)
def edgeOk(n:Nat)(x:Int):Bool:=decide (0<=x)&&decide (x<n)
def _root_.Go.Ab.Gr.E(g:Gr):Adj:=g.blocks.map λb=>(b.targets.filter (edgeOk g.blocks.length)).map Int.toNat
def _root_.Go.Ab.Gr.small(g:Gr):Prop:=g.blocks.length<=1000/\∀b∈g.blocks,b.targets.length<=1000
theorem _root_.Go.Ab.Gr.E_len(g:Gr):g.E.length=g.blocks.length:=by simp[Gr.E]
theorem _root_.Go.Ab.Gr.E_ok(g:Gr):g.E.ok:=by
 intro k n c;unfold suc Gr.E at c;rw[Wk,WB]at c
 cases d:g.blocks[k]? with
 |none=>rw[d]at c;simp at c
 |some b=>rw[d]at c;simp only[Option.map_some,WC,List.mem_map,Xm,edgeOk,Wl,decide_eq_true_eq]at c;obtain⟨x,⟨_,e,h⟩,rfl⟩:=c;rw[g.E_len];omega
theorem zhg(l):za (l.map λ(n:Nat)=>(n:Int))=zb l:=by simp[za,zb,encL];rfl
theorem filter_take_succ{α:Type}{p:α->Bool}{l:List α}{i:Nat}(h:i<l.length):(l.take (i+1)).filter p=(l.take i).filter p++if p l[i]then[l[i]]else[]:=by rw[Wi,We h,WD];cases b:p l[i]<;>simp[Ws,b]
theorem filter_take_le{α:Type}(p:α->Bool)(l:List α)(i:Nat):((l.take i).filter p).length<=i:=Wn (Wo _ _) (List.length_take_le _ _)
theorem _root_.Go.Ab.ug:type_of% @Gr.cells.eq_1:=@Gr.cells.eq_1
theorem R24_Edges_ok(g:Gr)(p:g.small)(k:Nat)(m:k<g.blocks.length):zn Z9 ze6 [.agg g.cells,.int .i64 k] (·=zb (suc g.E k)):=by
 have o:zb (suc g.E k)=za (g.blocks[k].targets.filter (edgeOk g.blocks.length)):=by
  rw[<-zhg];congr 1;simp only[suc,Gr.E,zg m,List.map_map];conv=>rhs;rw[<-List.map_id (Ws _ _)]
  refine List.map_congr_left λx q=>?_
  simp only[Xm,edgeOk,Wl,decide_eq_true_eq]at q;simp only[Function.comp,id];omega
 rw[o];refine fn_x zw8 rfl ?_;refine dcU zrm.eq_1 ?_;have s:=hBig;have e:(g.blocks.map Blk.cells).getD k []=g.blocks[k].cells:=zf0 (We m);refine Gw3 @ug e @Blk.two ?_;intros;refine ze (zc (zuc _) rfl) ?_;have n:=p.2 _ (Wh m);generalize g.blocks[k].targets=l at n⊢;refine Gw0 ?_;intros;refine zd (λi:Nat=>([(2,encP 2 g.cells),(5,.own 0 0 0 0 ((l.take i).filter (edgeOk g.blocks.length)).length),(6,za l),(7,.int .i64 i)],[(0,.row 1 (((l.take i).filter (edgeOk g.blocks.length)).map cI) 0)])) 1 (λi=>i<=l.length) (λi=>l.length-i) 0 (Wa _) (Xd [(0,1,0)] [] rfl (Gin4_1 @ug) (Gin4_1 @ug)) ?_;intro i u wf;refine dcU zmY.eq_1 ?_;refine Gw3 @ud @ua @ug ?_;intros;(refine zf (λh=>?_) (λh=>?_))<;>(try simp only[dcd]at h)
 .have b:i<l.length:=by omega
  have c:(l.take (i+1)).filter (edgeOk g.blocks.length)=(l.take i).filter (edgeOk g.blocks.length)++if edgeOk g.blocks.length l[i]then[l[i]]else[]:=filter_take_succ b
  refine Gw1 (gmp b) ?_;intros;generalize d:decide (0<=l[i])=j;cases j<;>simp only[decide_eq_true_eq,decide_eq_false_iff_not,ne_eq,Xi]at d
  .rw[if_neg (by simp[edgeOk,d])]at c;refine Gw0 ?_;intros;exact⟨i+1,by omega,by omega,(Xd [(0,0,0)] [] rfl (by(try simp only[evWB,Xa,Xb,Xe,Xc,Xf,implies_true,Xg,c,Wf])<;>exact fin4) (by(try simp only[evWB,Xa,Xb,Xe,Xc,Xf,implies_true,Xg,c,Wf])<;>exact fin4))⟩
  ·(refine Gw1 (gmp b) ?_;intros);(refine zf (λhd=>?_) (λhd=>?_))<;>(try simp only[dcd]at hd)
   .rw[if_pos (by simp[edgeOk,d,hd])]at c;have t:=filter_take_le (edgeOk g.blocks.length) l i;refine Gw1 (gmp b) ?_;intros;exact⟨i+1,by omega,by omega,(Xd [(0,0,1)] [] rfl (by(try simp only[evWB,Xa,Xb,Xe,Xc,Xf,implies_true,Xg,c,Wf])<;>exact fin4) (by(try simp only[evWB,Xa,Xb,Xe,Xc,Xf,implies_true,Xg,c,Wf])<;>exact fin4))⟩
   .rw[if_neg (by simp[edgeOk,d,hd])]at c;refine Gw0 ?_;intros;exact⟨i+1,by omega,by omega,(Xd [(0,0,0)] [] rfl (by(try simp only[evWB,Xa,Xb,Xe,Xc,Xf,implies_true,Xg,c,Wf])<;>exact fin4) (by(try simp only[evWB,Xa,Xb,Xe,Xc,Xf,implies_true,Xg,c,Wf])<;>exact fin4))⟩
 .unfold zmN;refine Gw1 @zrE.eq_1 ?_;intros;refine⟨_,?_,rfl⟩;rw[Wj (show l.length<=i by omega)];have:=Wo (edgeOk g.blocks.length) l;exact zbz (l:=l.filter (edgeOk g.blocks.length)) trivial rfl (by omega)
theorem zG7(l:List Nat)(x:Int):(x∈l.map λ(n:Nat)=>(n:Int))↔∃n∈l,(n:Int)=x:=by simp
theorem zFQ(l:List Nat)(x:Nat):((x:Int)∈l.map λ(n:Nat)=>(n:Int))↔x∈l:=by rw[zG7];exact⟨λ⟨n,h,e⟩=>by rw[show x=n by omega];exact h,λh=>⟨x,h,rfl⟩⟩
theorem R24_HasN_ok(l)(x:Nat):zn Z9 zbb [zb l,.int .i64 x] (·=.bool (decide (x∈l))):=by have:=zqm (l.map λ(n:Nat)=>(n:Int)) x;rw[zhg]at this;simpa only[zFQ]using this
theorem hasN_own{H:AH}{nx r q g:Nat}{l:List Nat}{x:Nat}(d:H.get r q=some (.row 1 (l.map cN) g))(c:l.length<=big):
  zdx Z9 zbb [.own r q g 0 l.length,.int .i64 x] H nx (.bool (decide (x∈l))) :=
 zaW (D:=λa b=>a=r/\b=q) (R24_HasN_ok l x) (.cons (zbX ⟨rfl,rfl⟩ d c) (.cons (.int _ _ _) .nil)) (.inl rfl)
theorem ztm{H}{nx:Nat}{l}{x:Nat}:zdx Z9 zbb [zb l,.int .i64 x] H nx (.bool (decide (x∈l))):=zc (R24_HasN_ok l x) rfl
structure NdL(n:Nat)(l:List Nat):Prop where
 nd:l.Nodup
 lt:∀b∈l,b<n
theorem NdL.len{n}{l}(h:NdL n l):l.length<=n:=by
 obtain⟨d,g⟩:=h
 induction n generalizing l with
 |zero=>
  cases l with
  |nil=>exact Wd _
  |cons b l=>exact absurd (g b (by simp)) (by omega)
 |succ n ih=>
  by_cases j:n∈l
  .have:=ih (d.erase n) (λb c=>by
    have k:=g b (List.mem_of_mem_erase c);have m:=(d.mem_erase_iff.1 c).1
    omega)
   rw[List.length_erase_of_mem j]at this;omega
  .have:=ih d (λb c=>by
    have k:=g b c;have m:b≠n:=λe=>j (e▸c)
    omega)
   omega
theorem NdL.add{n}{l}(h:NdL n l){x}{c}(j:c<n):NdL n (zbv x l c):=by
 unfold zbv;split
 .rename_i k;refine⟨?_,λb d=>?_⟩
  .rw[Wp];exact⟨h.nd,by simp,λa g b d=>by simp at d;subst d;exact λe=>k.2 (e▸g)⟩
  .rcases Wc.1 d with d|d
   .exact h.lt b d
   .simp at d;subst d;exact j
 .exact h
theorem NdL.fold{n}{x}:∀{cs l:List Nat},NdL n l->(∀c∈cs,c<n)->NdL n (cs.foldl (zbv x) l)
 |[],l,h,_=>h
 |c::cs,l,h,b=>show NdL n (cs.foldl (zbv x) (zbv x l c))from NdL.fold (x:=x) (h.add (x:=x) (b c (by simp))) (λd hd=>b d (by simp[hd]))
theorem zzc(x)(l)(c):l.length<=(zbv x l c).length:=by unfold zbv;split<;>simp
theorem zBI(x):∀(b l:List Nat),l.length<=(b.foldl (zbv x) l).length
 |[],l=>Wd _
 |c::b,l=>Wn (zzc x l c) (zBI x b _)
theorem zdZ{α β:Type}{f:β->α->β}{b:β}{l:List α}{i:Nat}(h:i<l.length):(l.take (i+1)).foldl f b=f ((l.take i).foldl f b) l[i]:=by rw[Wi,We h,List.foldl_append];rfl
theorem zzd{E}{x}{f i}{out}(b:i<out.length):zjw E x (f+1) i out=zjw E x f (i+1) ((suc E out[i]).foldl (zbv x) out):=by simp only[zjw,We b]
theorem zCe{E}{x}{f i}{out}(b:out.length<=i):zjw E x f i out=out:=by
 cases f with
 |zero=>rfl
 |succ f=>simp only[zjw,WE b]
theorem _root_.Go.Ab.um:type_of% @Gr.two:=@Gr.two
theorem _root_.Go.Ab.ub:type_of% @zb.eq_1:=@zb.eq_1
theorem zso(g:Gr)(H:g.small)(a x:Int):zn Z9 zj7 [.agg g.cells,.int .i64 a,.int .i64 x] (·=zb (zb8 g.E a x)):=by
 refine fn_x zAa rfl ?_;refine dcU ztF.eq_1 ?_;have W:=hBig;have n:=g.E_len;refine Gw1 @ug ?_;intros;have bad:(a=x\/a<0\/(g.blocks.length:Int)<=a)->zb8 g.E a x=[]:=λh=>by unfold zb8;rw[n,if_pos h]
 generalize J:decide (a=x)=y;cases y<;>simp only[decide_eq_true_eq,decide_eq_false_iff_not,ne_eq,Xi]at J
 rotate_left
 ·(refine Gw1 @zin.eq_1 ?_;intros);refine⟨_,?_,rfl⟩;rw[bad (.inl J)];exact zbX (l:=[]) trivial rfl (Wa _)
 refine Gw0 ?_;intros;generalize K:decide (a<0)=z;cases z<;>simp only[decide_eq_true_eq,decide_eq_false_iff_not,ne_eq,Xi]at K
 rotate_left
 ·(refine Gw1 @zin.eq_1 ?_;intros);refine⟨_,?_,rfl⟩;rw[bad (.inr (.inl K))];exact zbX (l:=[]) trivial rfl (Wa _)
 refine Gw0 ?_;intros;(refine zf (λA=>?_) (λA=>?_))<;>(try simp only[dcd]at A)
 ·(refine Gw1 @zin.eq_1 ?_;intros);refine⟨_,?_,rfl⟩;rw[bad (.inr (.inr A))];exact zbX (l:=[]) trivial rfl (Wa _)
 refine Gw0 ?_;intros;have u:zb8 g.E a x=zjw g.E x g.blocks.length 0 [a.toNat]:=by unfold zb8;rw[n,if_neg (by omega)]
 rw[u];have O:(a.toNat:Int)=a:=by omega
 generalize P:zjw g.E x g.blocks.length 0 [a.toNat]=R;have U:=H.1
 refine zd (λs:Nat×List Nat=>([(2,.int .i64 x),(3,encP 2 g.cells),(7,.own 0 0 0 0 s.2.length),(8,.int .i64 s.1)],[(0,.row 1 (s.2.map cN) 0)])) 1
  (λs=>NdL g.blocks.length s.2/\s.1<=s.2.length/\zjw g.E x (g.blocks.length-s.1) s.1 s.2=R) (λs=>g.blocks.length-s.1) (0,[a.toNat])
  ⟨⟨by simp,λb Q=>by simp at Q;omega⟩,Wa _,P⟩ (Xd [(0,1,1)] [] rfl (Gin4_2 @ug O) (Gin4_2 @ug O)) ?_
 rintro⟨i,out⟩ ⟨p,T,m⟩ wf;simp only at p T m;have V:=p.len;refine dcU zos.eq_1 ?_;refine Gw2 @ua @ug ?_;intros;(refine zf (λL=>?_) (λL=>?_))<;>(try simp only[dcd]at L)
 .have q:i<out.length:=by omega
  have t:=p.lt out[i] (Wh q);refine Gw2 (gmp q) @um ?_;intros;refine zC (zc (R24_Edges_ok g H out[i] t) rfl) ?_;have N:∀c∈suc g.E out[i],c<g.blocks.length:=λc F=>by rw[<-n];exact g.E_ok _ c F
  have D:(suc g.E out[i]).length<=1000:=by simp only[suc,Gr.E,zg t,Xn];exact Wn (Wo _ _) (H.2 _ (Wh t))
  rw[show g.blocks.length-i=(g.blocks.length-(i+1))+1 by omega,zzd q]at m;generalize suc g.E out[i]=cs at N D m⊢;refine Gw0 ?_;intros
  refine zd (λk:Nat=>([(2,.int .i64 x),(3,encP 2 g.cells),(7,.own 0 0 0 0 ((cs.take k).foldl (zbv x) out).length),(8,.int .i64 i),(9,zb cs),(10,.int .i64 k)],[(0,.row 1 (((cs.take k).foldl (zbv x) out).map cN) 0)])) 1
   (λk=>k<=cs.length) (λk=>cs.length-k) 0 (Wa _) (Xd [(0,0,0)] [] rfl (by(try simp only[evWB,Xa,Xb,Xe,Xc,Xf,implies_true,Xg,Xk])<;>exact fin4) (by(try simp only[evWB,Xa,Xb,Xe,Xc,Xf,implies_true,Xg,Xk])<;>exact fin4)) ?_
  intro k X wf;refine dcU znU.eq_1 ?_;refine Gw3 @ua @ug @ub ?_;intros;have j:=p.fold (x:=x) (cs:=cs.take k) (λc F=>N c (WF F));have I:=j.len;(refine zf (λM=>?_) (λM=>?_))<;>(try simp only[dcd]at M)
  .have o:k<cs.length:=by omega
   have d:=zdZ (f:=zbv x) (b:=out) o;generalize (cs.take k).foldl (zbv x) out=v at j I d⊢;refine Gw1 (gmp o) ?_;intros;have same:¬((cs[k]:Int)≠x/\cs[k]∉v)->zbv x v cs[k]=v:=λh=>by unfold zbv;rw[if_neg h]
   generalize B:decide ((cs[k]:Int)≠x)=C;cases C<;>simp only[decide_eq_true_eq,decide_eq_false_iff_not,ne_eq,Xi]at B
   .rw[same (λh=>h.1 B)]at d;refine Gw0 ?_;intros;exact⟨k+1,by omega,by omega,(Xd [(0,0,0)] [] rfl (Gin4_2 @ug d) (Gin4_2 @ug d))⟩
   ·(refine Gw1 (gmp o) ?_;intros);refine ze (hasN_own rfl (by omega)) ?_;refine Gw0 ?_;intros;(refine zf (λw=>?_) (λw=>?_))<;>(try simp only[dcd]at w)
    .have e:zbv x v cs[k]=v++[cs[k]]:=by unfold zbv;rw[if_pos ⟨B,w⟩]
     rw[e]at d;refine Gw1 (gmp o) ?_;intros;exact⟨k+1,by omega,by omega,(Xd [(0,0,1)] [] rfl (Gin4_2 @ug d) (Gin4_2 @ug d))⟩
    .rw[same (λh=>h.2 w)]at d;refine Gw0 ?_;intros;exact⟨k+1,by omega,by omega,(Xd [(0,0,0)] [] rfl (Gin4_2 @ug d) (Gin4_2 @ug d))⟩
  .refine dcU znP.eq_1 ?_;refine Gw0 ?_;intros;rw[Wj (show cs.length<=k by omega)]at j⊢;have S:=zBI x cs out;exact⟨(i+1,cs.foldl (zbv x) out),⟨j,by simp only;omega,m⟩,by simp only;omega,(Xd [(0,0,0)] [] rfl (Gin4_1 @ug) (Gin4_1 @ug))⟩
 .unfold zn0;refine Gw1 @zin.eq_1 ?_;intros;refine⟨_,?_,rfl⟩;rw[zCe (by omega)]at m;subst m;exact zbX trivial rfl (by omega)
theorem zup{α:Type}(f:Nat->α)(n:Nat):(Wg (n+1)).map f=(Wg n).map f++[f n]:=by rw[Xo,Xp];rfl
theorem zki(p)(n):(Wg (n+1)).filter p=(Wg n).filter p++if p n then[n]else[]:=by rw[Xo,WD];cases h:p n<;>simp[Ws,h]
theorem zrL(p)(n):((Wg n).filter p).length<=n:=by have:=Wo p (Wg n);simpa using this
def mapR{α:Type}(f:Nat->α)(n:Nat):List α:=(Wg n).map f
def filR(p:Nat->Bool)(n:Nat):List Nat:=(Wg n).filter p
theorem zpY{α:Type}{f:Nat->α}:mapR f 0=[]:=rfl
theorem zx7{p}:filR p 0=[]:=rfl
theorem zp5{α:Type}{f:Nat->α}{n:Nat}:mapR f (n+1)=mapR f n++[f n]:=zup f n
theorem zsl{α:Type}{f:Nat->α}{n:Nat}:(mapR f n).length=n:=by simp[mapR]
theorem filR_pos{p}{n}(h:p n=true):filR p (n+1)=filR p n++[n]:=by unfold filR;rw[zki,h];rfl
theorem filR_neg{p}{n}(h:p n=false):filR p (n+1)=filR p n:=by unfold filR;rw[zki,h];simp
theorem filR_le{p}{n}:(filR p n).length<=n:=zrL p n
def encNN(A:List (List Nat)):AV:=encL 1 (λr=>[zb r]) A
abbrev cNs(l:List Nat):List AV:=[zb l]
theorem vw_NN{H H2}{σ}{D}{t}{r q g}{l}(b:D r q)(d:H.get r q=some (.row 1 (l.map cNs) g))(c:l.length<=big):
  Vw H H2 σ D t (.own r q g 0 l.length) (encNN l):=by
 refine zk3 b d c (λa _ j e=>?_);obtain rfl:j=0:=by omega
 exact .sl _ _ _ _
theorem R24_Predecessors_ok(g:Gr)(u:g.small):zn Z9 zdH [.agg g.cells] (·=encNN (predL g.E)):=by
 refine fn_x zoN rfl ?_;refine dcU ziE.eq_1 ?_;have z:=hBig;have j:=g.E_len;have C:=u.1;refine Gw1 @ug ?_;intros;have m:predL g.E=mapR (λb=>filR (λa=>decide (b∈suc g.E a)) g.blocks.length) g.blocks.length:=by unfold predL;rw[j];rfl
 rw[m];generalize w:(λb=>filR (λa=>decide (b∈suc g.E a)) g.blocks.length)=F;have o:∀b,F b=filR (λa=>decide (b∈suc g.E a)) g.blocks.length:=λb=>by rw[<-w]
 refine zd (λi:Nat=>([(1,encP 2 g.cells),(3,.own 0 0 0 0 (mapR F i).length),(4,.int .i64 i)],[(0,.row 1 ((mapR F i).map cNs) 0)])) 1 (λi=>i<=g.blocks.length) (λi=>g.blocks.length-i) 0 (Wa _) (Xd [(0,1,0)] [] rfl (Gin4_2 @ug @zpY) (Gin4_2 @ug @zpY)) ?_;intro i A wf;have y:=zsl (f:=F) (n:=i);refine dcU zgd.eq_1 ?_;refine Gw2 @ua @ug ?_;intros;(refine zf (λh=>?_) (λh=>?_))<;>(try simp only[dcd]at h)
 ·(refine Gw0 ?_;intros);generalize v:(λa=>decide (i∈suc g.E a))=p;have s:∀a,decide (i∈suc g.E a)=p a:=λa=>by rw[<-v]
  refine zd (λk:Nat=>([(1,encP 2 g.cells),(3,.own 0 0 0 0 (mapR F i).length),(4,.int .i64 i),(5,.own 1 0 0 0 (filR p k).length),(6,.int .i64 k)],[(0,.row 1 ((mapR F i).map cNs) 0),(1,.row 1 ((filR p k).map cN) 0)])) 2
   (λk=>k<=g.blocks.length) (λk=>g.blocks.length-k) 0 (Wa _) (Xd [(0,0,0),(1,1,0)] [] rfl (Gin4_2 @ug @zx7) (Gin4_2 @ug @zx7)) ?_
  intro k B wf;have x:=filR_le (p:=p) (n:=k);refine dcU zgh.eq_1 ?_;refine Gw2 @ua @ug ?_;intros;(refine zf (λt=>?_) (λt=>?_))<;>(try simp only[dcd]at t)
  .have q:k<g.blocks.length:=by omega
   refine Gw1 @um ?_;intros;refine ze (zc (R24_Edges_ok g u k q) rfl) ?_;refine Gw0 ?_;intros;refine ze ztm ?_;rw[s];refine Gw0 ?_;intros;(refine zf (λc=>?_) (λc=>?_))<;>(try simp only[dcd]at c)
   ·(refine Gw0 ?_;intros);exact⟨k+1,by omega,by omega,(Xd [(0,0,0),(1,1,1)] [] rfl (by(try simp only[evWB,Xa,Xb,Xe,Xc,Xf,implies_true,Xg,filR_pos c])<;>exact fin4) (by(try simp only[evWB,Xa,Xb,Xe,Xc,Xf,implies_true,Xg,filR_pos c])<;>exact fin4))⟩
   .have d:p k=false:=by simpa using c
    refine Gw0 ?_;intros;exact⟨k+1,by omega,by omega,(Xd [(0,0,0),(1,1,0)] [] rfl (by(try simp only[evWB,Xa,Xb,Xe,Xc,Xf,implies_true,Xg,filR_neg d])<;>exact fin4) (by(try simp only[evWB,Xa,Xb,Xe,Xc,Xf,implies_true,Xg,filR_neg d])<;>exact fin4))⟩
  .obtain rfl:k=g.blocks.length:=by omega
   unfold zgb zgo;(conv in Z8 _ _=>reduce);(conv in Z8 _ _=>reduce);have e:F i=filR p g.blocks.length:=by rw[o,v]
   refine Gw0 ?_;intros;exact⟨i+1,by omega,by omega,(Xd [(0,0,1)] [1] rfl (Gin4_3 @ug @zp5 e) (Gin4_3 @ug @zp5 e))⟩
 .unfold zgm;refine Gw1 @ziA.eq_1 ?_;intros;refine⟨_,?_,rfl⟩;obtain rfl:i=g.blocks.length:=by omega
  exact vw_NN trivial rfl (by omega)
def zbM(E:Adj)(f:Nat)(s:List Nat×List Nat)(n:Nat):List Nat×List Nat:=if n∈s.1 then s else dfs E f n s
theorem zsb(E)(f k)(s):
  dfs E (f+1) k s=(((suc E k).foldl (zbM E f) (s.1++[k],s.2)).1,((suc E k).foldl (zbM E f) (s.1++[k],s.2)).2++[k]):=rfl
structure DfsI(n m d:Nat)(s:List Nat×List Nat):Prop where
 nd:NdL n s.1
 le:m<=s.1.length
 post:s.1.length=s.2.length+d
theorem NdL.snoc{n}{l}(h:NdL n l){k}(g:k<n)(j:k∉l):NdL n (l++[k]):=by
 refine⟨?_,λb c=>?_⟩
 .rw[Wp];exact⟨h.nd,by simp,λa d b c=>by simp at c;subst c;exact λe=>j (e▸d)⟩
 .rcases Wc.1 c with c|c
  .exact h.lt b c
  .simp at c;subst c;exact g
theorem ziu{E}{f m d}(h:∀(k:Nat)(s:List Nat×List Nat),DfsI E.length m d s->k<E.length->k∉s.1->DfsI E.length m d (dfs E f k s)):
  ∀(b:List Nat)(t:List Nat×List Nat),(∀c∈b,c<E.length)->DfsI E.length m d t->DfsI E.length m d (b.foldl (zbM E f) t)
 |[],t,_,e=>e
 |
  c::b,t,hc,e=>by
  refine ziu h b (zbM E f t c) (λd hd=>hc d (by simp[hd])) ?_;unfold zbM;split
  .exact e
  .exact h c t e (hc c (by simp)) ‹_›
theorem zmJ{E}(b:E.ok):∀(f m d k:Nat)(s:List Nat×List Nat),DfsI E.length m d s->k<E.length->k∉s.1->DfsI E.length m d (dfs E f k s)
 |0,_,_,_,_,h,_,_=>h
 |
  f+1,m,d,k,s,h,c,e=>by
  rw[zsb];have:=ziu (zmJ b f m (d+1)) (suc E k) (s.1++[k],s.2) (b k) ⟨h.nd.snoc c e,by have:=h.le;simp;omega,by have:=h.post;simp;omega⟩;exact⟨this.nd,this.le,by have:=this.post;simp;omega⟩
theorem zro(g:Gr)(K:g.small):∀(f:Nat)(k w x:Nat)(s:List Nat×List Nat)(m d:Nat),DfsI g.E.length m d s->k<g.E.length->k∉s.1->g.E.length<=f+m ->
  zS Z9 zi7 [.agg g.cells,.int .i64 k,.agg [.own 0 0 w 0 s.1.length,.own 1 0 x 0 s.2.length]] [(0,.row 1 (s.1.map cN) w),(1,.row 1 (s.2.map cN) x)] 2
   (λv H nx=>∃p q,v=.agg [.own 0 0 p 0 (dfs g.E f k s).1.length,.own 1 0 q 0 (dfs g.E f k s).2.length]/\H=[(0,.row 1 ((dfs g.E f k s).1.map cN) p),(1,.row 1 ((dfs g.E f k s).2.map cN) q)]/\nx=2)
 |
  0,k,w,x,s,m,d,u,L,N,hf=>by
  have:=(u.nd.snoc L N).len;have:=u.le;simp at *;omega
 |
  f+1,k,w,x,s,m,d,u,L,N,hf=>by
  have T:=zro g K f;have O:=g.E_len;have X:=K.1;have W:=hBig;have Q:=u.nd.len;have R:=u.post;refine zaA (fn_x zya rfl ?_);refine dcU zrw.eq_1 ?_;refine Gw1 @ug ?_;intros;have M:k<g.blocks.length:=by omega
  refine ze (zc (R24_Edges_ok g K k M) rfl) ?_;have C:∀c∈suc g.E k,c<g.E.length:=g.E_ok k;have n:DfsI g.E.length (m+1) (d+1) (s.1++[k],s.2):=⟨u.nd.snoc L N,by have:=u.le;simp;omega,by simp;omega⟩;have t:=zsb g.E f k s;have z:=ziu (E:=g.E) (f:=f) (m:=m+1) (d:=d+1) (zmJ g.E_ok f (m+1) (d+1)) (suc g.E k) (s.1++[k],s.2) C n;generalize P:suc g.E k=j at C t z⊢;refine Gw0 ?_;intros;let S:=λi:Nat=>(j.take i).foldl (zbM g.E f) (s.1++[k],s.2)
  refine zd (λa:Nat×Nat×Nat=>([(1,.int .i64 k),(3,encP 2 g.cells),(5,.ptr 2 0 0 0 0),(6,.ptr 3 0 0 0 0),(7,zb j),(8,.int .i64 a.1)],
    [(0,.row 1 ((S a.1).1.map cN) a.2.1),(1,.row 1 ((S a.1).2.map cN) a.2.2),(2,.row 2 [[.own 0 0 a.2.1 0 (S a.1).1.length,.own 1 0 a.2.2 0 (S a.1).2.length]] 0),(3,.row 2 [[.nilsl,.nilsl]] 0)])) 4
   (λa=>a.1<=j.length) (λa=>j.length-a.1) (0,w+1,x) (Wa _) (Xj [(0,0,0),(1,1,0),(2,2,0),(3,3,0)] [] rfl rfl rfl (by(try simp only[evWB,Xa,Xb,Xe,Xc,Xf,implies_true,Xg,S,Xk])<;>exact fin4) (by(try simp only[evWB,Xa,Xb,Xe,Xc,Xf,implies_true,Xg,S,Xk])<;>exact fin4)) ?_
  rintro⟨i,a0,B⟩ hi wf;simp only at hi;refine dcU znd.eq_1 ?_;refine Gw3 @ua @ug @ub ?_;intros;have D:DfsI g.E.length (m+1) (d+1) (S i):=ziu (zmJ g.E_ok f (m+1) (d+1)) (j.take i) _ (λc J=>C c (WF J)) n;have I:=D.nd.len;(refine zf (λh=>?_) (λh=>?_))<;>(try simp only[dcd]at h)
  .have o:i<j.length:=by omega
   have b:S (i+1)=zbM g.E f (S i) j[i]:=zdZ o;have J:=C j[i] (Wh o);generalize S i=A at D I b⊢;refine Gw1 (gmp o) ?_;intros;refine zC (hasN_own rfl (by omega)) ?_;refine Gw0 ?_;intros;(refine zf (λy=>?_) (λy=>?_))<;>(try simp only[dcd]at y)
   .have e:zbM g.E f A j[i]=dfs g.E f j[i] A:=by unfold zbM;rw[if_neg y]
    rw[e]at b;refine Gw2 (gmp o) @um ?_;intros;refine zbL [(0,0,0),(1,1,0)] 2 _ (T j[i] a0 B A (m+1) (d+1) D J y (by omega)) rfl rfl (Gin4_1 @ug) (Gin4_1 @ug) ?_;rintro v V U ⟨p,q,rfl,rfl,rfl⟩;refine Gw0 ?_;intros;exact⟨(i+1,p,q),by simp only;omega,by simp only;omega,(Xj [(0,0,0),(1,1,0),(2,2,0),(3,3,0)] [] rfl rfl rfl (Gin4_2 @ug b) (Gin4_2 @ug b))⟩
   .have e:zbM g.E f A j[i]=A:=by unfold zbM;rw[if_pos y]
    rw[e]at b;refine Gw0 ?_;intros;exact⟨(i+1,a0,B),by simp only;omega,by simp only;omega,(Xj [(0,0,0),(1,1,0),(2,2,0),(3,3,0)] [] rfl rfl rfl (Gin4_2 @ug b) (Gin4_2 @ug b))⟩
  .refine dcU zmM.eq_1 ?_;have o:j.length<=i:=by omega
   have F:S i=j.foldl (zbM g.E f) (s.1++[k],s.2):=by simp only[S];rw[Wj o]
   have:=D.post;refine Gw1 @zri.eq_1 ?_;intros;refine⟨_,[(0,.row 1 ((dfs g.E (f+1) k s).1.map cN) a0),(1,.row 1 ((dfs g.E (f+1) k s).2.map cN) (B+1))],2,?_,a0,B+1,rfl,rfl,rfl⟩;rw[F,t];exact(Xj [(0,0,0),(1,1,0)] [] rfl rfl rfl Gin4_0 Gin4_0)
theorem zwz{α:Type}{l:List α}{j:Nat}(h:j<l.length):l.reverse.take (j+1)=l.reverse.take j++[l[l.length-1-j]]:=by rw[Wi,List.getElem?_reverse h,We (by omega)];rfl
theorem R24_Order_ok(g:Gr)(q:g.small):zn Z9 zlB [.agg g.cells] (·=zb (orderL g.E)):=by
 refine fn_x zyH rfl ?_;refine dcU zq8.eq_1 ?_;have A:=hBig;have t:=g.E_len;have C:=q.1;refine Gw1 @ug ?_;intros;(refine zf (λh=>?_) (λh=>?_))<;>(try simp only[dcd]at h)
 ·(refine Gw1 @zmx.eq_1 ?_;intros);refine⟨_,?_,rfl⟩;have:orderL g.E=[]:=by unfold orderL;rw[if_pos (by omega)]
  rw[this];exact zbX (l:=[]) trivial rfl (Wa _)
 have c:orderL g.E=(dfs g.E g.E.length 0 ([],[])).2.reverse:=by unfold orderL;rw[if_neg (by omega)]
 have n:DfsI g.E.length 0 0 ([],[]):=⟨⟨by simp,by simp⟩,by simp,by simp⟩;have hd:=zmJ g.E_ok g.E.length 0 0 0 _ n (by omega) (by simp);have d:=hd.nd.len;have k:=hd.post;rw[c];refine Gw1 @um ?_;intros;refine zbL [] 2 _ (zro g q g.E.length 0 0 0 ([],[]) 0 0 n (by omega) (by simp) (by omega)) rfl rfl (Gin4_1 @ug) (Gin4_1 @ug) ?_;rintro v z y ⟨u,w,rfl,rfl,rfl⟩;generalize dfs g.E g.E.length 0 ([],[])=s at d k⊢;refine Gw0 ?_;intros;refine zd (λj:Nat=>([(3,.own 0 0 0 0 (s.2.reverse.take j).length),(4,zb s.2),(5,.int .i64 ((s.2.length:Int)-1-j))],[(0,.row 1 ((s.2.reverse.take j).map cN) 0)])) 1 (λj=>j<=s.2.length) (λj=>s.2.length-j) 0 (Wa _) (Xd [(0,1,0)] [3] rfl (by(try simp only[evWB,Xa,Xb,Xe,Xc,Xf,implies_true,Xq])<;>exact fin4) (by(try simp only[evWB,Xa,Xb,Xe,Xc,Xf,implies_true,Xq])<;>exact fin4)) ?_;intro j B wf;refine dcU zmQ.eq_1 ?_;refine Gw1 @ub ?_;intros;have x:(s.2.reverse.take j).length=j:=by simp;omega
 (refine zf (λp=>?_) (λp=>?_))<;>(try simp only[dcd]at p)
 .have m:j<s.2.length:=by omega
  have b:=zwz m;have e:((s.2.length:Int)-1-j).toNat=s.2.length-1-j:=by omega
  generalize s.2.reverse.take j=o at x b⊢
  (repeat first|simp(disch:=try exact dis1) only[evD,Xa,Xb,Xc,e,zg (show s.2.length-1-j<s.2.length by omega)]|with_reducible first|intro _|refine aJ ?_)
  exact⟨j+1,by omega,by omega,(Xd [(0,0,1)] [] rfl (Gin4_1 b) (Gin4_1 b))⟩
 .unfold zmy;refine Gw1 @zmx.eq_1 ?_;intros;refine⟨_,?_,rfl⟩;rw[Wj (by simp;omega)];exact zbX trivial rfl (by simp;omega)
theorem zk8{A}{i}(h:i<A.length):suc A i=A[i]:=by simp[suc,Wk,h]
theorem _root_.Go.Ab.ue:type_of% @encNN.eq_1:=@encNN.eq_1
theorem zuL(A:List (List Nat))(b:Nat)(p:b<A.length)(s:∀a∈suc A b,a<A.length):zn Z9 zh5 [encNN A,.int .i64 b] (·=.int .i64 (zxR A b)):=by
 refine fn_x zug rfl ?_;refine dcU zn6.eq_1 ?_;have y:=hBig;unfold zxR;rw[zk8 p]at s⊢;refine Gw0 ?_;intros
 refine zd (λi:Nat=>([(0,encNN A),(1,.int .i64 b),(5,.int .i64 ((A[b].take i).foldl (zdV A) (-1))),(6,.int .i64 i)],[])) 0
  (λi=>i<=A[b].length /\ -1<=(A[b].take i).foldl (zdV A) (-1)/\(A[b].take i).foldl (zdV A) (-1)<A.length) (λi=>A[b].length-i) 0 ⟨Wa _,by simp,by simp;omega⟩ (Xh rfl fin5) ?_
 intro i ⟨z,w,x⟩ wf;refine dcU zkQ.eq_1 ?_;refine Gw3 @ue (gmp p) @ub ?_;intros;(refine zf (λh=>?_) (λh=>?_))<;>(try simp only[dcd]at h)
 .have j:i<A[b].length:=by omega
  have k:=zdZ (f:=zdV A) (b:=(-1:Int)) j;have o:=s A[b][i] (Wh j);generalize (A[b].take i).foldl (zdV A) (-1)=c at w x k⊢;refine Gw4 @ue (gmp p) (gmp j) @ub ?_;intros;have g:∀v,v=zdV A c A[b][i] -> -1<=v/\v<A.length/\(A[b].take (i+1)).foldl (zdV A) (-1)=v:=by rintro v rfl;refine⟨?_,?_,k⟩<;>unfold zdV<;>split<;>omega
  generalize m:decide (c<0)=n;cases n<;>simp only[decide_eq_true_eq,decide_eq_false_iff_not,ne_eq,Xi]at m
  .have e:c.toNat<A.length:=by omega
   refine Gw2 (gmp o) (gmp e) ?_;intros;(refine zf (λq=>?_) (λq=>?_))<;>(try simp only[dcd]at q)
   .obtain⟨t,u,d⟩:=g A[b][i] (by unfold zdV;rw[if_pos (.inr (by rw[zk8 e,zk8 o];omega))]);refine Gw0 ?_;intros;refine⟨i+1,⟨by omega,by rw[d];omega,by rw[d];omega⟩,by omega,?_⟩;rw[d];exact Xh rfl fin5
   .obtain⟨t,u,d⟩:=g c (by unfold zdV;rw[if_neg (by rintro(h|h);exact m h;rw[zk8 e,zk8 o]at h;omega)]);refine Gw0 ?_;intros;refine⟨i+1,⟨by omega,by rw[d];omega,by rw[d];omega⟩,by omega,?_⟩;rw[d];exact Xh rfl fin5
  .obtain⟨t,u,d⟩:=g A[b][i] (by unfold zdV;rw[if_pos (.inl m)]);refine Gw0 ?_;intros;refine⟨i+1,⟨by omega,by rw[d];omega,by rw[d];omega⟩,by omega,?_⟩;rw[d];exact Xh rfl fin5
 .unfold zkw;refine Gw1 @znO.eq_1 ?_;intros;rw[Wj (show A[b].length<=i by omega)];exact izO
theorem R24_Dominates_ok(t:List Int)(a b:Int)(B:t.length<=1000):zn Z9 zfC [za t,.int .i64 a,.int .i64 b] (·=.bool (domL t a b)):=by
 refine fn_x zrK rfl ?_;refine dcU zlV.eq_1 ?_;have A:=hBig;unfold domL;refine Gw1 @ud ?_;intros;generalize v:decide (a<0)=n;cases n<;>simp only[decide_eq_true_eq,decide_eq_false_iff_not,ne_eq,Xi]at v
 rotate_left
 ·(refine Gw1 @zbO.eq_1 ?_;intros);rw[if_pos (.inl v)];exact bzO
 refine Gw0 ?_;intros;(refine zf (λo=>?_) (λo=>?_))<;>(try simp only[dcd]at o)
 ·(refine Gw1 @zbO.eq_1 ?_;intros);rw[if_pos (.inr o)];exact bzO
 rw[if_neg (by omega)];refine Gw0 ?_;intros;refine zd (λs:Nat×Int=>([(0,za t),(1,.int .i64 a),(2,.int .i64 s.2),(7,.int .i64 s.1)],[])) 0 (λs=>s.1<=t.length+1/\znM t a (t.length+1-s.1) s.2=znM t a (t.length+1) b) (λs=>t.length+1-s.1) (0,b) ⟨Wa _,rfl⟩ (Xh rfl fin5) ?_;rintro⟨i,c⟩ ⟨z,g⟩ wf;simp only at z g;rw[<-g];refine dcU zim.eq_1 ?_;refine Gw1 @ud ?_;intros
 have d:(¬(i<=t.length)\/¬(0<=c)\/¬(c<t.length))->znM t a (t.length+1-i) c=false:=by
  intro h
  cases w:t.length+1-i with
  |zero=>rfl
  |succ m=>simp only[znM];rw[if_neg (by omega)]
 generalize x:decide ((i:Int)<=t.length)=p;cases p<;>simp only[decide_eq_true_eq,decide_eq_false_iff_not,ne_eq,Xi]at x
 ·(refine Gw0 ?_;intros);unfold zde;refine Gw1 @zbO.eq_1 ?_;intros;rw[d (.inl (by omega))];exact bzO
 refine Gw0 ?_;intros;generalize y:decide (c >= 0)=q;cases q<;>simp only[decide_eq_true_eq,decide_eq_false_iff_not,ne_eq,Xi]at y
 ·(refine Gw0 ?_;intros);unfold zde;refine Gw1 @zbO.eq_1 ?_;intros;rw[d (.inr (.inl (by omega)))];exact bzO
 refine Gw0 ?_;intros;(refine zf (λj=>?_) (λj=>?_))<;>(try simp only[dcd]at j)
 .obtain⟨m,w⟩:∃m,t.length+1-i=m+1:=⟨t.length-i,by omega⟩;have e:c.toNat<t.length:=by omega
  have u:znM t a (t.length+1-i) c=if a=c then true else znM t a m (t[c.toNat]):=by rw[w];simp only[znM];rw[if_pos ⟨by omega,j⟩,Wk,We e,WC]
  refine Gw0 ?_;intros;(refine zf (λk=>?_) (λk=>?_))<;>(try simp only[dcd]at k)
  ·(refine Gw1 @zbO.eq_1 ?_;intros);rw[u,if_pos k];exact bzO
  .rw[if_neg k]at u;refine Gw1 (gmp e) ?_;intros;refine⟨(i+1,t[c.toNat]),⟨by simp only;omega,?_⟩,by simp only;omega,Xh rfl fin5⟩;simp only;rw[u,show t.length+1-(i+1)=m by omega]
 ·(refine Gw0 ?_;intros);unfold zde;refine Gw1 @zbO.eq_1 ?_;intros;rw[d (.inr (.inr j))];exact bzO
theorem zyp{E}(d:E.ok){x}:∀{f i:Nat}{out:List Nat},NdL E.length out->NdL E.length (zjw E x f i out)
 |0,_,_,h=>h
 |
  f+1,i,out,h=>by
  simp only[zjw]
  cases g:out[i]? with
  |none=>exact h
  |some b=>exact zyp d (h.fold (λc e=>d b c e))
theorem zHR{E}(c:E.ok)(a x):NdL E.length (zb8 E a x):=by
 unfold zb8;split
 .exact⟨by simp,by simp⟩
 .exact zyp c ⟨by simp,λb d=>by simp at d;omega⟩
def sLL(E:Adj)(a:Nat)(b:Nat):List Nat:=filR (λa=>zt0 E a b) a
def sLi(E:Adj)(a i:Nat)(b:Nat):List Nat:=sLL E a b++if b∈(zb8 E 0 (-1)).take i/\b≠a/\b∉zb8 E 0 a then[a]else[]
theorem zEE{E}{a}(c:a∉zb8 E 0 (-1)):sLL E (a+1)=sLL E a:=by funext b;exact filR_neg (by simp[zt0,c])
theorem zB0{E}:sLL E 0=λ_=>[]:=rfl
theorem zBv{E}{a}:sLi E a 0=sLL E a:=by funext b;simp[sLi]
theorem zKk{E}{a}(d:a∈zb8 E 0 (-1)):sLi E a (zb8 E 0 (-1)).length=sLL E (a+1):=by
 funext b;unfold sLi;rw[Wt]
 cases h:zt0 E a b with
 |true=>have e:sLL E (a+1) b=sLL E a b++[a]:=filR_pos h;rw[e,if_pos (by simpa [zt0,d,and_assoc]using h)]
 |false=>
  have e:sLL E (a+1) b=sLL E a b:=filR_neg h
  rw[e,if_neg (by
           intro c;have:zt0 E a b=true:=by simp[zt0,d,c.1,c.2.1,c.2.2]
           rw[h]at this;cases this),Wf]
theorem zLc{E}{a i}(e:(zb8 E 0 (-1)).Nodup)(n:i<(zb8 E 0 (-1)).length)(k:(zb8 E 0 (-1))[i]≠a)(m:(zb8 E 0 (-1))[i]∉zb8 E 0 a):
  updF (sLi E a i) (zb8 E 0 (-1))[i] (sLi E a i (zb8 E 0 (-1))[i]++[a])=sLi E a (i+1):=by
 have c:(zb8 E 0 (-1))[i]∉(zb8 E 0 (-1)).take i:=by intro h;obtain⟨j,o,g⟩:=Wq.1 h;simp only[Wu]at o;rw[WG]at g;have:=(List.getElem_inj e).1 g;omega
 funext b;unfold updF sLi;rw[Wi,We n];simp only[Wr,Wc,Wm];by_cases d:b=(zb8 E 0 (-1))[i]
 .subst d;rw[if_pos rfl,if_neg (λh=>c h.1),if_pos ⟨.inr rfl,k,m⟩,Wf]
 .rw[if_neg d];simp only[d,or_false]
theorem sLi_no{E}{a i}(e:i<(zb8 E 0 (-1)).length)(h:¬((zb8 E 0 (-1))[i]≠a/\(zb8 E 0 (-1))[i]∉zb8 E 0 a)):sLi E a i=sLi E a (i+1):=by
 funext b;unfold sLi;rw[Wi,We e];simp only[Wr,Wc,Wm];by_cases d:b=(zb8 E 0 (-1))[i]
 .subst d;rw[if_neg (λc=>h c.2),if_neg (λc=>h c.2)]
 .simp only[d,or_false]
theorem zKd{E}{a i b}:(sLi E a i b).length<=a+1:=by unfold sLi sLL;have:=filR_le (p:=λa=>zt0 E a b) (n:=a);rw[WH];split<;>simp<;>omega
theorem zCU(f)(n):encNN (mapR f n)=encL 1 (λl=>[encL 1 cN l]) ((Wg n).map f):=rfl
theorem zvR(g:Gr)(x:g.small):zn Z9 zjE [.agg g.cells] (·=encNN (zdy g.E)):=by
 refine fn_x zww rfl ?_;refine dcU zpu.eq_1 ?_;have F:=hBig;have q:=g.E_len;have H:=x.1;refine Gw2 @ug @um ?_;intros;refine ze (zc (zso g x 0 (-1)) rfl) ?_;have t:zdy g.E=mapR (sLL g.E g.blocks.length) g.blocks.length:=by unfold zdy;rw[q];rfl
 rw[t];have d:=zHR g.E_ok 0 (-1);have v:=d.len;refine Gw0 ?_;intros
 refine zd (λs:Nat×(Nat->Nat)=>([(1,encP 2 g.cells),(3,.own 0 0 0 0 g.blocks.length),(4,zb (zb8 g.E 0 (-1))),(5,.int .i64 s.1)],[(0,.row 1 (fe 1 g.blocks.length (sLL g.E s.1) s.2) 0),(1,.fam 1 (fi cN g.blocks.length (sLL g.E s.1) s.2))])) 2
  (λs=>s.1<=g.blocks.length) (λs=>g.blocks.length-s.1) (0,λ_=>0) (Wa _) (Xd [(0,1,0)] [] rfl (Gin4_2 @ug @zB0) (Gin4_2 @ug @zB0)) ?_
 rintro⟨a,z⟩ ha wf;simp only at ha;refine dcU zl8.eq_1 ?_;refine Gw2 @ua @ug ?_;intros;(refine zf (λh=>?_) (λh=>?_))<;>(try simp only[dcd]at h)
 ·(refine Gw0 ?_;intros);refine ze ztm ?_;refine Gw0 ?_;intros;(refine zf (λp=>?_) (λp=>?_))<;>(try simp only[dcd]at p)
  .refine dcU zhE.eq_1 ?_;refine Gw0 ?_;intros;exact⟨(a+1,z),by simp only;omega,by simp only;omega,(Xd [(0,0,0),(1,1,0)] [] rfl (by(try simp only[evWB,Xa,Xb,Xe,Xc,Xf,implies_true,Xg,zEE p])<;>exact fin4) (by(try simp only[evWB,Xa,Xb,Xe,Xc,Xf,implies_true,Xg,zEE p])<;>exact fin4))⟩
  ·(refine Gw1 @um ?_;intros);refine ze (zc (zso g x 0 a) rfl) ?_;refine Gw0 ?_;intros
   refine zd (λs:Nat×(Nat->Nat)=>([(1,encP 2 g.cells),(3,.own 0 0 0 0 g.blocks.length),(4,zb (zb8 g.E 0 (-1))),(5,.int .i64 a),(6,zb (zb8 g.E 0 a)),(7,.int .i64 s.1)],
     [(0,.row 1 (fe 1 g.blocks.length (sLi g.E a s.1) s.2) 0),(1,.fam 1 (fi cN g.blocks.length (sLi g.E a s.1) s.2))])) 2
    (λs=>s.1<=(zb8 g.E 0 (-1)).length) (λs=>(zb8 g.E 0 (-1)).length-s.1) (0,z) (Wa _) (Xd [(0,0,0),(1,1,0)] [] rfl (Gin4_2 @ug @zBv) (Gin4_2 @ug @zBv)) ?_
   rintro⟨i,n⟩ hi wf;simp only at hi;refine dcU zlM.eq_1 ?_;refine Gw3 @ua @ug @ub ?_;intros;(refine zf (λA=>?_) (λA=>?_))<;>(try simp only[dcd]at A)
   .have e:i<(zb8 g.E 0 (-1)).length:=by omega
    have y:=d.lt _ (Wh e);have m:=zLc (a:=a) d.nd e;have o:=sLi_no (a:=a) e;refine Gw1 (gmp e) ?_;intros;generalize (zb8 g.E 0 (-1))[i]=b at y m o⊢;have j:b<g.blocks.length:=by omega
    generalize B:decide ((b:Int)≠a)=w;cases w<;>simp only[decide_eq_true_eq,decide_eq_false_iff_not,ne_eq,Xi]at B
    .rw[o (λh=>h.1 (by omega))];refine Gw0 ?_;intros;exact⟨(i+1,n),by simp only;omega,by simp only;omega,(Xd [(0,0,0),(1,1,0)] [] rfl (Gin4_1 @ug) (Gin4_1 @ug))⟩
    ·(refine Gw0 ?_;intros);refine ze ztm ?_;refine Gw0 ?_;intros;(refine zf (λu=>?_) (λu=>?_))<;>(try simp only[dcd]at u)
     .have D:=m (by omega) u;have C:=zKd (E:=g.E) (a:=a) (i:=i) (b:=b)
      (repeat first|simp(disch:=try exact dis1) only[evD,Xa,Xb,Xc,zpa,ztC j,zl9 j,zvS (c:=cN) (a:=a) (ca:=[AV.int .i64 (a:Int)]) rfl,zwB (ll:=sLi g.E a i) (k:=b) a rfl]|with_reducible intro _|((with_reducible apply And.intro);omega))
      rw[D];exact⟨(i+1,_),by simp only;omega,by simp only;omega,(Xd [(0,0,0),(1,1,0)] [] rfl (Gin4_1 @ug) (Gin4_1 @ug))⟩
     .rw[o (λh=>h.2 u)];refine Gw0 ?_;intros;exact⟨(i+1,n),by simp only;omega,by simp only;omega,(Xd [(0,0,0),(1,1,0)] [] rfl (Gin4_1 @ug) (Gin4_1 @ug))⟩
   .obtain rfl:i=(zb8 g.E 0 (-1)).length:=by omega
    refine dcU zhE.eq_1 ?_;rw[zKk p];refine Gw0 ?_;intros;exact⟨(a+1,n),by simp only;omega,by simp only;omega,(Xd [(0,0,0),(1,1,0)] [] rfl (Gin4_1 @ug) (Gin4_1 @ug))⟩
 .obtain rfl:a=g.blocks.length:=by omega
  unfold zma;refine Gw1 @zpr.eq_1 ?_;intros;refine⟨_,?_,rfl⟩;rw[zCU];exact zAN trivial rfl (by omega) rfl (λ_ _=>trivial) (λi _=>Wn filR_le (by omega)) (λ_=>rfl)
theorem zAE(E):(zdy E).length=E.length:=by simp[zdy]
theorem ztE{E}{b}(c:b<E.length):suc (zdy E) b=(Wg E.length).filter λa=>zt0 E a b:=by simp[suc,zdy,Wk,c]
theorem zCh{E}{a b}(h:a∈suc (zdy E) b):a<E.length:=by
 unfold suc zdy at h;rw[Wk,WB]at h
 cases c:(Wg E.length)[b]? with
 |none=>rw[c]at h;simp at h
 |some x=>rw[c]at h;simp at h;exact h.1
theorem R24_Tree_ok(g:Gr)(j:g.small):zn Z9 zno [.agg g.cells] (·=za (treeL g.E)):=by
 refine fn_x zzI rfl ?_;refine dcU ztl.eq_1 ?_;have q:=hBig;have k:=g.E_len;have t:=j.1;refine Gw2 @ug @um ?_;intros;refine ze (zc (zvR g j) rfl) ?_;have c:=zAE g.E;have d:∀a b,a∈suc (zdy g.E) b->a<(zdy g.E).length:=λa b h=>by rw[c];exact zCh h
 have e:treeL g.E=mapR (zxR (zdy g.E)) (zdy g.E).length:=by unfold treeL;rw[c];rfl
 rw[e];generalize zdy g.E=A at c d⊢;generalize o:zxR A=f;refine Gw1 @ue ?_;intros;refine zd (λi:Nat=>([(3,encNN A),(4,.own 0 0 0 0 (mapR f i).length),(5,.int .i64 i)],[(0,.row 1 ((mapR f i).map cI) 0)])) 1 (λi=>i<=A.length) (λi=>A.length-i) 0 (Wa _) (Xd [(0,1,0)] [] rfl (Gin4_2 @ue @zpY) (Gin4_2 @ue @zpY)) ?_;intro i s wf;have p:=zsl (f:=f) (n:=i);refine dcU zoi.eq_1 ?_;refine Gw1 @ue ?_;intros;(refine zf (λh=>?_) (λh=>?_))<;>(try simp only[dcd]at h)
 ·(refine Gw0 ?_;intros);refine ze (zc (zuL A i (by omega) (λa m=>d a i m)) rfl) ?_;rw[o];refine Gw0 ?_;intros;exact⟨i+1,by omega,by omega,(Xd [(0,0,1)] [] rfl (Gin4_2 @ue @zp5) (Gin4_2 @ue @zp5))⟩
 .unfold zon;refine Gw1 @ztB.eq_1 ?_;intros;refine⟨_,?_,rfl⟩;obtain rfl:i=A.length:=by omega
  exact zbz trivial rfl (by omega)
theorem zz6(l):encNN l=encL 1 (λl=>[encL 1 cN l]) l:=rfl
theorem predL_len(E):(predL E).length=E.length:=by simp[predL]
end Go.Ab.Dm
namespace Go.Ab.Dm
def zuG(P:List Nat)(m p:Nat):Prop:=∃A B,P=A++m::B/\p∈B
theorem zuG.left{P}{m p}(h:zuG P m p)(L):zuG (L++P) m p:=by obtain⟨A,B,rfl,b⟩:=h;exact⟨L++A,B,by simp,b⟩
theorem zuG.right{P}{m p}(h:zuG P m p)(R):zuG (P++R) m p:=by obtain⟨A,B,rfl,b⟩:=h;exact⟨A,B++R,by simp,by simp[b]⟩
theorem zuG.last{P}{m k}(h:m∈P):zuG (P++[k]) m k:=by obtain⟨A,B,rfl⟩:=List.append_of_mem h;exact⟨A,B++[k],by simp,by simp⟩
structure Grew(E:Adj)(cs:List Nat)(s s':List Nat×List Nat)(P Q:List Nat):Prop where
 post:s'.2=s.2++P
 seen:s'.1=s.1++Q
 same:∀x,x∈P↔x∈Q
 nd:P.Nodup
 new:∀x∈P,x∉s.1
 closed:∀p∈P,∀c∈suc E p,c∈s'.1
 got:∀c∈cs,c∈s'.1
 reach:∀x∈P,∃c∈cs,RA E (λ_=>False) c x
 from':∀m∈P,m∈cs\/∃p,m∈suc E p/\zuG P m p
theorem RA.trans{E}{X}{a b c}(d:RA E X a b)(e:RA E X b c):RA E X a c:=by
 induction e with
 |refl=>exact d
 |step _ g h j=>exact j.step g h
theorem Grew.append{E}{cs ds}{s s' s''}{P Q P2 Q2}(g:Grew E cs s s' P Q)(k:Grew E ds s' s'' P2 Q2):Grew E (cs++ds) s s'' (P++P2) (Q++Q2):=by
 have sub:∀x,x∈s'.1->x∈s''.1:=λx d=>by rw[k.seen];exact Wc.2 (.inl d)
 refine⟨by rw[k.post,g.post,WI],by rw[k.seen,g.seen,WI],λx=>by simp only[Wc,g.same,k.same],?_,λx d=>?_,λp n c j=>?_,λc j=>?_,λx d=>?_,λm q=>?_⟩
 .rw[Wp];refine⟨g.nd,k.nd,λa o b u e=>?_⟩;subst e;exact k.new a u (by rw[g.seen];exact Wc.2 (.inr ((g.same a).1 o)))
 .rcases Wc.1 d with d|d
  .exact g.new x d
  .exact λh=>k.new x d (by rw[g.seen];exact Wc.2 (.inl h))
 .rcases Wc.1 n with n|n
  .exact sub c (g.closed p n c j)
  .exact k.closed p n c j
 .rcases Wc.1 j with j|j
  .exact sub c (g.got c j)
  .exact k.got c j
 .rcases Wc.1 d with d|d
  .obtain⟨c,j,t⟩:=g.reach x d;exact⟨c,by simp[j],t⟩
  .obtain⟨c,j,t⟩:=k.reach x d;exact⟨c,by simp[j],t⟩
 .rcases Wc.1 q with q|q
  .rcases g.from' m q with h|⟨p,n,o⟩
   .exact .inl (by simp[h])
   .exact .inr ⟨p,n,o.right _⟩
  .rcases k.from' m q with h|⟨p,n,o⟩
   .exact .inl (by simp[h])
   .exact .inr ⟨p,n,o.left _⟩
theorem zxa{E}{f m d}(g:E.ok)(j:∀(k:Nat)(s:List Nat×List Nat),DfsI E.length m d s->k<E.length->k∉s.1->∃P Q,Grew E [k] s (dfs E f k s) P Q):
  ∀(e:List Nat)(t:List Nat×List Nat),(∀c∈e,c<E.length)->DfsI E.length m d t->∃P Q,Grew E e t (e.foldl (zbM E f) t) P Q
 |[],t,_,_=>⟨[],[],by simp,by simp,by simp,by simp,by simp,by simp,by simp,by simp,by simp⟩
 |
  c::e,t,hc,ht=>by
  have b:DfsI E.length m d (zbM E f t c):=by
   unfold zbM;split
   .exact ht
   .exact zmJ g f m d c t ht (hc c (by simp)) ‹_›
  obtain⟨n,o,p⟩:=zxa g j e (zbM E f t c) (λd hd=>hc d (by simp[hd])) b
  have h:∃P Q,Grew E [c] t (zbM E f t c) P Q:=by
   unfold zbM;split
   .exact⟨[],[],by simp,by simp,by simp,by simp,by simp,by simp,by simpa,by simp,by simp⟩
   .exact j c t ht (hc c (by simp)) ‹_›
  obtain⟨P,Q,h⟩:=h;exact⟨P++n,Q++o,h.append p⟩
theorem zA3{E}(u:E.ok):∀(f m d k:Nat)(s:List Nat×List Nat),DfsI E.length m d s->k<E.length->k∉s.1->E.length<=f+m->∃P Q,Grew E [k] s (dfs E f k s) (P++[k]) (k::Q)/\∀x,x∈P↔x∈Q
 |
  0,m,d,k,s,h,z,v,hf=>by
  have:=(h.nd.snoc z v).len;have:=h.le;simp at *;omega
 |
  f+1,m,d,k,s,h,z,v,hf=>by
  have o:DfsI E.length (m+1) (d+1) (s.1++[k],s.2):=⟨h.nd.snoc z v,by have:=h.le;simp;omega,by have:=h.post;simp;omega⟩
  obtain⟨P,Q,g⟩:=zxa (f:=f) (m:=m+1) (d:=d+1) u (λc t D n v=>by
   obtain⟨P,Q,h,_⟩:=zA3 u f (m+1) (d+1) c t D n v (by omega)
   exact⟨_,_,h⟩) (suc E k) (s.1++[k],s.2) (u k) o
  refine⟨P,Q,?_,g.same⟩;rw[zsb];have A:k∉P:=λw=>g.new k w (by simp)
  refine⟨by simp[g.post],by simp[g.seen],λx=>?_,?_,λx j=>?_,λp q c n=>?_,λc n=>?_,λx j=>?_,λx j=>?_⟩
  .simp only[Wc,Wv,List.not_mem_nil,or_false,g.same];exact Or.comm
  .rw[Wp];exact⟨g.nd,by simp,λa y b B e=>by simp at B;subst B;subst e;exact A y⟩
  .rcases Wc.1 j with j|j
   .exact λw=>g.new x j (by simp[w])
   .simp at j;subst j;exact v
  .rcases Wc.1 q with q|q
   .exact g.closed p q c n
   .simp at q;subst q;exact g.got c n
  .simp at n;subst n;show c∈_;rw[g.seen];simp
  .rcases Wc.1 j with j|j
   .obtain⟨c,n,C⟩:=g.reach x j;exact⟨k,by simp,((RA.refl id).step n id).trans C⟩
   .simp at j;subst j;exact⟨x,by simp,.refl id⟩
  .rcases Wc.1 j with j|j
   .rcases g.from' x j with w|⟨p,q,y⟩
    .exact .inr ⟨k,w,zuG.last j⟩
    .exact .inr ⟨p,q,y.right _⟩
   .exact .inl j
theorem zD5{l:List Nat}(h:l.Nodup):l.reverse.Nodup:=by unfold List.Nodup at *;rw[List.pairwise_reverse];exact h.imp λh e=>h e.symm
structure Rpo(E:Adj)(r:Nat)(l:List Nat):Prop where
 head:∃t,l=r::t
 nd:l.Nodup
 lt:∀x∈l,x<E.length
 mem:∀x,x∈l↔RA E (λ_=>False) r x
 pred:∀x∈l,x≠r->∃p A B,l=A++x::B/\p∈A/\x∈suc E p
theorem rpo{E}(e:E.ok){r}(s:r<E.length):Rpo E r (dfs E E.length r ([],[])).2.reverse:=by
 have o:DfsI E.length 0 0 ([],[]):=⟨⟨by simp,by simp⟩,by simp,by simp⟩;obtain⟨P,Q,g,u⟩:=zA3 e E.length 0 0 r ([],[]) o s (by simp) (by omega);have j:=g.post;have m:=g.seen;simp only[Xr]at j m;have hd:=zmJ e E.length 0 0 r _ o s (by simp)
 have d:∀x,x∈P++[r]↔RA E (λ_=>False) r x:=by
  intro x;constructor
  .intro b;obtain⟨c,q,h⟩:=g.reach x b;simp at q;subst q;exact h
  .intro b
   induction b with
   |refl=>simp
   |step _ h3 _ ih=>have:=g.closed _ ih _ h3;rw[m]at this;exact(g.same _).2 this
 rw[j];refine⟨⟨P.reverse,by simp⟩,zD5 g.nd,λx b=>?_,λx=>by rw[Ww];exact d x,λx b n=>?_⟩
 .rw[Ww]at b;exact hd.nd.lt x (by rw[m];exact(g.same x).1 b)
 .rw[Ww]at b;rcases g.from' x b with h|⟨p,j,A,B,t,k⟩
  .simp at h;exact absurd h n
  .exact⟨p,B.reverse,A.reverse,by rw[t];simp,by simpa using k,j⟩
inductive Ch(T:Nat->Option Nat):Nat->Nat->Prop
 |refl (k:Nat):Ch T k k
 |up {k j x:Nat}:T k=some j->Ch T j x->Ch T k x
theorem Ch.trans{T}{a b c}(e:Ch T a b)(d:Ch T b c):Ch T a c:=by
 induction e with
 |refl=>exact d
 |up h _ g=>exact .up h (g d)
theorem Ch.cases'{T}{k x}(h:Ch T k x):x=k\/∃j,T k=some j/\Ch T j x:=by
 cases h with
 |refl=>exact .inl rfl
 |up b c=>exact .inr ⟨_,b,c⟩
structure Lay(A:Adj)(r:Nat)(l:List Nat)(f:Nat->Nat):Prop where
 nd:l.Nodup
 root:r∈l
 pl0:l.idxOf r=0
 mem:∀x,x∈l↔RA A (λ_=>False) r x
 fm:∀k∈l,k≠r->f k∈l/\k∈suc A (f k)/\l.idxOf (f k)<l.idxOf k
section
variable {A:Adj}{r:Nat}{l:List Nat}{f:Nat->Nat}{T U:Nat->Option Nat}
theorem Lay.inj(L:Lay A r l f){x y}(d:x∈l)(e:y∈l)(h:l.idxOf x=l.idxOf y):x=y:=by have b:=WJ (Wx.2 d);have c:=WJ (Wx.2 e);rw[<-b,<-c];congr 1
theorem Lay.pos(L:Lay A r l f){x}(c:x∈l)(b:x≠r):0<l.idxOf x:=by
 rcases Nat.eq_zero_or_pos (l.idxOf x)with h|h
 .exact absurd (L.inj c L.root (h.trans L.pl0.symm)) b
 .exact h
def Pr(A:Adj)(l:List Nat)(p k:Nat):Prop:=p∈l/\k∈suc A p
theorem Lay.edge(L:Lay A r l f){p k}(c:p∈l)(b:k∈suc A p):k∈l:=(L.mem k).2 (((L.mem p).1 c).step b id)
structure WT(r:Nat)(l:List Nat)(T:Nat->Option Nat):Prop where
 root:T r=none
 up:∀k j,T k=some j->k∈l/\j∈l/\l.idxOf j<l.idxOf k/\(j=r\/T j≠none)
def Hd(r:Nat)(T:Nat->Option Nat)(k:Nat):Prop:=k=r\/T k≠none
theorem WT.mem(w:WT r l T)(m:r∈l){k x}(d:k∈l)(h:Ch T k x):x∈l/\l.idxOf x<=l.idxOf k/\(l.idxOf x=l.idxOf k->x=k):=by
 induction h with
 |refl=>exact⟨d,Wd _,λ_=>rfl⟩
 |up h1 _ ih=>obtain⟨_,b,g,_⟩:=w.up _ _ h1;obtain⟨c,j,_⟩:=ih b;exact⟨c,by omega,λe=>by omega⟩
theorem WT.root_ch(w:WT r l T){x}(h:Ch T r x):x=r:=by
 rcases h.cases' with h|⟨j,h,_⟩
 .exact h
 .rw[w.root]at h;cases h
theorem WT.held(w:WT r l T){k x}(c:Hd r T k)(h:Ch T k x):Hd r T x:=by
 induction h with
 |refl=>exact c
 |up b _ d=>exact d (w.up _ _ b).2.2.2
theorem Ch.total{T}{k x y}(d:Ch T k x)(b:Ch T k y):Ch T x y\/Ch T y x:=by
 induction d with
 |refl=>exact .inl b
 |up h _ ih=>
  rcases b.cases' with rfl|⟨j,c,e⟩
  .exact .inr (.up h ‹_›)
  .rw[h]at c;cases c;exact ih e
def Fst(l:List Nat)(T:Nat->Option Nat)(j p q:Nat):Prop:=Ch T p q/\l.idxOf q<j/\∀b,Ch T p b->l.idxOf b<j->Ch T q b
theorem WT.fst(w:WT r l T)(B:l.idxOf r=0)(F:r∈l){j}(D:0<j):∀(n:Nat){p:Nat},l.idxOf p<=n->p∈l->Hd r T p->∃q,Fst l T j p q:=by
 intro n
 induction n with
 |zero=>intro p y z e;exact⟨p,.refl _,by omega,λk h _=>h⟩
 |succ n ih=>
  intro p y z e;by_cases c:l.idxOf p<j
  .exact⟨p,.refl _,c,λk h _=>h⟩
  .rcases e with rfl|e
   .omega
   .cases d:T p with
    |none=>exact absurd d e
    |some p'=>
     obtain⟨_,o,C,s⟩:=w.up _ _ d;obtain⟨q,t,u,v⟩:=ih (by omega) o s;refine⟨q,.up d t,u,λk x m=>?_⟩;rcases x.cases' with rfl|⟨H,b,g⟩
     .exact absurd m c
     .rw[d]at b;cases b;exact v k g m
structure PassTo(A:Adj)(r:Nat)(l:List Nat)(T:Nat->Option Nat)(j:Nat)(U:Nat->Option Nat):Prop where
 wt:WT r l U
 old:∀v,(v∉l\/j<=l.idxOf v)->U v=T v
 new:∀k∈l,k≠r->l.idxOf k<j->∃c,U k=some c /\
  ∀x,Ch U c x↔(∀p,Pr A l p k->l.idxOf p<l.idxOf k->Ch U p x)/\(∀p,Pr A l p k->l.idxOf k<=l.idxOf p->Hd r T p->∃q,Fst l T (l.idxOf k) p q/\Ch U q x)
theorem zBn{n}(w:WT r l T)(h:∀v,v∈l->l.idxOf v<=n->U v=T v){k x}(d:k∈l)(e:l.idxOf k<=n)(c:Ch T k x):Ch U k x:=by
 induction c with
 |refl=>exact .refl _
 |up h1 _ ih=>obtain⟨_,b,g,_⟩:=w.up _ _ h1;exact .up (by rw[h _ d e];exact h1) (ih b (by omega))
theorem PassTo.down{j}(P:PassTo A r l T j U)(w:WT r l T)(I:r∈l)(J:l.idxOf r=0)(M:0<j){p x}(N:p∈l)(t:j<=l.idxOf p)(K:l.idxOf x<j):
  Ch U p x↔∃q,Fst l T j p q/\Ch U q x:=by
 constructor
 .intro h
  induction h with
  |refl=>omega
  |@up k j' x y B ih=>
   have s:T k=some j':=by rw[<-P.old k (.inr t)];exact y
   obtain⟨_,n,F,C⟩:=w.up _ _ s;by_cases m:l.idxOf j'<j
   .refine⟨j',⟨.up s (.refl _),m,λv u D=>?_⟩,B⟩;rcases u.cases' with rfl|⟨L,c,b⟩
    .omega
    .rw[s]at c;cases c;exact b
   .obtain⟨q,⟨u,D,c⟩,b⟩:=ih n (by omega) K;refine⟨q,⟨.up s u,D,λv o e=>?_⟩,b⟩;rcases o.cases' with rfl|⟨L,g,z⟩
    .omega
    .rw[s]at g;cases g;exact c v z e
 .rintro⟨q,⟨y,B,d⟩,h3⟩
  have key:Ch U p q:=by
   clear h3
   induction y with
   |refl=>omega
   |@up k j' q n F ih=>
    have H:U k=some j':=by rw[P.old k (.inr t)];exact n
    obtain⟨_,C,u,D⟩:=w.up _ _ n;by_cases m:l.idxOf j'<j
    .have c:=d j' (.up n (.refl _)) m;obtain⟨b,o,e⟩:=w.mem I C F;obtain⟨_,g,_⟩:=w.mem I b c;rw[e (by omega)];exact .up H (.refl _)
    .exact .up H (ih C (by omega) B λv c b=>d v (.up n c) b)
  exact key.trans h3
theorem PassTo.step{j:Nat}(L:Lay A r l f)(Q:WT r l T)(P:PassTo A r l T j U){k c:Nat}(Z:k∈l)(K:k≠r)(J:l.idxOf k=j)(hc:∀x,Ch U c x↔∀p,Pr A l p k->Hd r U p->Ch U p x):PassTo A r l T (j+1) (updF U k (some c)):=by
 have hj:0<j:=by rw[<-J];exact L.pos Z K
 obtain⟨o,H,hf3⟩:=L.fm k Z K
 have held:∀p,p∈l->l.idxOf p<j->Hd r U p:=by
  intro p d M;by_cases hpr:p=r
  .exact .inl hpr
  .obtain⟨c,h,_⟩:=P.new p d hpr M;exact .inr (by rw[h];simp)
 have I:=held (f k) o (by omega);have V:Ch U (f k) c:=(hc c).1 (.refl _) _ ⟨o,H⟩ I;obtain⟨X,hcp,_⟩:=P.wt.mem L.root o V;have hch:=P.wt.held I V;have b:∀v,v≠k->updF U k (some c) v=U v:=λv t=>zwx t
 have wt':WT r l (updF U k (some c)):=by
  refine⟨by rw[b r (Ne.symm K)];exact P.wt.root,λv j' h=>?_⟩;by_cases t:v=k
  .subst t;rw[zg4]at h;cases h;refine⟨Z,X,by omega,?_⟩;rcases hch with h|h
   .exact .inl h
   .by_cases W:c=v
    .subst W;omega
    .exact .inr (by rw[b c W];exact h)
  .rw[b v t]at h;obtain⟨D,R,F,B⟩:=P.wt.up v j' h;refine⟨D,R,F,?_⟩;rcases B with B|B
   .exact .inl B
   .by_cases Y:j'=k
    .subst Y;rw[zg4];exact .inr (by simp)
    .exact .inr (by rw[b j' Y];exact B)
 have g:∀{v x:Nat},v∈l->l.idxOf v<j->(Ch (updF U k (some c)) v x↔Ch U v x):=by
  intro v x t hvj;have e:∀u,u∈l->l.idxOf u<=l.idxOf v->updF U k (some c) u=U u:=λu hu huv=>b u (λe=>by subst e;omega)
  exact⟨λh=>zBn (n:=l.idxOf v) wt' (λu hu huv=>(e u hu huv).symm) t (Wd _) h,λh=>zBn (n:=l.idxOf v) P.wt e t (Wd _) h⟩
 refine⟨wt',λv t=>?_,λv t hvr hvj=>?_⟩
 .have z:v≠k:=λe=>by
   subst e;rcases t with t|t
   .exact t Z
   .omega
  rw[b v z];exact P.old v (t.imp id (λh=>by omega))
 .by_cases z:v=k
  .subst z;refine⟨c,zg4,λx=>?_⟩;rw[g X (by omega),hc x];constructor
   .intro h;have hxf:=h (f v) ⟨o,H⟩ I;have O:l.idxOf x<j:=by have:=(P.wt.mem L.root o hxf).2.1;omega
    refine⟨λp d m=>(g d.1 (by omega)).2 (h p d (held p d.1 (by omega))),λp d m C=>?_⟩
    have w:Hd r U p:=by
     rcases C with C|C
     .exact .inl C
     .exact .inr (by rw[P.old p (.inr (by omega))];exact C)
    rw[J];obtain⟨q,s,y⟩:=(P.down Q L.root L.pl0 hj d.1 (by omega) O).1 (h p d w);have N:q∈l:=(Q.mem L.root d.1 s.1).1;exact⟨q,s,(g N s.2.1).2 y⟩
   .rintro⟨D,R⟩ p d w;have O:l.idxOf x<j:=by have F:=(g o (by omega)).1 (D (f v) ⟨o,H⟩ hf3);have:=(P.wt.mem L.root o F).2.1;omega
    by_cases M:l.idxOf p<j
    .exact(g d.1 M).1 (D p d (by omega))
    .have hTp:Hd r T p:=by
      rcases w with w|w
      .exact .inl w
      .exact .inr (by rw[<-P.old p (.inr (by omega))];exact w)
     obtain⟨q,s,y⟩:=R p d (by omega) hTp;rw[J]at s;have N:q∈l:=(Q.mem L.root d.1 s.1).1;exact(P.down Q L.root L.pl0 hj d.1 (by omega) O).2 ⟨q,s,(g N s.2.1).1 y⟩
  .have hvj':l.idxOf v<j:=by
    rcases Wy (l.idxOf v) j with h|h
    .exact h
    .exact absurd (L.inj t Z (by omega)) z
   obtain⟨c',D,R⟩:=P.new v t hvr hvj';obtain⟨_,S,hc'p,_⟩:=P.wt.up v c' D;refine⟨c',by rw[b v z];exact D,λx=>?_⟩;rw[g S (by omega),R x];constructor
   .rintro⟨F,B⟩;refine⟨λp d m=>(g d.1 (by omega)).2 (F p d m),λp d m C=>?_⟩;obtain⟨q,s,y⟩:=B p d m C;exact⟨q,s,(g (Q.mem L.root d.1 s.1).1 (by have:=s.2.1;omega)).2 y⟩
   .rintro⟨F,B⟩;refine⟨λp d m=>(g d.1 (by omega)).1 (F p d m),λp d m C=>?_⟩;obtain⟨q,s,y⟩:=B p d m C;exact⟨q,s,(g (Q.mem L.root d.1 s.1).1 (by have:=s.2.1;omega)).1 y⟩
theorem PassTo.start(L:Lay A r l f)(e:WT r l T):PassTo A r l T 1 T:=by refine⟨e,λ_ _=>rfl,λk c b d=>?_⟩;have:=L.pos c b;omega
end
section
variable {A:Adj}{r:Nat}{l:List Nat}{f:Nat->Nat}{T U V:Nat->Option Nat}
abbrev Pass(A:Adj)(r:Nat)(l:List Nat)(T U:Nat->Option Nat):Prop:=PassTo A r l T l.length U
theorem zkB{l:List Nat}{k:Nat}(h:k∈l):l.idxOf k<l.length:=Wx.2 h
theorem Pass.get(P:Pass A r l T U){k}(d:k∈l)(b:k≠r):∃c,U k=some c /\
  ∀x,Ch U c x↔(∀p,Pr A l p k->l.idxOf p<l.idxOf k->Ch U p x)/\(∀p,Pr A l p k->l.idxOf k<=l.idxOf p->Hd r T p->∃q,Fst l T (l.idxOf k) p q/\Ch U q x):=P.new k d b (zkB d)
theorem Pass.held(P:Pass A r l T U){k}(d:k∈l):Hd r U k:=by
 by_cases b:k=r
 .exact .inl b
 .obtain⟨c,h,_⟩:=P.get d b;exact .inr (by rw[h];simp)
inductive SA(r:Nat)(l:List Nat)(f:Nat->Nat)(a:Nat):Nat->Prop
 |refl:SA r l f a a
 |step {b:Nat}:b∈l->b≠r->SA r l f a (f b)->SA r l f a b
theorem SA.le(L:Lay A r l f){a b}(h:SA r l f a b):l.idxOf a<=l.idxOf b:=by
 induction h with
 |refl=>exact Wd _
 |step c d _ e=>have:=(L.fm _ c d).2.2;omega
theorem SA.path(L:Lay A r l f){a b d}(h:SA r l f a b)(k:a∈l)(hd:d∈l)(c:l.idxOf d<l.idxOf a):RA A (·=d) a b:=by
 induction h with
 |refl=>exact .refl (λe=>by subst e;omega)
 |step h1 h2 h3 ih=>have g:=h3.le L;have j:=(L.fm _ h1 h2).2.2;exact ih.step (L.fm _ h1 h2).2.1 (λe=>by subst e;omega)
theorem Pass.anc(L:Lay A r l f)(P:Pass A r l T U):∀(n:Nat){b y:Nat},l.idxOf b<=n->b∈l->Ch U b y->SA r l f y b:=by
 intro n
 induction n with
 |zero=>intro b y t g h;have d:b=r:=L.inj g L.root (by rw[L.pl0];omega);subst d;rw[P.wt.root_ch h];exact .refl
 |succ n ih=>
  intro b y t g h;rcases h.cases' with rfl|⟨c,j,q⟩
  .exact .refl
  .have d:b≠r:=λe=>by subst e;rw[P.wt.root]at j;cases j
   obtain⟨u,m,s⟩:=P.get g d;rw[j]at m;cases m;obtain⟨k,o,p⟩:=L.fm b g d;exact .step g d (ih (by omega) k (((s y).1 q).1 _ ⟨k,o⟩ p))
theorem Pass.mid(L:Lay A r l f)(P:Pass A r l T U){a b y}(h:SA r l f a b)(s:l.idxOf y<l.idxOf a)(e:Ch U b y):Ch U a y:=by
 induction h with
 |refl=>exact e
 |step h1 h2 h3 ih=>
  have q:=h3.le L;obtain⟨g,j,k⟩:=L.fm _ h1 h2;rcases e.cases' with rfl|⟨c,m,n⟩
  .omega
  .obtain⟨p,d,o⟩:=P.get h1 h2;rw[m]at d;cases d;exact ih (((o y).1 n).1 _ ⟨g,j⟩ k)
structure Gd(A:Adj)(r:Nat)(l:List Nat)(f:Nat->Nat)(T U:Nat->Option Nat):Prop where
 wt:WT r l T
 pass:Pass A r l T U
 anc:∀v y,v∈l->Hd r T v->Ch T v y->SA r l f y v
 mono:∀v y,v∈l->Hd r T v->Ch U v y->Ch T v y
theorem zDw:WT r l (λ_=>none):=⟨rfl,λk j h=>by cases h⟩
theorem Gd.first(P:Pass A r l (λ_=>none) U):Gd A r l f (λ_=>none) U:=by
 refine⟨zDw,P,λv y d b h=>?_,λv y d b h=>?_⟩
 .rcases b with rfl|b
  .rcases h.cases' with rfl|⟨j,c,_⟩
   .exact .refl
   .cases c
  .exact absurd rfl b
 .rcases b with rfl|b
  .rw[P.wt.root_ch h];exact .refl _
  .exact absurd rfl b
theorem Gd.next(L:Lay A r l f)(G:Gd A r l f T U)(P:Pass A r l U V):Gd A r l f U V:=by
 have J:=G.pass.wt;refine⟨J,P,λv y D _ h=>G.pass.anc L _ (Wd _) D h,?_⟩
 have key:∀(n:Nat)(k x:Nat),l.idxOf k<=n->k∈l->Ch V k x->Ch U k x:=by
  intro n
  induction n with
  |zero=>intro k x Z o h;have b:k=r:=L.inj o L.root (by rw[L.pl0];omega);subst b;rw[P.wt.root_ch h];exact .refl _
  |succ n M=>
   intro k x Z o h;rcases h.cases' with rfl|⟨c,w,N⟩
   .exact .refl _
   .have b:k≠r:=λe=>by subst e;rw[P.wt.root]at w;cases w
    obtain⟨c0,K,O⟩:=P.get o b;rw[w]at K;cases K;obtain⟨Q,R⟩:=(O x).1 N;obtain⟨c',S,W⟩:=G.pass.get o b;refine .up S ((W x).2 ⟨λp d m=>M p x (by omega) d.1 (Q p d m),λp d m z=>?_⟩);obtain⟨q,⟨I,q2,q3⟩,q4⟩:=R p d m (G.pass.held d.1);have t:=(J.mem L.root d.1 I).1;have u:=M q x (by omega) t q4;have C:=I.trans u;have B:=G.mono p q d.1 z I;obtain⟨H,g⟩:=G.wt.fst L.pl0 L.root (L.pos o b) _ (Wd _) d.1 z;refine⟨H,g,?_⟩;have s:=g.2.2 q B q2;obtain⟨j,_,_⟩:=G.wt.mem L.root d.1 g.1;obtain⟨_,Y,_⟩:=G.wt.mem L.root j s;obtain⟨F,hxq,hxe⟩:=J.mem L.root t u;by_cases X:l.idxOf x=l.idxOf H
    .rw[L.inj F j X];exact .refl _
    .exact G.pass.mid L (G.anc p H d.1 z g.1) (by omega) C
 exact λv y D _ h=>key _ v y (Wd _) D h
def far(l:List Nat)(T:Nat->Option Nat):Nat:=(l.map λk=>match T k with|none=>l.length+1|some c=>l.idxOf c).sum
theorem sum_le{l:List Nat}{g h:Nat->Nat}(b:∀k∈l,g k<=h k):(l.map g).sum<=(l.map h).sum:=by
 induction l with
 |nil=>simp
 |cons a l ih=>
  have d:=b a (by simp);have e:=ih λk c=>b k (by simp[c])
  simp only[Xs,Xt];omega
theorem sum_lt{l:List Nat}{g h:Nat->Nat}(c:∀k∈l,g k<=h k){k:Nat}(b:k∈l)(e:g k<h k):(l.map g).sum<(l.map h).sum:=by
 induction l with
 |nil=>cases b
 |cons a l ih=>
  have j:=c a (by simp);have m:=sum_le (l:=l) (g:=g) (h:=h) λk b=>c k (by simp[b])
  simp only[Xs,Xt];rcases Wv.1 b with rfl|d
  .omega
  .have:=ih (λk b=>c k (by simp[b])) d;omega
theorem Gd.far(L:Lay A r l f)(G:Gd A r l f T U){k:Nat}(s:k∈l)(b:U k≠T k):far l U<far l T:=by
 have le:∀v∈l,(match U v with|none=>l.length+1|some c=>l.idxOf c)<=(match T v with|none=>l.length+1|some c=>l.idxOf c)/\(U v≠T v->(match U v with|none=>l.length+1|some c=>l.idxOf c)<(match T v with|none=>l.length+1|some c=>l.idxOf c)):=by
  intro v e;by_cases d:v=r
  .subst d;rw[G.pass.wt.root,G.wt.root];exact⟨Wd _,λh=>absurd rfl h⟩
  .obtain⟨c,g,_⟩:=G.pass.get e d;rw[g];obtain⟨_,o,x,_⟩:=G.pass.wt.up v c g;have y:=zkB o
   cases n:T v with
   |none=>simp only;exact⟨by omega,λ_=>by omega⟩
   |some p=>
    simp only;have m:=G.mono v c e (.inr (by rw[n];simp)) (.up g (.refl _));rcases m.cases' with m|⟨j,q,t⟩
    .subst m;omega
    .rw[n]at q;cases q;obtain⟨_,z,_,_⟩:=G.wt.up v p n;obtain⟨_,u,w⟩:=G.wt.mem L.root z t
     exact⟨u,λb=>by
      rcases Wy (l.idxOf c) (l.idxOf p)with h|h
      .exact h
      .exact absurd (by rw[w (by omega)]) b⟩
 exact sum_lt (λv e=>(le v e).1) s ((le k s).2 b)
def Dm(A:Adj)(r x k:Nat):Prop:=¬RA A (·=x) r k
theorem Dm.refl(k):Dm A r k k:=by
 intro h
 cases h with
 |refl h=>exact h rfl
 |step _ _ h=>exact h rfl
theorem Dm.pred{x p k}(h:Dm A r x k)(c:k∈suc A p)(d:x≠k):Dm A r x p:=λb=>h (b.step c (λe=>d e.symm))
def Sd(A:Adj)(r:Nat)(l:List Nat)(T:Nat->Option Nat):Prop:=∀k∈l,Hd r T k->∀x∈l,Dm A r x k->Ch T k x
theorem zKS:Sd A r l (λ_=>none):=by
 intro k d b x g hd;rcases b with rfl|b
 .have:x=k:=Xl λc=>hd (.refl λe=>c e.symm)
  subst this;exact .refl _
 .exact absurd rfl b
theorem Gd.sd(L:Lay A r l f)(G:Gd A r l f T U)(P:Sd A r l T):Sd A r l U:=by
 have key:∀(n:Nat)(k x:Nat),l.idxOf k<=n->k∈l->x∈l->Dm A r x k->Ch U k x:=by
  intro n
  induction n with
  |zero=>
   intro k x t o g hd;have b:k=r:=L.inj o L.root (by rw[L.pl0];omega);subst b;have:x=k:=Xl λt=>hd (.refl λe=>t e.symm)
   subst this;exact .refl _
  |succ n I=>
   intro k x t o g hd;by_cases b:k=r
   .subst b;have:x=k:=Xl λt=>hd (.refl λe=>t e.symm)
    subst this;exact .refl _
   .by_cases j:x=k
    .subst j;exact .refl _
    .obtain⟨c,M,N⟩:=G.pass.get o b;refine .up M ((N x).2 ⟨λp m C=>I p x (by omega) m.1 g (hd.pred m.2 j),λp m C y=>?_⟩);obtain⟨J,K,Q⟩:=L.fm k o b;have H:=I (f k) x (by omega) J g (hd.pred K j);have v:l.idxOf x<l.idxOf k:=by have:=(G.pass.wt.mem L.root J H).2.1;omega
     have s:=hd.pred m.2 j;have z:=P p m.1 y x g s;obtain⟨q,u⟩:=G.wt.fst L.pl0 L.root (L.pos o b) _ (Wd _) m.1 y;refine⟨q,u,?_⟩;have D:=u.2.2 x z v;obtain⟨d,_,_⟩:=G.wt.mem L.root m.1 u.1;obtain⟨_,O,R⟩:=G.wt.mem L.root d D;by_cases w:x=q
     .subst w;exact .refl _
     .have B:l.idxOf x<l.idxOf q:=by
       rcases Wy (l.idxOf x) (l.idxOf q)with h|h
       .exact h
       .exact absurd (L.inj g d (by omega)) w
      have:=u.2.1;exact I q x (by omega) d g λF=>s (F.trans ((G.anc p q m.1 y u.1).path L d g B))
 exact λk o _ x g hd=>key _ k x (Wd _) o g hd
theorem Gd.fix(L:Lay A r l f)(G:Gd A r l f T T){k x:Nat}(D:k∈l)(h:Ch T k x):Dm A r x k:=by
 have d:∀k∈l,k≠r->∀x,x≠k->Ch T k x->∀p,Pr A l p k->Ch T p x:=by
  intro k D u x s h p v;rcases h.cases' with h|⟨c,F,H⟩
  .exact absurd h s
  .obtain⟨N,B,I⟩:=G.pass.get D u;rw[F]at B;cases B;obtain⟨J,K⟩:=(I x).1 H;by_cases w:l.idxOf p<l.idxOf k
   .exact J p v w
   .obtain⟨q,M,y⟩:=K p v (by omega) (G.pass.held v.1);exact M.1.trans y
 intro z
 have:∀b,RA A (·=x) r b->b∈l/\¬Ch T b x:=by
  intro b C
  induction C with
  |refl h=>exact⟨L.root,λo=>h (G.wt.root_ch o).symm⟩
  |@step b c C o s ih=>
   obtain⟨g,t⟩:=ih;have j:=L.edge g o;refine⟨j,λn=>?_⟩;by_cases m:c=r
   .subst m;exact s (G.wt.root_ch n).symm
   .exact t (d c j m x (λe=>s e.symm) n b ⟨g,o⟩)
 exact(this k z).2 h
structure DTree'(A:Adj)(r:Nat)(l:List Nat)(T:Nat->Option Nat):Prop where
 wt:WT r l T
 held:∀k∈l,k≠r->T k≠none
 ch:∀k∈l,∀x∈l,Ch T k x↔Dm A r x k
theorem Gd.done(L:Lay A r l f)(G:Gd A r l f T T)(d:Sd A r l T):DTree' A r l T :=
 ⟨G.wt,λk b c=>(G.pass.held b).resolve_left c,λk b x e=>⟨λh=>G.fix L b h,λh=>d k b (G.pass.held b) x e h⟩⟩
end
def IsN(x:Int):Nat->Prop:=λy=>(y:Int)=x
structure FromI(E:Adj)(x:Int)(a i:Nat)(out:List Nat):Prop where
 nd:NdL E.length out
 root:a∈out
 sound:∀b∈out,RA E (IsN x) a b
 closed:∀j (h:j<out.length),j<i->∀c∈suc E out[j],(c:Int)≠x->c∈out
theorem zzx{x}{out}{c b}:b∈zbv x out c↔b∈out\/(b=c/\(c:Int)≠x):=by
 unfold zbv;split
 .rename_i h;simp only[Wc,Wm];exact⟨λd=>d.imp id (λe=>⟨e,h.1⟩),λd=>d.imp id (λe=>e.1)⟩
 .rename_i h;constructor
  .exact .inl
  .rintro(d|⟨rfl,d⟩)
   .exact d
   .exact Xl λe=>h ⟨d,e⟩
theorem zo2{x}{b}:∀{cs out:List Nat},b∈cs.foldl (zbv x) out↔b∈out\/(b∈cs/\(b:Int)≠x)
 |[],out=>by simp
 |
  c::cs,out=>by
  rw[Xu,zo2 (cs:=cs),zzx];constructor
  .rintro((h|⟨rfl,h⟩)|⟨h,d⟩)
   .exact .inl h
   .exact .inr ⟨by simp,h⟩
   .exact .inr ⟨by simp[h],d⟩
  .rintro(h|⟨h,d⟩)
   .exact .inl (.inl h)
   .rcases Wv.1 h with rfl|h
    .exact .inl (.inr ⟨rfl,d⟩)
    .exact .inr ⟨h,d⟩
theorem zBN{x}:∀(b out:List Nat),∃t,b.foldl (zbv x) out=out++t
 |[],out=>⟨[],by simp⟩
 |
  c::b,out=>by
  obtain⟨t,d⟩:=zBN (x:=x) b (zbv x out c);rw[Xu,d];unfold zbv;split
  .exact⟨c::t,by simp⟩
  .exact⟨t,rfl⟩
theorem zC9{E}(u:E.ok){x}{a}:∀(f i:Nat)(out:List Nat),FromI E x a i out->E.length<=f+i->∀b,b∈zjw E x f i out↔RA E (IsN x) a b:=by
 have g:∀(i:Nat)(out:List Nat),FromI E x a i out->out.length<=i->∀b,b∈out↔RA E (IsN x) a b:=by
  intro i out h A b;refine⟨h.sound b,λd=>?_⟩
  induction d with
  |refl=>exact h.root
  |step _ h2 h3 ih=>obtain⟨j,s,v⟩:=Wq.1 ih;exact h.closed j s (by omega) _ (by rw[v];exact h2) h3
 intro f
 induction f with
 |zero=>intro i out h w b;exact g i out h (by have:=h.nd.len;omega) b
 |succ f ih=>
  intro i out h w b;simp only[zjw];by_cases q:i<out.length
  .rw[We q];simp only;refine ih (i+1) _ ⟨h.nd.fold (λc k=>u _ c k),zo2.2 (.inl h.root),λb d=>?_,λj s y c k m=>?_⟩ (by omega) b
   .rcases zo2.1 d with d|⟨d,o⟩
    .exact h.sound b d
    .exact(h.sound _ (Wh q)).step d o
   .obtain⟨t,z⟩:=zBN (x:=x) (suc E out[i]) out;have n:j<out.length:=by omega
    have e:((suc E out[i]).foldl (zbv x) out)[j]=out[j]:=by simp only[z];exact List.getElem_append_left n
    rw[e]at k;by_cases p:j=i
    .subst p;exact zo2.2 (.inr ⟨k,m⟩)
    .exact zo2.2 (.inl (h.closed j n (by omega) c k m))
  .rw[WE (by omega)];exact g i out h (by omega) b
theorem zys{E}(e:E.ok){a:Nat}(k:a<E.length){x:Int}{b:Nat}:b∈zb8 E a x↔RA E (IsN x) a b:=by
 unfold zb8;by_cases d:(a:Int)=x
 .rw[if_pos (.inl d)];constructor
  .intro h;cases h
  .intro h;exfalso
   induction h with
   |refl h=>exact h d
   |step _ _ _ g=>exact g
 .rw[if_neg (by omega)];refine zC9 e _ _ _ ⟨⟨by simp,λb c=>?_⟩,by simp,λb c=>?_,λj _ h=>absurd h (Nat.not_lt_zero _)⟩ (by omega) b
  .simp at c;omega
  .simp at c;subst c;exact .refl d
theorem zw2{E}(c:E.ok){a:Nat}(d:a<E.length){b:Nat}:b∈zb8 E a (-1)↔RA E (λ_=>False) a b:=by
 rw[zys c d]
 have:IsN (-1)=λ_=>False:=by
  funext y;refine eq_false λh=>?_
  unfold IsN at h;omega
 rw[this]
theorem zHK{E}(c:E.ok){r:Nat}(d:r<E.length){a b:Nat}:b∉zb8 E r a↔Dm E r a b:=by
 rw[zys c d]
 have:IsN (a:Int)=(·=a):=by
  funext y;refine propext ⟨λh=>?_,λh=>?_⟩
  .unfold IsN at h;show y=a;omega
  .subst h;rfl
 rw[this];rfl
theorem mono_RA{E}{X Y}(h:∀y,Y y->X y){a b}(j:RA E X a b):RA E Y a b:=by
 induction j with
 |refl d=>exact .refl λc=>d (h _ c)
 |step _ c e k=>exact k.step c λg=>e (h _ g)
theorem zA9{E}{r a b}(j:RA E (λ_=>False) r b)(h:Dm E r a b):RA E (λ_=>False) r a:=by
 have key:∀c,RA E (λ_=>False) r c->RA E (·=a) r c\/RA E (λ_=>False) r a:=by
  intro c k
  induction k with
  |refl=>
   by_cases e:r=a
   .subst e;exact .inr (.refl id)
   .exact .inl (.refl e)
  |@step b c d h2 _ g=>
   rcases g with g|g
   .by_cases e:c=a
    .subst e;exact .inr (d.step h2 id)
    .exact .inl (g.step h2 e)
   .exact .inr g
 rcases key b j with d|d
 .exact absurd d h
 .exact d
theorem zFq{E}(h:E.ok)(j:0<E.length){a b}:zt0 E a b=true↔RA E (λ_=>False) 0 b/\b≠a/\Dm E 0 a b:=by
 unfold zt0;have g:∀b,b∈zb8 E 0 (-1)↔RA E (λ_=>False) 0 b:=λb=>zw2 h j (b:=b)
 have k:b∉zb8 E 0 a↔Dm E 0 a b:=zHK h j (a:=a) (b:=b);simp only[Wl,decide_eq_true_eq];rw[g,g,k];constructor
 .rintro⟨⟨⟨_,c⟩,e⟩,d⟩;exact⟨c,e,d⟩
 .rintro⟨c,e,d⟩;exact⟨⟨⟨zA9 c d,c⟩,e⟩,d⟩
end Go.Ab.Dm
namespace Go.Ab.Dm
open Go.RowKit Go.Proofs
structure PredFn(fv:AV)(p:Int->Bool):Prop where
 ex:∃f caps,fv=.fn (.func f) caps/\zfd Z9 f=true/\zz caps=true/\∀x,zn Z9 f ([.int .i64 x]++caps) (·=.bool (p x))
theorem zd1:∀{l:List AV},zz l=true->l.all AV.flat=true
 |[],_=>rfl
 |
  a::l,h=>by
  simp only[zz,Wl]at h;simp only[Xv,Wl];refine⟨?_,zd1 h.2⟩;cases a<;>first|rfl|exact absurd h.1 (by simp[AV.flat0])
theorem zvq{fv}{p}(g:PredFn fv p){x}{H}{nx}{k}(e:k (.bool (p x)) H nx):zop Z9 fv [.int .i64 x] H nx k:=by obtain⟨f,b,rfl,d,c,h⟩:=g.ex;rw[ziU];exact⟨d,ze (zc (h x) (by simp only[List.cons_append,Xr,Xv,AV.flat,AV.flat0,Bool.true_and];exact zd1 c)) e⟩
theorem zwl{fv}{p}(h:PredFn fv p){H H2}{σ}{D}{t}:Vw H H2 σ D t fv fv:=by
 obtain⟨f,c,rfl,j,g,k⟩:=h.ex;refine .fn _ _ _ _ rfl λi a b d e=>?_
 rw[d]at e;cases e;exact zl (zbN g d)
theorem zoU(l:List Int)(k:AV)(p:Int->Bool)(o:PredFn k p):zn Z9 zam [za l,k] (·=.int .i64 (match l.findIdx? p with|some i=>(i:Int)|none=> -1)):=by
 refine fn_x zd2 rfl ?_;refine dcU zcd.eq_1 ?_;have s:=hBig;refine Gw1 @ud ?_;intros;refine zd (λi:Nat=>([(0,za l),(1,k),(7,.int .i64 l.length),(8,.int .i64 i)],[])) 0 (λi=>i<=l.length/\∀j (h:j<l.length),j<i->p l[j]=false) (λi=>l.length-i) 0 ⟨Wa _,λj _ h=>by omega⟩ (Xh rfl fin5) ?_;intro i ⟨t,b⟩ wf;refine dcU zbB.eq_1 ?_;refine Gw1 @ud ?_;intros;(refine zf (λh=>?_) (λh=>?_))<;>(try simp only[dcd]at h)
 .have c:i<l.length:=by omega
  refine Gw1 (gmp c) ?_;intros;refine zvq o ?_;refine Gw0 ?_;intros;(refine zf (λg=>?_) (λg=>?_))<;>(try simp only[dcd]at g)
  ·(refine Gw1 @zaE.eq_1 ?_;intros);have e:l.findIdx? p=some i:=by rw[WK];exact⟨c,g,λj d=>by rw[b j (by omega) d];simp⟩
   rw[e];exact izO
  ·(refine Gw0 ?_;intros);refine⟨i+1,⟨by omega,λj d n=>?_⟩,by omega,Xh rfl fin5⟩;by_cases m:j=i
   .subst m;simpa using g
   .exact b j d (by omega)
 .unfold zby;refine Gw1 @zaE.eq_1 ?_;intros;have e:l.findIdx? p=none:=by rw[WL];intro x q;obtain⟨j,d,rfl⟩:=Wq.1 q;exact b j d (by omega)
  rw[e];exact izO
def cur(K l:List Int):List Int:=K++l.drop K.length
theorem zDC{K l}(h:K.length<=l.length):(cur K l).length=l.length:=by simp[cur];omega
theorem zJU{K l}{j}(h:K.length<=j)(b:j<l.length):(cur K l)[j]?=some l[j]:=by unfold cur;rw[List.getElem?_append_right h,List.getElem?_drop,show K.length+(j-K.length)=j by omega,We b]
theorem zHl{K l}{j}(h:K.length<=j)(b:j<l.length):((cur K l).map cI).getD j []=[.int .i64 l[j]]:=by simp[Wk,zJU h b]
theorem zJR{K l}{v}(h:K.length<l.length):(cur K l).set K.length v=cur (K++[v]) l:=by unfold cur;rw[List.set_append_right _ _ (Wd _),Nat.sub_self,List.drop_eq_getElem_cons h,List.set_cons_zero];simp
theorem zIO{K l}{v}(h:K.length<l.length):((cur K l).map cI).set K.length [.int .i64 v]=(cur (K++[v]) l).map cI:=by rw[<-zJR h,List.map_set]
theorem zns(l:List Int)(g:Nat)(u:AV)(p:Int->Bool)(k:PredFn u p)(T:l.length<=1000):
  zS Z9 zaZ [.own 0 0 g 0 l.length,u] [(0,.row 1 (l.map cI) g)] 1
   (λv H nx=>∃m,v=.own 0 0 g 0 (l.filter λx=> !p x).length/\H=[(0,.row 1 (((l.filter λx=> !p x)++m).map cI) g)]/\nx=1):=by
 refine zaA (fn_x zic rfl ?_);refine dcU zdA.eq_1 ?_;have S:=hBig;refine Gw0 ?_;intros;refine ze (zaW (D:=λr _=>r=0) (zoU l u p k) (.cons (zbz rfl rfl (by omega)) (.cons (zwl k) .nil)) (.inl rfl)) ?_
 cases y:l.findIdx? p with
 |none=>
  have e:l.filter (λx=> !p x)=l:=by rw[WM];intro x N;rw[WL]at y;simp[y x N]
  refine Gw1 @zbU.eq_1 ?_;intros;refine⟨.own 0 0 g 0 l.length,[(0,.row 1 (l.map cI) g)],1,?_,[],by rw[e],by rw[e,Wf],rfl⟩;exact(Xj [(0,0,0)] [] rfl rfl rfl Gin4_0 Gin4_0)
 |some i0=>
  rw[WK]at y;obtain⟨C,M,L⟩:=y;refine Gw0 ?_;intros;(refine zf (λh=>?_) (λh=>?_))<;>(try simp only[dcd]at h)
  .omega
  refine Gw0 ?_;intros;let K:=λj=>(l.take j).filter λx=> !p x
  have d:K (i0+1)=l.take i0:=by simp only[K];rw[filter_take_succ C,M];simp only[Bool.not_true,WN,if_false,Wf];rw[WM];intro x N;obtain⟨j,F,rfl⟩:=Wq.1 N;simp only[Wu]at F;rw[WG];simpa using L j (by omega)
  have o:∀j,i0<j->j<=l.length->(K j).length<j:=by
   intro j R z
   induction j with
   |zero=>omega
   |succ j ih=>
    by_cases F:j=i0
    .subst F;rw[d];simp;omega
    .have:=ih (by omega) (by omega);simp only[K]at this⊢;rw[filter_take_succ (show j<l.length by omega)];rw[WH];split<;>simp<;>omega
  have c:cur (K (i0+1)) l=l:=by rw[d];unfold cur;rw[Wu,Nat.min_eq_left (by omega),List.take_append_drop]
  have n:(K (i0+1)).length=i0:=by rw[d];simp;omega
  refine zd (λj:Nat=>([(0,.own 0 0 g 0 l.length),(1,u),(5,.int .i64 (K j).length),(6,.int .i64 j)],[(0,.row 1 ((cur (K j) l).map cI) g)])) 1 (λj=>i0<j/\j<=l.length) (λj=>l.length-j) (i0+1) ⟨by omega,by omega⟩ (Xj [(0,0,0)] [] rfl rfl rfl ?_ ?_) ?_
  .simp only[evWB,Xa,Xb,Xe,Xc,Xf,implies_true,c]
  .simp only[evWB,Xa,Xb,Xe,Xc,Xf,implies_true,n];exact zwl k
  intro j ⟨I,J⟩ wf;have P:=o j I J;refine dcU zcR.eq_1 ?_;refine Gw0 ?_;intros;(refine zf (λz=>?_) (λz=>?_))<;>(try simp only[dcd]at z)
  .have t:j<l.length:=by omega
   have b:K (j+1)=K j++if (!p l[j])=true then[l[j]]else[]:=filter_take_succ t
   have O:=o (j+1) (by omega) (by omega);have q:=zDC (K:=K j) (l:=l) (by omega)
   (repeat first|simp(disch:=try exact dis1) only[evD,Xa,Xb,Xc,zHl (K:=K j) (l:=l) (by omega) t]|with_reducible first|intro _|refine aJ ?_)
   refine zvq k ?_;refine Gw0 ?_;intros;(refine zf (λw=>?_) (λw=>?_))<;>(try simp only[dcd]at w)
   .rw[w]at b;simp only[Bool.not_false,if_true]at b;refine Gw0 ?_;intros;rw[zIO (by omega),<-b];exact⟨j+1,⟨by omega,by omega⟩,by omega,Xj [(0,0,0)] [] rfl rfl rfl (by simp only[evWB,Xa,Xb,Xe,Xc,Xf,implies_true]) (by simp only[evWB,Xa,Xb,Xe,Xc,Xf,implies_true,b];exact zwl k)⟩
   .have A:p l[j]=true:=by simpa using w
    rw[A]at b;simp only[Bool.not_true,WN,if_false,Wf]at b;refine Gw0 ?_;intros;rw[<-b];exact⟨j+1,⟨by omega,by omega⟩,by omega,Xj [(0,0,0)] [] rfl rfl rfl (by simp only[evWB,Xa,Xb,Xe,Xc,Xf,implies_true]) (by simp only[evWB,Xa,Xb,Xe,Xc,Xf,implies_true];exact zwl k)⟩
  .obtain rfl:j=l.length:=by omega
   have B:K l.length=l.filter λx=> !p x:=by simp only[K];rw[Wt]
   have q:=zDC (K:=K l.length) (l:=l) (by omega);refine dcU zcT.eq_1 ?_;have Q:(((l.length:Int)-(K l.length).length).toNat)=l.length-(K l.length).length:=by omega
   have s:((cur (K l.length) l).map cI).take (K l.length).length++Wz (l.length-(K l.length).length) [AV.int .i64 0]++((cur (K l.length) l).map cI).drop ((K l.length).length+(l.length-(K l.length).length))=(K l.length++Wz (l.length-(K l.length).length) 0).map cI:=by rw[List.drop_of_length_le (by rw[Xn,q];omega),Wf,<-List.map_take,Xp,WA];congr 2;unfold cur;rw[List.take_append_of_le_length (Wd _),Wt]
   refine Gw3 @zbU.eq_1 Q s ?_;intros;refine⟨.own 0 0 g 0 (l.filter λx=> !p x).length,[(0,.row 1 (((l.filter λx=> !p x)++Wz (l.length-(K l.length).length) 0).map cI) g)],1,?_,_,rfl,rfl,rfl⟩;rw[<-B];exact(Xj [(0,0,0)] [] rfl rfl rfl (by(try simp only[evWB,Xa,Xb,Xe,Xc,Xf,implies_true,WA])<;>exact fin4) (by(try simp only[evWB,Xa,Xb,Xe,Xc,Xf,implies_true,WA])<;>exact fin4))
end Go.Ab.Dm
