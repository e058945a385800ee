/-
  Part 24 of the proof: how the calls of this program run, over values instead of memory, and what each function computes.
-/
import Derived.KernelRfl
import Derived.Test.YtmlhipilbnjhiaaGreatQw
set_option maxRecDepth 100000
set_option linter.unusedVariables false
set_option linter.unusedSimpArgs false
set_option linter.unnecessarySimpa false
set_option linter.unusedSectionVars false
open Nat renaming reduceBEq->Xa,reduceAdd->Xb,reduceLeDiff->Xd,reduceSub->Xl,reduceLT->Xm
open Go.Ab.Bl renaming cells->Xc
open Go.Ab.AV renaming int->Xe,cells->Xk,ren->Xn,agg->Xp,lt0->Xr,solid->Xs,flat0->Xt,flat->Xu
open Go.Ab.Ent renaming tab->Xf,tabB->Xg,keep->Xo,low->Xw
open Go.Ab.AH renaming cutL->Xh,look_put->Xi,put->Xj,look->Xq,over->Xv
open Go.Proofs.Tryz renaming prog->Z9
open List renaming length_append→Wa,length_cons→Wd,range→We,length_singleton→Wf,append_nil→Wi,length_nil→Wj,map_nil→Wk,getElem_mem→Wl,replicate→Wn,map_cons→Wo,getD_eq_getElem?_getD→Wp,length_map→Wr,append_assoc→Wu,mem_singleton→Wv,mem_filter→Wz,take_length→WA,length_take→WB,getElem?_eq_getElem→WC,map_append→WD,all_eq_true→WF,getD_cons_succ→WG,getD_cons_zero→WH,take_zero→WK,getElem?_eq_some_iff→WM,mem_of_getElem?→WN,drop_eq_getElem_cons→WO,length_range→WP,take_succ_eq_append_getElem→WR,mem_append_right→WS,drop_of_length_le→WV,getLast?_eq_none_iff→WX,mem_of_getLast?→WY,drop_length→WZ
open And renaming intro→Wc
open Nat renaming zero_le→Wg,le_refl→Wh,blt→Wm,beq→Wq,le_antisymm→Ws,le_of_not_lt→Wt,blt_eq→Wx,lt_of_lt_of_le→WW
open Bool renaming and_false→Ww,true_and→Wy,false_eq_true→WE,and_true→WI,false_and→WJ,and_eq_true→WL,not_eq_true'→WU
open Int renaming toNat_natCast→WQ
namespace Go.Ab
open Go.RowKit Go.Proofs
def zol:ACode:=Z8 0x8000201610421224ca0400110512305133021004211c22213 []
def zor:List ARet:=[.tmp 4]
theorem zun:zM Z9 zfU (qRo [2])=some (zol.strip,zor,9):=by kernel_rfl
def zkT:ACode:=Z8 0x500d310821001060b00d2310007d310521001060800311400002fc61276040011012140b00a02d26133532701400cc31fc360150a00b0cc24133 []
def zkR:ACode:=Z8 0x0507410621001060902c231 []
def zkA:ACode:=Z8 0x19096250000082113000000021c901072218c24db021102121402900211025123021220252034c2223153070140009410c3601501105123090925133 [zkT,zkR]
def zkH:ACode:=.seq (.region [(oM 38 5),(oM 4 38)] [1,2,5,6,38]) (.ret)
def zom:ACode:=Z8 0x1909605000000113300000011330200004211c22213 [zkA,zkH]
attribute[irreducible]zkT zkR zkA zkH
def znR:List ARet:=[.tmp 4]
theorem zuE:zM Z9 zd7 (qRo [2])=some (zom.strip,znR,39):=by kernel_rfl
def znT:ACode:=Z8 0x7c00c310621001060900c2310000000005d9105219d813c0101001115c01101214090011051230806d2918d40000000000000000002b8c01010d702128632403211321214329032113251237e6210021276024002110216c1402110212140290021102512302110251332c222315307014000741a3601501105123090725133 []
def zoj:ACode:=.seq (.region [(oM 42 5),(oM 4 42)] [1,2,5,6,42]) (.ret)
def zsR:ACode:=Z8 0x19096050000001133016c011330216c4211c22213 [znT,zoj]
attribute[irreducible]znT zoj
def zth:List ARet:=[.tmp 4]
theorem zzP:zM Z9 zkq (qRo [2])=some (zsR.strip,zth,43):=by kernel_rfl
def zkL:ACode:=Z8 0x9c08c310721001060a08c231000000000000fd0c105213e813c0114e02001215c011012140a0011012140400900400800e20c12e40000000000000000000027cac01016d70219d8d37db321132121432a03211321214324032903240321132513303f6210021dc25efb021102121402a002110212140240029002542ac222315307014000001c614c36015011012140400900a01c27133 []
def zkh:ACode:=Z8 0xec013f3109210010600c013f231000000000000002ff2c1052133f813c0101001115c0110121400c00110134f14011012140b008009008030f22c132f40000000000000000000000000212ffc010124f70210c32125f24cb3211321214320c0321132126f14321132121432b03280329032807ff621002118f25efb0211021214020c0021102119f14021102121402b0028002900254215f222355347014000000000000000001f5c1010ef701286340311312143b038053f6100104f360150110105f14011012140b008009000c001f26c133 []
def zgp:ACode:=Z8 0x05e9310821001060b0fe231 []
def zks:ACode:=Z8 0x1909645ee10000921133532701400be31ee360150800b0be24133 [zkh,zgp]
def zkJ:ACode:=.seq (.region [(oM 121 5),(oM 4 121)] [1,2,5,6,8,121]) (.ret)
def zkn:ACode:=.seq (.seq (.region [(oK 8 0)] [7]) (.block 2 (.loop zks))) (zkJ)
def zoc:ACode:=Z8 0x1909605000000113300a31062116da012205203a2413016c011330216c4211c22213 [zkL,zkn]
attribute[irreducible]zkL zkh zgp zkn
def zn2:List ARet:=[.tmp 4]
theorem zuj:zM Z9 zfy (qRo [2])=some (zoc.strip,zn2,122):=by kernel_rfl
def zhs:ACode:=Z8 0x8c0cc310821001060b0cc231000000002e8105216e813c0101001115c011012140b00a00803e2815e400000000000000000002bc9c01018d702120cd707f62100186321dd232fb321132121432b032a0325420ef6210320001763215328007f62100210c0211d24cb021102121402b002a00290ec22231530701400000003c8101ac70000156315390bd610016c360150a00b03c29133 []
def ze0:ACode:=.seq (.region [(oM 54 5),(oM 4 54)] [2,5,6,7,8,54]) (.ret)
def zpE:ACode:=Z8 0x1909605000008211330000071705c0022c062212231fb0240025420212233fb02400254292223016c011330216c4211c22213 [zhs,ze0]
attribute[irreducible]zhs ze0
def zig:List ARet:=[.tmp 4]
theorem zwQ:zM Z9 zhl (qRo [2])=some (zpE.strip,zig,55):=by kernel_rfl
def zvg:ACode:=Z8 0x8043e241b581112a001024400000059c05003130833e231b5817001014400000059cae22131400553d76106e21ed760110a1237e24138353d4251b5818001014400000059c5e221314005cd4101e21ed760110a1132e24138303d4251b58140135fa0e22131400dd310cd21ed760110a103dd2413051d425001133080000ec21281b58112ad306fa0a32050074205131400000000000000000000000071ec1012d7010c31224ca350312230fa3403742be6100101cc70100176312232fa3503742fd61001017c7012863403505d6100127604001101214050011071330ec1332024400000059021c7211c42313 []
def zbF:List ARet:=[.cell 8 true 5]
theorem zB6:zM Z9 zfO (qRo [4,7])=some (zvg.strip,zbF,57):=by kernel_rfl
def zhi:List AOper:=[(oF 64 4 1 9),(oL 65 64),(oA 66 4 3),(oM 67 1),(oF 68 7 1 8),(oL 69 68),(oM 70 10),(oI 71 1 69 70),(oL 72 71),(oA 73 3 5),(oN 74 (.callq zfO [(.t 66),(.t 67),(.t 72),(.t 73)])),(oN 75 (.rbuildSl 5 1 [.int .i64 0,.int .i64 0,.int .i64 0,.nilsl,.nilsl] [(0,(.t 74))])),(oN 76 (.append 5 72 (.t 65) (.t 75))),(oF 77 4 1 9),(oS 1 77 76)]
def zmi:List (List Nat):=[[],[0],[],[],[],[4],[],[5,6],[7],[],[2,3,8,9],[10],[1,11,10],[0,1,2,3,4,5,6,7,8,9,10,11,12],[13,12,12,0,1,2,3,4,5,6,7,8,9,10,11,12]]
def zhR:List Nat:=[12,14]
def zoB:List (List Nat):=[[],[0],[],[],[],[4],[],[4,5,6],[4,5,6,7],[],[2,3,4,5,6,7,8,9],[2,3,4,5,6,7,8,9,10],[0,1,2,3,4,5,6,7,8,9,10,11],[0,1,2,3,4,5,6,7,8,9,10,11,12],[0,1,2,3,4,5,6,7,8,9,10,11,12,13]]
def znL:List (List Nat):=[[],[12],[12,14]]
def zgl:Plan:=[(0,[],[]),(1,[],[]),(2,[],[]),(3,[],[]),(4,[],[]),(5,[],[]),(6,[],[]),(7,[],[]),(8,[],[]),(9,[],[]),(10,[],[]),(11,[],[]),(12,[],[12]),(13,[12],[12]),(14,[12],[12,14])]
def zjI:ACode:=.seq (.seq (.region [(oM 57 10),(oF 58 7 1 8),(oL 59 58),(oE 60 59),(oB 61 .lss 57 60)] [57,58,59,60]) (.cond (.t 61) (.skip) (.exit 1))) (.seq (.block 2 (.draw (zcQ zhi zmi 15 (Wn 15 false)) [61,64,65,66,67,68,69,70,71,72,73,74,75,76,77])) (.region [(oM 62 10),(oC 63 .add 62 1),(oM 10 63)] [62,63]))
def zjC:ACode:=Z8 0x807f0021117195810c5212f2213 []
def zjK:ACode:=Z8 0x8213f2195811c001014400000059c16f2213 []
def zmq:ACode:=Z8 0x2908113f2195810c001014400000059c15f221314fcec4c211171013f2a000d7614f221319096150000001133001ecdc5fe15814400000059921136001024400000059c0110b163ae2513146c6d2108e28000d769e22138000000000000000184c2111ac10195813114cd133001034400000059c02112e02440000005258c02124e3e477fb02832021102b1430240026420212eddd477fb02832021102b133024002642021102b1638d2223148ec2106d27000d767d2213800000104c21110c19581124d3d477fa08320110b13304006420d271314fc110ec2600176fc221305cc11101103cc2213300000a77ec1881440300000000008982182019c8401001160150a00106c2813000000b710721101113012240400110111306203b28131024400000059021c5211c32313 [zjI,zjC,zjK]
attribute[irreducible]zjI zjC zjK
def zcU:List ARet:=[.cell 6 true 5]
theorem ztc:zM Z9 zdu (qRo [3,5,50,75])=some (zmq.strip,zcU,83):=by kernel_rfl
def zrH:ACode:=Z8 0x85430051938183202130000008008211818103011012140400300611400731a36015030040041332100000039057c52213 []
def zm8:List ARet:=[.cell 6 true 3]
theorem zw7:zM Z9 zbg (qRo [])=some (zrH.strip,zm8,17):=by kernel_rfl
def zoI:List AOper:=[(oM 24 9),(oA 25 4 4),(oM 26 2),(oM 27 10),(oI 28 1 26 27),(oL 29 28),(oM 30 2),(oM 31 10),(oC 32 .add 31 1),(oA 33 3 7),(oN 34 (.callq zbg [(.t 30),(.t 32),(.t 33)])),(oN 35 (.callq zds [(.t 25),(.t 29),(.t 34)])),(oN 36 (.rbuildSl 5 1 [.int .i64 0,.int .i64 0,.int .i64 0,.nilsl,.nilsl] [(0,(.t 35))])),(oN 37 (.append 5 72 (.t 24) (.t 36))),(oM 9 37)]
def znB:List (List Nat):=[[],[],[],[],[2,3],[4],[],[],[7],[],[6,8,9],[1,5,10,10],[11],[0,12,11],[13,13,0,1,2,3,4,5,6,7,8,9,10,11,12,13]]
def zhy:ACode:=.seq (.seq (.region [(oM 18 10),(oM 19 2),(oE 20 19),(oB 21 .lss 18 20)] [18,19,20]) (.cond (.t 21) (.skip) (.exit 0))) (.seq (.block 1 (.draw (zcQ zoI znB 15 (Wn 15 false)) [21,24,25,26,27,28,29,30,31,32,33,34,35,36,37])) (.region [(oM 22 10),(oC 23 .add 22 1),(oM 10 23)] [22,23]))
def zhB:ACode:=.seq (.region [(oM 38 9),(oM 8 38)] [2,4,7,9,10,38]) (.ret)
def zpX:ACode:=.seq (.region [(oN 4 (.rbox (.t 0))),(oN 7 (.rbox (.t 3))),(oN 8 (.mknil 5))] [0,3,8]) (.seq (.draw (.step (oM 12 1) (.step (oM 13 2) (.alt (oA 11 4 4) (.alt (oA 14 3 7) (.alt (oN 15 (.callq zbg [(.t 13),(.c (.int .i64 0)),(.t 14)])) (.step (oN 16 (.callq zdu [(.t 11),(.t 12),(.t 15)])) (.alt (oN 17 (.buildSl 5 1 [.int .i64 0,.int .i64 0,.int .i64 0,.nilsl,.nilsl] [(0,(.t 16))])) (.step (oM 9 17) (.done)) (.stop))) (.stop)) (.stop)) (.alt (oA 14 3 7) (.alt (oA 11 4 4) (.alt (oN 15 (.callq zbg [(.t 13),(.c (.int .i64 0)),(.t 14)])) (.step (oN 16 (.callq zdu [(.t 11),(.t 12),(.t 15)])) (.alt (oN 17 (.buildSl 5 1 [.int .i64 0,.int .i64 0,.int .i64 0,.nilsl,.nilsl] [(0,(.t 16))])) (.step (oM 9 17) (.done)) (.stop))) (.stop)) (.alt (oN 15 (.callq zbg [(.t 13),(.c (.int .i64 0)),(.t 14)])) (.alt (oA 11 4 4) (.step (oN 16 (.callq zdu [(.t 11),(.t 12),(.t 15)])) (.alt (oN 17 (.buildSl 5 1 [.int .i64 0,.int .i64 0,.int .i64 0,.nilsl,.nilsl] [(0,(.t 16))])) (.step (oM 9 17) (.done)) (.stop))) (.stop)) (.stop))) (.stop))))) [1,11,12,13,14,15,16,17]) (.seq (.seq (.region [(oK 10 0)] []) (.block 0 (.loop zhy))) (zhB)))
def zla:List ARet:=[.tmp 8]
theorem zwN:zM Z9 zg5 (qRo [4,7,36])=some (zpX.strip,zla,39):=by kernel_rfl
def zqd:ACode:=Z8 0x8000ceb51b5811144001024400000059c0101440000005155c01135fa01008f251300001cad071910b2120cf53c00c00101440000005155c01112001024400000059c04003f2613080000001e071a11101b581304f14113fe115001044400000059c02f2200f1ee22101440000005155c031101b581311401f13fe115001044400000059c0203f01440000005155c01f2300f1ee231135fa0311101b581311401f13fe115001044400000059c02101440000005155c0302f135fa00f2300f1ee230c0fe221c133024002230000005e7215810009e540152000015401101c14300c007131400000000000000000000000000003c42d1011e7070018631131103300015431131c14319f61001019d7070017631131103310015431131c14309f61001014d7030017631131c103fe6100100176015011011130122404001101113072038c22d133005c3ac15814400000059a215200001540105c2513000044271092124c3c434fa0a3205004007420c26132024400000059021c7211c42313 []
def zd8:List ARet:=[.cell 8 true 5]
theorem zwO:zM Z9 zfj (qRoL [4,7] [(5,[0,1,2,3,5,6,7,8,9,10,11,12,13,14,15,16,17,18,19,20,21,22,23,24,25,26,27,28,29,30,31,32,33,34,35,36,37,38,39,40,41,42,43,44,45,46,47,48,49,50,51,52,53,54,55,56,57,58,59,60,61,62,63,64,65,66,67,68,69,70,71,72,73,74,75,76,77,78,79,80,81,82,83,84,85,86,87,88,89,90,91,92,93,94,95,96,97,98,99,100,101,102,103,104,105,106,107,108,109,110,111,112,113,114,115,116,117,118,119,120,121,122,123,124,125,126,127,128,129,130,131,132,133,134,135,136,137,138,139,140,141,142,143,144,145,146,147,148,149])])=some (zqd.strip,zd8,72):=by kernel_rfl
def zov:ACode:=Z8 0x3c0bc310a210010601c0bc23100000000cd8109210e813c0101001115c0110121401c00b000c0dd281fd4000000000000002ac4c01017d70210c3218d24cb3211321214321c032b032a005f6210021001860210d232fb0211021214021c002b002642dc222315307014007c31ac360150b001c07c24133 []
def zqS:List AOper:=[(oM 90 11),(oA 91 4 3),(oM 92 7),(oM 93 12),(oI 94 1 92 93),(oL 95 94),(oM 96 7),(oM 97 12),(oC 98 .add 97 1),(oA 99 3 5),(oN 100 (.callq zbg [(.t 96),(.t 98),(.t 99)])),(oN 101 (.callq zds [(.t 91),(.t 95),(.t 100)])),(oN 102 (.rbuildSl 5 1 [.int .i64 0,.int .i64 0,.int .i64 0,.nilsl,.nilsl] [(0,(.t 101))])),(oN 103 (.append 5 72 (.t 90) (.t 102))),(oM 11 103)]
def zpG:List (List Nat):=[[],[],[],[],[2,3],[4],[],[],[7],[],[6,8,9],[1,5,10,10],[11],[0,12,11],[13,13,0,1,2,3,4,5,6,7,8,9,10,11,12,13]]
def zjS:ACode:=.seq (.seq (.region [(oM 84 12),(oM 85 7),(oE 86 85),(oB 87 .lss 84 86)] [84,85,86]) (.cond (.t 87) (.skip) (.exit 2))) (.seq (.block 3 (.draw (zcQ zqS zpG 15 (Wn 15 false)) [87,90,91,92,93,94,95,96,97,98,99,100,101,102,103])) (.region [(oM 88 12),(oC 89 .add 88 1),(oM 12 89)] [88,89]))
def zjX:ACode:=Z8 0x801ff031137195811135fa02c02cf2313 []
def zj5:ACode:=.seq (.region [(oM 48 1),(oN 49 (.build [.int .i64 0,.int .i64 0,.int .i64 0,.nilsl,.nilsl] [(0,1,(.c (.int .i64 10))),(2,1,(.t 48))])),(oN 50 (.buildSl 5 1 [.int .i64 0,.int .i64 0,.int .i64 0,.nilsl,.nilsl] [(0,(.t 49))])),(oM 11 50)] [8,10,48,49,50]) (.seq (.seq (.region [(oA 51 4 3),(oM 52 1),(oN 53 (.call zfy [(.t 51),(.t 52)])),(oE 54 53),(oC 55 .eql 54 0)] [51,52,53,54]) (.cond (.t 55) (.seq (.region [(oM 56 11),(oM 57 1),(oN 58 (.build [.int .i64 0,.int .i64 0,.int .i64 0,.nilsl,.nilsl] [(0,1,(.c (.int .i64 2))),(1,1,(.t 57))])),(oN 59 (.rbuildSl 5 1 [.int .i64 0,.int .i64 0,.int .i64 0,.nilsl,.nilsl] [(0,(.t 58))])),(oN 60 (.append 5 72 (.t 56) (.t 59))),(oM 11 60)] [7,55,56,57,58,59,60]) (.seq (.region [(oM 61 11),(oA 62 4 3),(oM 63 1),(oM 64 9),(oA 65 3 5),(oN 66 (.call zg5 [(.t 62),(.t 63),(.t 64),(.t 65)])),(oN 67 (.append 5 72 (.t 61) (.t 66))),(oM 11 67)] [1,3,5,9,61,62,63,64,65,66,67]) (.seq (.region [(oM 68 11),(oN 69 (.call zeR [(.t 68)])),(oS 5 6 69)] [11,68,69]) (.ret)))) (.skip))) (.seq (.draw (.step (oM 70 11) (.step (oM 72 1) (.step (oM 73 9) (.step (oM 74 1) (.step (oM 75 1) (.step (oM 76 7) (.alt (oA 71 4 3) (.alt (oA 77 3 5) (.alt (oN 78 (.callq zbg [(.t 76),(.c (.int .i64 0)),(.t 77)])) (.step (oN 79 (.fld 0 1 false (.t 78))) (.step (oN 80 (.build [.int .i64 0,.int .i64 0,.int .i64 0] [(0,1,(.t 74)),(1,1,(.t 75)),(2,1,(.t 79))])) (.step (oN 81 (.callq zfj [(.t 71),(.t 72),(.t 73),(.t 80)])) (.step (oN 82 (.rbuildSl 5 1 [.int .i64 0,.int .i64 0,.int .i64 0,.nilsl,.nilsl] [(0,(.t 81))])) (.alt (oN 83 (.append 5 72 (.t 70) (.t 82))) (.step (oM 11 83) (.done)) (.stop)))))) (.stop)) (.stop)) (.alt (oA 77 3 5) (.alt (oA 71 4 3) (.alt (oN 78 (.callq zbg [(.t 76),(.c (.int .i64 0)),(.t 77)])) (.step (oN 79 (.fld 0 1 false (.t 78))) (.step (oN 80 (.build [.int .i64 0,.int .i64 0,.int .i64 0] [(0,1,(.t 74)),(1,1,(.t 75)),(2,1,(.t 79))])) (.step (oN 81 (.callq zfj [(.t 71),(.t 72),(.t 73),(.t 80)])) (.step (oN 82 (.rbuildSl 5 1 [.int .i64 0,.int .i64 0,.int .i64 0,.nilsl,.nilsl] [(0,(.t 81))])) (.alt (oN 83 (.append 5 72 (.t 70) (.t 82))) (.step (oM 11 83) (.done)) (.stop)))))) (.stop)) (.alt (oN 78 (.callq zbg [(.t 76),(.c (.int .i64 0)),(.t 77)])) (.step (oN 79 (.fld 0 1 false (.t 78))) (.step (oN 80 (.build [.int .i64 0,.int .i64 0,.int .i64 0] [(0,1,(.t 74)),(1,1,(.t 75)),(2,1,(.t 79))])) (.alt (oA 71 4 3) (.step (oN 81 (.callq zfj [(.t 71),(.t 72),(.t 73),(.t 80)])) (.step (oN 82 (.rbuildSl 5 1 [.int .i64 0,.int .i64 0,.int .i64 0,.nilsl,.nilsl] [(0,(.t 81))])) (.alt (oN 83 (.append 5 72 (.t 70) (.t 82))) (.step (oM 11 83) (.done)) (.stop)))) (.stop)))) (.stop))) (.stop))))))))) [1,9,55,70,71,72,73,74,75,76,77,78,79,80,81,82,83]) (.seq (.seq (.region [(oK 12 0)] []) (.block 2 (.loop zjS))) (zjX))))
def zt1:ACode:=.seq (.region [(oN 3 (.rbox (.t 0))),(oN 5 (.rbox (.t 2))),(oN 6 (.alloc [.int .i64 0,.int .i64 0,.int .i64 0,.nilsl,.nilsl]))] [0,2]) (.seq (.draw (.step (oA 13 4 3) (.step (oM 14 1) (.step (oN 15 (.callq zhl [(.t 13),(.t 14)])) (.step (oA 16 4 3) (.step (oM 17 1) (.step (oN 18 (.callq zkq [(.t 16),(.t 17)])) (.step (oM 7 15) (.step (oM 8 18) (.done))))))))) [13,14,15,16,17,18]) (.seq (.region [(oN 9 (.mknil 1))] []) (.seq (.seq (.region [(oK 10 0)] []) (.block 0 (.loop zov))) (.mark 3 (zj5)))))
def ziY:List ARet:=[.cell 6 true 5]
theorem zzB:zM Z9 zds (qRo [3,5,59,82,102])=some (zt1.strip,ziY,106):=by kernel_rfl
def zmX:ACode:=Z8 0x4c00c310621001060900c231000000000002db105216d0cf53c0101440000005158c012207fa040015201254090011051430800b1140000000000000002b5c120cc701dc24ca311311233125439031135143340ed6100b001860110110301254090011051432c25c1315307014000741a3601501105143090725133 []
def zmG:ACode:=Z8 0x8cd2217581552021306d0315211815143080dd2313 []
def zrf:ACode:=Z8 0x19096050000001133056c01130144000000594217c22213 [zmX,zmG]
attribute[irreducible]zmX zmG
def zq2:List ARet:=[.cell 4 true 5]
theorem zx3:zM Z9 zgq (qRo [39])=some (zrf.strip,zq2,44):=by kernel_rfl
def zjO:List AOper:=[(oA 13 2 1),(oA 14 2 1),(oN 15 (.callq zlB [(.t 14)])),(oA 16 2 1),(oN 17 (.callq zno [(.t 16)])),(oN 18 (.build [.int .u32 0,.nilsl,.nilsl,.nilsl] [(0,2,(.t 13)),(2,1,(.t 15)),(3,1,(.t 17))])),(oN 5 (.alloc [.int .u32 0,.nilsl,.nilsl,.nilsl])),(oS 4 5 18)]
def zoJ:List (List Nat):=[[],[],[1],[],[3,2],[0,2,4],[],[6,5,4,0,1,2,3,4,5,6]]
def zkM:List Nat:=[6,7]
def zrQ:List (List Nat):=[[],[],[1],[],[1,2,3],[0,1,2,3,4],[],[0,1,2,3,4,5,6]]
def zql:List (List Nat):=[[],[6],[6,7]]
def ziZ:Plan:=[(0,[],[]),(0,[6],[6]),(1,[],[]),(1,[6],[6]),(2,[],[]),(2,[6],[6]),(3,[],[]),(3,[6],[6]),(4,[],[]),(4,[6],[6]),(5,[],[]),(6,[],[6]),(7,[6],[6,7])]
def zrF:ACode:=.seq (.region [(oN 1 (.rbox (.t 0))),(oN 2 (.alloc [.int .i64 0,.int .i64 0,.int .i64 0,.nilsl,.nilsl])),(oK 3 0)] [0,3]) (.seq (.region [(oA 7 2 1),(oN 8 (.call ze1 [(.t 7)])),(oM 4 8)] [7,8]) (.seq (.seq (.region [(oM 9 4),(oC 10 .neq 9 0)] [9]) (.cond (.t 10) (.seq (.region [(oN 11 (.build [.int .i64 0,.int .i64 0,.int .i64 0,.nilsl,.nilsl] [])),(oM 12 4),(oS 5 2 11),(oM 3 12)] [1,4,10,11,12]) (.ret)) (.skip))) (.seq (.draw (zcQ zjO zoJ 8 (Wn 8 false)) [1,3,4,10,13,14,15,16,17,18]) (.seq (.region [(oA 19 4 5),(oN 20 (.build [.int .i64 0,.int .i64 0,.int .i64 0] [(0,1,(.c (.int .i64 (-1)))),(1,1,(.c (.int .i64 (-1)))),(2,1,(.c (.int .i64 (-1))))])),(oN 21 (.call zds [(.t 19),(.c (.int .i64 0)),(.t 20)])),(oN 6 (.alloc [.int .i64 0,.int .i64 0,.int .i64 0,.nilsl,.nilsl])),(oS 5 6 21)] [5,19,20,21]) (.seq (.draw (.step (oA 22 5 6) (.step (oA 23 5 6) (.step (oN 24 (.callq zfX [(.t 23)])) (.step (oN 25 (.callq zgq [(.t 22),(.t 24)])) (.alt (oS 5 2 25) (.step (oK 3 0) (.done)) (.stop)))))) [6,22,23,24,25]) (.ret))))))
def zmz:List ARet:=[.cell 2 true 5,.tmp 3]
theorem zyf:zM Z9 zk1 (qRo [1])=some (zrF.strip,zmz,26):=by kernel_rfl
def shR(g:G):List AV:=[.int .u32 g.addr,encL 2 Xc g.blocks,zb (ordE (eG g)),za (Dm.treeL (eG g))]
theorem Qh{p q:Prop}(k:q)(h:Im q p:=by(repeat first|simp(disch:=try exact dis1) only[evD,Nat.reduceBEq,Nat.reduceAdd,Nat.reduceLeDiff,encP,zb,za]|((with_reducible apply Im.i);intro _)|((with_reducible apply Im.a);omega));exact Im.r):p:=h k
theorem zot(g:G)(b:Nat):zn Z9 zfU [.agg (shR g),.int .i64 (b:Int)] (·=.bool (decide (b∈ordE (eG g)))):=by refine fn_x zun rfl ?_;unfold zol shR;(conv in Z8 _ _=>reduce);have c:=hBig;refine Qh ?_;intros;refine ze (zc (Dm.R24_HasN_ok _ b) rfl) ?_;refine Gw1 @zor.eq_1 ?_;intros;exact bzO
theorem Qj{p q:Prop}(k:q)(h:Im q p:=by(repeat first|simp(disch:=try exact dis1) only[evD,Nat.reduceBEq,Nat.reduceAdd,Nat.reduceLeDiff,dF,encP,zb,za]|((with_reducible apply Im.i);intro _)|((with_reducible apply Im.a);omega));exact Im.r):p:=h k
theorem zj3(g:G)(v:OkB g)(b:Nat):zn Z9 zd7 [.agg (shR g),.int .i64 (b:Int)] (·=.int .i64 (cntE (eG g) b:Int)):=by
 refine fn_x zuE rfl ?_;unfold zom shR;(conv in Z8 _ _=>reduce);have S:=hBig;have L:=zL v;have B:=zeg (g:=g);have R:=zvI v;have Q:=v.small.1;have y:g.toG.blocks.length=g.blocks.length:=by simp[G.toG]
 rw[y]at Q;have t:=λb (M:b<g.blocks.length)=>Dm.R24_Edges_ok g.toG v.small b (by rw[y];exact M)
 simp only[G.toG_cells]at t;have z:=λk=>zBK v k
 have D:[.int .u32 g.addr,encL 2 Xc g.blocks]=g.cells:=rfl;refine Qh ?_;intros;refine zd (λi:Nat=>([(1,.int .i64 (b:Int)),(2,encP 4 [.int .u32 g.addr,encL 2 Xc g.blocks,zb (ordE (eG g)),za (Dm.treeL (eG g))]),(5,.int .i64 (ctE (eG g) i b:Int)),(6,.int .i64 i)],[])) 0 (λi=>i<=(ordE (eG g)).length) (λi=>(ordE (eG g)).length-i) 0 (Wg _) ?start ?_;case start=>simp only[zwL];exact Xo rfl fin5
 intro i O wf;clear wf;refine dcU zkA.eq_1 ?_;have I:=zDF z (b:=b) i;by_cases c:i<(ordE (eG g)).length;case neg=>have F:i=(ordE (eG g)).length:=Ws O (Wt c);subst F;rw[zEV];refine Qj ?_;intros;unfold zkH;refine Gw1 @znR.eq_1 ?_;intros;exact izO
 have s:=zaT L (Wl c);rw[B]at s;have o:=zv1 (E:=eG g) c (b:=b);have w:((ordE (eG g)).map λ(n:Nat)=>[Xe .i64 (n:Int)]).getD i []=[.int .i64 ((ordE (eG g))[i]:Int)]:=zg (f:=cN) (d:=[]) c;generalize (ordE (eG g))[i]=x at s o w;have h:=t x s;have A:=z x;have J:i*1000<=1000*1000:=Nat.mul_le_mul_right _ (by omega);change zn _ _ _ (·=zb (Dm.suc (eG g) x))at h;generalize Dm.suc (eG g) x=m at h A o;refine Gw6 @dT @ua @ub w D @ud ?_;intros;refine zC (zc h rfl) ?_;refine Qh ?_;intros;refine zd (λj:Nat=>([(1,.int .i64 (b:Int)),(2,encP 4 [.int .u32 g.addr,encL 2 Xc g.blocks,zb (ordE (eG g)),za (Dm.treeL (eG g))]),(5,.int .i64 (ct2 (eG g) i (m.take j) b:Int)),(6,.int .i64 i),(7,zb m),(8,.int .i64 j)],[])) 0 (λj=>j<=m.length) (λj=>m.length-j) 0 (Wg _) ?start ?_;case start=>simp only[WK,zBh];exact Xo rfl fin5
 intro j P wf;clear wf;refine dcU zkT.eq_1 ?_;by_cases q:j<m.length;case neg=>have H:j=m.length:=Ws P (Wt q);subst H;rw[WA,<-o];refine Qj ?_;intros;refine dcU zkR.eq_1 ?_;refine Qh ?_;intros;exact⟨i+1,by omega,by omega,Xo rfl fin5⟩
 have e:ct2 (eG g) i (m.take (j+1)) b=ct2 (eG g) i (m.take j) b+if m[j]=b then 1 else 0:=by unfold ct2;rw[WR q,List.count_append,List.count_singleton];simp[Nat.add_assoc]
 have p:(m.map λ(n:Nat)=>[Xe .i64 (n:Int)]).getD j []=[.int .i64 (m[j]:Int)]:=zg (f:=cN) (d:=[]) q;have N:ct2 (eG g) i (m.take j) b<=1001*1000:=by unfold ct2;have:=List.count_le_length (a:=b) (l:=m.take j);rw[WB]at this;omega
 generalize m[j]=u at e p;by_cases K:u=b
 .rw[if_pos K]at e;have C:((ct2 (eG g) i (m.take (j+1)) b:Nat):Int)=(ct2 (eG g) i (m.take j) b:Int)+1:=by omega
  refine Gw5 @dT @ua @ub p @ud ?_;intros;exact⟨j+1,by omega,by omega,by rw[C];exact Xo rfl fin5⟩
 .rw[if_neg K]at e;refine Gw6 @dT @dF @ua @ub p @ud ?_;intros;exact⟨j+1,by omega,by omega,by rw[e];exact Xo rfl fin5⟩
theorem zEJ{g:G}(b:OkB g){k:Nat}(d:k∈ordE (eG g)):(Dm.treeL (eG g)).getD k (-1)≠(k:Int):=λh=>by obtain⟨T,D⟩:=Dm.dtree_ex (zL b).ok (zL b).pos;rw[zsf (zL b) D (zaT (zL b) d)]at h;have c:=(zt6 (zL b)).1 h;have:=(D.wt.up k k c).2.2.1;omega
theorem ztR(g:G)(u:OkB g)(b:Nat):zn Z9 zkq [.agg (shR g),.int .i64 (b:Int)] (·=zb (zaQ (eG g) b)):=by
 refine fn_x zzP rfl ?_;unfold zsR shR;(conv in Z8 _ _=>reduce);have J:=hBig;have B:=zL u;have m:=zeg (g:=g);have F:=zvI u;have D:=u.small.1;have v:g.toG.blocks.length=g.blocks.length:=by simp[G.toG]
 rw[v]at D;have H:(Dm.treeL (eG g)).length=g.blocks.length:=by simp[Dm.treeL,m]
 have o:kdE (eG g) 0 b=[]:=by rw[zAS]
 refine Qh ?_;intros;refine zd (λs:Nat×Nat=>([(1,.int .i64 (b:Int)),(2,encP 4 [.int .u32 g.addr,encL 2 Xc g.blocks,zb (ordE (eG g)),za (Dm.treeL (eG g))]),(5,.own 0 0 s.2 0 (kdE (eG g) s.1 b).length),(6,.int .i64 s.1)],[(0,.row 1 ((kdE (eG g) s.1 b).map cN) s.2)])) 1 (λs=>s.1<=(ordE (eG g)).length) (λs=>(ordE (eG g)).length-s.1) (0,0) (Wg _) ?start ?_;case start=>exact(Xf [(0,1,0)] [] rfl (Gin1_3 o @uj @uh) (Gin1_3 o @uj @uh))
 rintro⟨i,γ⟩ hi wf;simp only at hi;clear wf;refine dcU znT.eq_1 ?_;have C:=zDO (E:=eG g) (i:=i) (b:=b);by_cases e:i<(ordE (eG g)).length;case neg=>have w:i=(ordE (eG g)).length:=Ws hi (Wt e);subst w;rw[zFC]at *;refine Qj ?_;intros;unfold zoj;refine Gw1 @zth.eq_1 ?_;intros;exact⟨_,zbX trivial rfl (by omega),rfl⟩
 have t:=Wl e;have q:=zaT B t;rw[m]at q;have k:=zEJ u t;have c:kdE (eG g) (i+1) b=kdE (eG g) i b++if (Dm.treeL (eG g)).getD (ordE (eG g))[i] (-1)=(b:Int)then[(ordE (eG g))[i]]else[]:=by unfold kdE;rw[Dm.filter_take_succ e];simp
 have h:((ordE (eG g)).map λ(n:Nat)=>[Xe .i64 (n:Int)]).getD i []=[.int .i64 ((ordE (eG g))[i]:Int)]:=zg (f:=cN) (d:=[]) e;generalize (ordE (eG g))[i]=x at q c h k;have p:x<(Dm.treeL (eG g)).length:=by omega
 have j:((Dm.treeL (eG g)).map λn=>[Xe .i64 n]).getD x []=[.int .i64 (Dm.treeL (eG g))[x]]:=zg (f:=cI) (d:=[]) p;have z:(Dm.treeL (eG g)).getD x (-1)=(Dm.treeL (eG g))[x]:=by simp[Wp,p]
 rw[z]at c k;generalize (Dm.treeL (eG g))[x]=y at j c k;by_cases A:y=(b:Int)
 .rw[if_pos A]at c;have I:¬((x:Int)=(b:Int)):=by omega
  refine Gw7 @dT @dF @ua @ub @ud h j ?_;intros;exact⟨(i+1,γ+1),by simp only;omega,by simp only;omega,by rw[c];exact(Xf [(0,0,0)] [] rfl (Gin1_6 @m9A @m9P @ui @uh @m9C @uj) (Gin1_6 @m9A @m9P @ui @uh @m9C @uj))⟩
 .rw[if_neg A,Wi]at c;refine Gw7 @dT @dF @ua @ub @ud h j ?_;intros;exact⟨(i+1,γ),by simp only;omega,by simp only;omega,by rw[c];exact(Xf [(0,0,0)] [] rfl Gin1_0 Gin1_0)⟩
def addN(E:Dm.Adj)(out:List Nat)(p:Nat):List Nat:=if (decide (p∈ordE E) && !decide (p∈out))=true then out++[p]else out
def zuw(E:Dm.Adj)(b:Nat):Nat->Nat->List Nat->List Nat
 |0,_,out=>out
 |f+1,i,out=>if i<out.length then zuw E b f (i+1) (if out.getD i 0=b then out else(Dm.suc (Dm.predL E) (out.getD i 0)).foldl (addN E) out)else out
def natL(E:Dm.Adj)(b:Nat):List Nat:=zuw E b (3*E.length+1) 0 (nat0 E b (Dm.suc (Dm.predL E) b))
def NatB(E:Dm.Adj)(b:Nat)(out:List Nat):Prop:=∃l,out=nat0 E b (Dm.suc (Dm.predL E) b)++l/\l.Nodup/\∀x∈l,x<E.length
section
variable {E:Dm.Adj}{last:Nat->St}{b:Nat}
theorem NatB.len{out:List Nat}(h:NatB E b out):out.length<=3*E.length:=by obtain⟨l,rfl,c,d⟩:=h;have e:=zm9 c d;have g:=zA2 (E:=E) (b:=b) (l:=Dm.suc (Dm.predL E) b);have j:=zpj (E:=E) (b:=b);rw[Wa];omega
theorem NatB.start:NatB E b (nat0 E b (Dm.suc (Dm.predL E) b)):=⟨[],by simp,List.nodup_nil,λx h=>by cases h⟩
theorem NatB.add{out:List Nat}{p:Nat}(h:NatB E b out)(n:p<E.length)(m:p∉out):NatB E b (out++[p]):=by
 obtain⟨l,rfl,e,g⟩:=h;refine⟨l++[p],by rw[Wu],?_,λx d=>?_⟩
 .rw[List.nodup_append];refine⟨e,by simp,λa j c k=>?_⟩;rw[Wv.1 k];rintro rfl;exact m (WS _ j)
 .rcases List.mem_append.1 d with d|d
  .exact g x d
  .rw[Wv.1 d];exact n
structure NatS(E:Dm.Adj)(b i:Nat)(out:List Nat):Prop where
 inv:NatI E b i out
 bnd:NatB E b out
theorem NatS.add1(g:EdgeOk E last){i:Nat}{out:List Nat}(h:NatS E b i out)(j:i<out.length){x y:Nat}(k:x∈out)(d:x≠b)(e:x∈Dm.suc E y):NatS E b i (addN E out y):=by
 unfold addN;split
 .rename_i c;rw[WL,decide_eq_true_eq,WU,decide_eq_false_iff_not]at c;exact⟨h.inv.add g j k d c.1 e,h.bnd.add (zaT g c.1) c.2⟩
 .exact h
theorem zEs{out:List Nat}{p x:Nat}(h:x∈out):x∈addN E out p:=by
 unfold addN;split
 .exact List.mem_append_left _ h
 .exact h
theorem zHT{out:List Nat}{p:Nat}(h:p∈ordE E):p∈addN E out p:=by
 unfold addN;split
 .exact WS _ (by simp)
 .rename_i c;rw[WL,decide_eq_true_eq,WU,decide_eq_false_iff_not,not_and,Classical.not_not]at c;exact c h
theorem zBQ{out:List Nat}{p i:Nat}{x:Nat}(h:out[i]?=some x):(addN E out p)[i]?=some x:=by
 unfold addN;split
 .have c:=(WM.1 h).1;rw[List.getElem?_append_left c];exact h
 .exact h
theorem NatS.row(j:EdgeOk E last){i x:Nat}(e:x≠b):∀(l:List Nat)(out:List Nat),NatS E b i out->out[i]?=some x->(∀y∈l,x∈Dm.suc E y)->NatS E b i (l.foldl (addN E) out)/\(l.foldl (addN E) out)[i]?=some x/\(∀y,y∈out->y∈l.foldl (addN E) out)/\∀y∈l,y∈ordE E->y∈l.foldl (addN E) out
 |[],out,h,d,_=>⟨h,d,λ_ h=>h,λy c=>by cases c⟩
 |
  p::l,out,h,d,hl=>by
  have q:=(WM.1 d).1;have s:x∈out:=WN d;obtain⟨m,n,g,o⟩:=NatS.row j e l (addN E out p) (h.add1 j q s e (hl p List.mem_cons_self)) (zBQ d) (λy c=>hl y (List.mem_cons_of_mem _ c));refine⟨m,n,λy c=>g y (zEs c),λy c k=>?_⟩;rcases List.mem_cons.1 c with rfl|c
  .exact g _ (zHT k)
  .exact o y c k
theorem NatS.step(n:EdgeOk E last){i:Nat}{out:List Nat}(h:NatS E b i out)(p:i<out.length):NatS E b (i+1) (if out.getD i 0=b then out else(Dm.suc (Dm.predL E) (out.getD i 0)).foldl (addN E) out):=by
 have d:out[i]?=some (out.getD i 0):=by rw[Wp,WC p];rfl
 generalize out.getD i 0=x at d⊢;split
 .rename_i j;exact⟨h.inv.next d λg=>absurd j g,h.bnd⟩
 .rename_i j;have c:=h.inv.lt x (WN d);obtain⟨m,g,_,o⟩:=NatS.row n j (Dm.suc (Dm.predL E) x) out h d λy e=>((Dm.mem_predL c).1 e).2
  exact⟨m.inv.next g λ_ y e k=>o y ((Dm.mem_predL c).2 ⟨zaT n e,k⟩) e,m.bnd⟩
theorem NatS.done(c:EdgeOk E last):∀(f i:Nat)(out:List Nat),NatS E b i out->3*E.length<f+i->NatS E b (zuw E b f i out).length (zuw E b f i out)
 |
  0,i,out,h,hf=>by
  have:=h.bnd.len;exact⟨⟨h.inv.inl,h.inv.lt,h.inv.src,h.inv.head,λj x e=>h.inv.pre j x (by rw[zuw]at e;omega)⟩,h.bnd⟩
 |
  f+1,i,out,h,hf=>by
  rw[zuw];split
  .rename_i d;exact NatS.done c f (i+1) _ (h.step c d) (by omega)
  .rename_i d;exact⟨⟨h.inv.inl,h.inv.lt,h.inv.src,h.inv.head,λj x e=>h.inv.pre j x (by omega)⟩,h.bnd⟩
theorem zGg(c:EdgeOk E last)(d:b<E.length):NatS E b (natL E b).length (natL E b):=NatS.done c _ 0 _ ⟨NatI.start c d,NatB.start⟩ (by omega)
theorem zwM(c:EdgeOk E last)(d:b<E.length){x:Nat}:x∈natL E b↔zhz E b=true/\zgi E b x:=(zGg c d).inv.done c
theorem zBG(c:EdgeOk E last)(d:b<E.length):(natL E b).length<=3*E.length:=(zGg c d).bnd.len
theorem zxG(c:EdgeOk E last)(d:b<E.length)(h:zhz E b=true):0<(natL E b).length:=List.length_pos_of_mem ((zwM c d).2 ⟨h,.inl rfl⟩)
theorem zGp(c:EdgeOk E last)(d:b<E.length)(h:zhz E b=false):(natL E b).length=0:=by rw[List.length_eq_zero_iff,List.eq_nil_iff_forall_not_mem];intro x e;have:=((zwM c d).1 e).1;rw[h]at this;cases this
end
theorem Qt{p:Prop}(h:p:=by(try simp only[evWB,Nat.reduceBEq,Nat.reduceAdd,Nat.reduceSub,Nat.reduceLeDiff,Nat.reduceLT,implies_true,Dm.encNN,List.take_zero,nat0,List.flatMap_nil,List.map_nil,List.length_nil])<;>exact fin1):p:=h
theorem Qm{p:Prop}(h:p:=by(try simp only[evWB,Nat.reduceBEq,Nat.reduceAdd,Nat.reduceSub,Nat.reduceLeDiff,Nat.reduceLT,implies_true,Dm.encNN])<;>exact fin1):p:=h
theorem Qu{p:Prop}(h:p:=by(try simp only[evWB,Nat.reduceBEq,Nat.reduceAdd,Nat.reduceSub,Nat.reduceLeDiff,Nat.reduceLT,implies_true,Dm.encNN,List.length_append,List.map_append,List.length_cons,List.length_nil,List.map_cons,List.map_nil])<;>exact fin1):p:=h
theorem znX(g:G)(hg:OkB g)(b:Nat)(hb:b<g.blocks.length):zn Z9 zfy [.agg (shR g),.int .i64 (b:Int)] (·=zb (natL (eG g) b)):=by
 refine fn_x zuj rfl ?_;refine dcU zoc.eq_1 ?_;have hB:=hBig;have hE:=zL hg;have M:=zeg (g:=g);have hn:=hg.small.1;have hgl:g.toG.blocks.length=g.blocks.length:=by simp[G.toG]
 rw[hgl]at hn;have hP:=Dm.R24_Predecessors_ok g.toG hg.small;rw[G.toG_cells]at hP;change zn _ _ _ (·=Dm.encNN (Dm.predL (eG g)))at hP;have hpl:(Dm.predL (eG g)).length=g.blocks.length:=by rw[Dm.predL_len,M]
 have Q:∀x,x<g.blocks.length->((Dm.predL (eG g)).map λr=>[encL 1 (λ(n:Nat)=>[Xe .i64 (n:Int)]) r]).getD x []=[encL 1 (λ(n:Nat)=>[Xe .i64 (n:Int)]) (Dm.suc (Dm.predL (eG g)) x)]:=λx hx=>by rw[zg (by omega)];unfold Dm.suc;rw[Wp,WC (by omega)];rfl
 have hgc:[.int .u32 g.addr,encL 2 Xc g.blocks]=g.cells:=rfl;have hsh:[.int .u32 g.addr,encL 2 Xc g.blocks,zb (ordE (eG g)),za (Dm.treeL (eG g))]=shR g:=rfl;have htl:(Dm.treeL (eG g)).length<=1000:=by simp[Dm.treeL,M];omega
 have W:=λx=>zpj (E:=eG g) (b:=x)
 have t:=Q b hb;have X:=W b;have hmb:=λ{p}=>Dm.mem_predL (E:=eG g) (b:=b) (a:=p) (by omega)
 unfold shR;refine Gw4 @ub @ud hgc @ua ?_;intros;refine ze (zc hP rfl) ?_;generalize T:Dm.suc (Dm.predL (eG g)) b=z at t X hmb;refine Qh ?_;intros;refine zd (λs:Nat×Nat=>([(1,.int .i64 (b:Int)),(2,encP 4 [.int .u32 g.addr,encL 2 Xc g.blocks,zb (ordE (eG g)),za (Dm.treeL (eG g))]),(5,.own 0 0 s.2 0 (nat0 (eG g) b (z.take s.1)).length),(6,Dm.encNN (Dm.predL (eG g))),(7,.int .i64 s.1)],[(0,.row 1 ((nat0 (eG g) b (z.take s.1)).map cN) s.2)])) 1 (λs=>s.1<=z.length) (λs=>z.length-s.1) (0,0) (Wg _) ?start ?_;case start=>exact(Xf [(0,1,0)] [] rfl Qt Qt)
 rintro⟨k,γ⟩ Z wf;simp only at Z;clear wf;refine dcU zkL.eq_1 ?_;have hnl:=zA2 (E:=eG g) (b:=b) (l:=z.take k);rw[WB]at hnl;by_cases u:k<z.length
 case pos=>
  have w:=zGi (E:=eG g) (b:=b) u;have c:(z.map λ(n:Nat)=>[Xe .i64 (n:Int)]).getD k []=[.int .i64 (z[k]:Int)]:=zg (f:=cN) (d:=[]) u;have L:=Wl u;generalize z[k]=p at w c L;have J:=zot g p;have hDo:=Dm.R24_Dominates_ok (Dm.treeL (eG g)) b p htl
  (repeat first|simp(disch:=try exact dis1) only[evD,Xa,Xb,Xd,dT,encP,Dm.encNN,t,zb,c,za]|with_reducible first|intro _|refine aJ ?_)
  refine zC (zc J rfl) ?_;by_cases I:p∈ordE (eG g)
  case neg=>
   have e:natP (eG g) b p=false:=by unfold natP;rw[decide_eq_false I];rfl
   rw[e]at w;rw[decide_eq_false I]
   (repeat first|simp(disch:=try exact dis1) only[evD,Xa,Xb,Xd,dT,dF,encP,Dm.encNN,t,zb,c,za]|with_reducible first|intro _|refine aJ ?_)
   exact⟨(k+1,γ),by simp only;omega,by simp only;omega,by rw[w];exact(Xf [(0,0,0)] [] rfl (by(try simp only[evWB,Xa,Xb,Xl,Xd,Xm,implies_true,Dm.encNN,WE,if_false,Wi])<;>exact fin1) (by(try simp only[evWB,Xa,Xb,Xl,Xd,Xm,implies_true,Dm.encNN,WE,if_false,Wi])<;>exact fin1))⟩
  rw[decide_eq_true I]
  (repeat first|simp(disch:=try exact dis1) only[evD,Xa,Xb,Xd,dT,dF,encP,Dm.encNN,t,zb,c,za]|with_reducible first|intro _|refine aJ ?_)
  refine zC (zc hDo rfl) ?_;have e:natP (eG g) b p=Dm.domL (Dm.treeL (eG g)) b p:=by unfold natP;rw[decide_eq_true I];rfl
  rw[e]at w
  cases hd:Dm.domL (Dm.treeL (eG g)) b p with
  |false=>
   rw[hd]at w
   (repeat first|simp(disch:=try exact dis1) only[evD,Xa,Xb,Xd,dT,dF,encP,Dm.encNN,t,zb,c,za]|with_reducible first|intro _|refine aJ ?_)
   exact⟨(k+1,γ),by simp only;omega,by simp only;omega,by rw[w];exact(Xf [(0,0,0)] [] rfl (by(try simp only[evWB,Xa,Xb,Xl,Xd,Xm,implies_true,Dm.encNN,WE,if_false,Wi])<;>exact fin1) (by(try simp only[evWB,Xa,Xb,Xl,Xd,Xm,implies_true,Dm.encNN,WE,if_false,Wi])<;>exact fin1))⟩
  |true=>
   rw[hd]at w
   (repeat first|simp(disch:=try exact dis1) only[evD,Xa,Xb,Xd,dT,dF,encP,Dm.encNN,t,zb,c,za]|with_reducible first|intro _|refine aJ ?_)
   exact⟨(k+1,γ+1),by simp only;omega,by simp only;omega,by rw[w];exact(Xf [(0,0,0)] [] rfl (by(try simp only[evWB,Xa,Xb,Xl,Xd,Xm,implies_true,Dm.encNN,if_true,Wa,WD,Wd,Wj,Wo,Wk])<;>exact fin1) (by(try simp only[evWB,Xa,Xb,Xl,Xd,Xm,implies_true,Dm.encNN,if_true,Wa,WD,Wd,Wj,Wo,Wk])<;>exact fin1))⟩
 have hke:k=z.length:=Ws Z (Wt u);subst hke;rw[WA]at *
 (repeat first|simp(disch:=try exact dis1) only[evD,Xa,Xb,Xd,dF,encP,Dm.encNN,t,zb,za]|with_reducible first|intro _|refine aJ ?_)
 unfold zkn;refine Qh ?_;intros;have hS0:NatS (eG g) b 0 (nat0 (eG g) b z):=by rw[<-T];exact⟨NatI.start hE (by omega),NatB.start⟩
 have N:zuw (eG g) b (3*(eG g).length+1) 0 (nat0 (eG g) b z)=natL (eG g) b:=by rw[<-T];rfl
 generalize hR:natL (eG g) b=R at N⊢;refine zd (λs:Nat×Nat×List Nat=>([(1,.int .i64 (b:Int)),(2,encP 4 [.int .u32 g.addr,encL 2 Xc g.blocks,zb (ordE (eG g)),za (Dm.treeL (eG g))]),(5,.own 0 0 s.2.1 0 s.2.2.length),(6,Dm.encNN (Dm.predL (eG g))),(8,.int .i64 s.1)],[(0,.row 1 (s.2.2.map cN) s.2.1)])) 1 (λs=>NatS (eG g) b s.1 s.2.2/\s.1<=s.2.2.length/\zuw (eG g) b (3*(eG g).length+1-s.1) s.1 s.2.2=R) (λs=>3*(eG g).length+1-s.1) (0,γ,nat0 (eG g) b z) ⟨hS0,Wg _,N⟩ ?start ?_;case start=>exact(Xf [(0,0,0)] [] rfl Qm Qm)
 rintro⟨i,γ,out⟩ ⟨O,hi,F⟩ wf;simp only at O hi F;clear wf;refine dcU zks.eq_1 ?_;have hol:=O.bnd.len;by_cases H:i<out.length
 case neg=>
  have e:3*(eG g).length+1-i=(3*(eG g).length-i)+1:=by omega
  rw[e,zuw,if_neg H]at F;subst F;refine Qj ?_;intros;unfold zkJ;refine Gw1 @zn2.eq_1 ?_;intros;exact⟨_,zbX trivial rfl (by omega),rfl⟩
 have e:3*(eG g).length+1-i=(3*(eG g).length+1-(i+1))+1:=by omega
 have A:=O.step hE H;rw[e,zuw,if_pos H]at F;have K:out[i]?=some (out.getD i 0):=by rw[Wp,WC H];rfl
 generalize hxe:out.getD i 0=x at F A K;have hxm:x∈out:=WN K;have hxl:=O.inv.lt x hxm;have j:=Q x (by omega);have Y:=W x;have U:=λ{p}=>Dm.mem_predL (E:=eG g) (b:=x) (a:=p) hxl
 generalize hlx:Dm.suc (Dm.predL (eG g)) x=D at j Y U F A;have hgm:∀o:List Nat,o[i]?=some x->(o.map λ(n:Nat)=>[Xe .i64 (n:Int)]).getD i []=[.int .i64 (x:Int)]:=λo ho=>by rw[Wp,List.getElem?_map,ho];rfl
 have P:∀o:List Nat,o[i]?=some x->(o.map cN).getD i []=[.int .i64 (x:Int)]:=hgm;refine Gw4 @dT @ua @ub @ud ?_;intros;refine zd (λs:Nat×Nat×List Nat=>([(1,.int .i64 (b:Int)),(2,encP 4 [.int .u32 g.addr,encL 2 Xc g.blocks,zb (ordE (eG g)),za (Dm.treeL (eG g))]),(5,.own 0 0 s.2.1 0 s.2.2.length),(6,Dm.encNN (Dm.predL (eG g))),(8,.int .i64 i),(9,.int .i64 s.1)],[(0,.row 1 (s.2.2.map cN) s.2.1)])) 1 (λs=>s.1<=D.length/\s.2.2[i]?=some x/\NatB (eG g) b s.2.2/\(if x=b then s.2.2 else(D.drop s.1).foldl (addN (eG g)) s.2.2)=(if x=b then out else D.foldl (addN (eG g)) out)) (λs=>D.length-s.1) (0,γ,out) ⟨Wg _,K,O.bnd,rfl⟩ ?start ?_;case start=>exact(Xf [(0,0,0)] [] rfl Qm Qm)
 rintro⟨k,γ,o⟩ ⟨Z,y,B,v⟩ wf;simp only at Z y B v;clear wf;have hoil:=(WM.1 y).1;have q:=P o y;have hobl:=B.len;refine dcU zkh.eq_1 ?_;by_cases S:k<D.length/\x≠b
 case neg=>
  have hoe:o=(if x=b then out else D.foldl (addN (eG g)) out):=by
   rw[<-v];by_cases m:x=b
   .rw[if_pos m]
   .rw[if_neg m,WV (by omega)];rfl
  rw[<-hoe]at A F;by_cases u:k<D.length
  .have m:x=b:=Classical.byContradiction λh=>S ⟨u,h⟩
   have hxi:(x:Int)=(b:Int):=by omega
   (repeat first|simp(disch:=try exact dis1) only[evD,Xa,Xb,Xd,dT,dF,encP,Dm.encNN,q,j,zb,za]|with_reducible first|intro _|refine aJ ?_)
   refine dcU zgp.eq_1 ?_;refine Qh ?_;intros;exact⟨(i+1,γ,o),⟨A,by simp only;omega,F⟩,by simp only;omega,(Xf [(0,0,0)] [] rfl Qm Qm)⟩
  ·(repeat first|simp(disch:=try exact dis1) only[evD,Xa,Xb,Xd,dT,dF,encP,Dm.encNN,q,j,zb,za]|with_reducible first|intro _|refine aJ ?_)
   refine dcU zgp.eq_1 ?_;refine Qh ?_;intros;exact⟨(i+1,γ,o),⟨A,by simp only;omega,F⟩,by simp only;omega,(Xf [(0,0,0)] [] rfl Qm Qm)⟩
 obtain⟨u,m⟩:=S;have hxi:¬(x:Int)=(b:Int):=by omega
 rw[if_neg m,if_neg m,WO u,List.foldl_cons]at v;have c:(D.map λ(n:Nat)=>[Xe .i64 (n:Int)]).getD k []=[.int .i64 (D[k]:Int)]:=zg (f:=cN) (d:=[]) u;have L:=(U.1 (Wl u)).1;generalize D[k]=p at v c L;have J:=zot g p
 (repeat first|simp(disch:=try exact dis1) only[evD,Xa,Xb,Xd,dT,dF,encP,Dm.encNN,q,j,zb,c,za]|with_reducible first|intro _|refine aJ ?_)
 refine zC (zc J rfl) ?_;by_cases I:p∈ordE (eG g)
 case neg=>
  have e:addN (eG g) o p=o:=by unfold addN;rw[decide_eq_false I];rfl
  rw[e]at v;rw[decide_eq_false I]
  (repeat first|simp(disch:=try exact dis1) only[evD,Xa,Xb,Xd,dT,dF,encP,Dm.encNN,q,j,zb,c,za]|with_reducible first|intro _|refine aJ ?_)
  exact⟨(k+1,γ,o),⟨by simp only;omega,y,B,by simp only;rw[if_neg m,if_neg m];exact v⟩,by simp only;omega,(Xf [(0,0,0)] [] rfl Qm Qm)⟩
 rw[decide_eq_true I]
 (repeat first|simp(disch:=try exact dis1) only[evD,Xa,Xb,Xd,dT,dF,encP,Dm.encNN,q,j,zb,c,za]|with_reducible first|intro _|refine aJ ?_)
 refine zC (Dm.hasN_own (l:=o) rfl (by omega)) ?_;by_cases C:p∈o
 .have e:addN (eG g) o p=o:=by unfold addN;rw[decide_eq_true C,Bool.not_true,Ww];rfl
  rw[e]at v;rw[decide_eq_true C]
  (repeat first|simp(disch:=try exact dis1) only[evD,Xa,Xb,Xd,dT,dF,encP,Dm.encNN,q,j,zb,c,za]|with_reducible first|intro _|refine aJ ?_)
  exact⟨(k+1,γ,o),⟨by simp only;omega,y,B,by simp only;rw[if_neg m,if_neg m];exact v⟩,by simp only;omega,(Xf [(0,0,0)] [] rfl Qm Qm)⟩
 .have e:addN (eG g) o p=o++[p]:=by unfold addN;rw[decide_eq_true I,decide_eq_false C];rfl
  have e2:=zBQ (E:=eG g) (p:=p) y;rw[e]at v e2;have V:=B.add (by omega) C;rw[decide_eq_false C]
  (repeat first|simp(disch:=try exact dis1) only[evD,Xa,Xb,Xd,dT,dF,encP,Dm.encNN,q,j,zb,c,za]|with_reducible first|intro _|refine aJ ?_)
  exact⟨(k+1,γ+1,o++[p]),⟨by simp only;omega,e2,V,by simp only;rw[if_neg m,if_neg m];exact v⟩,by simp only;omega,(Xf [(0,0,0)] [] rfl Qu Qu)⟩
theorem ztS{ρ:Nat->Nat}{a:AV}(h:a.flat=true):a.ren ρ=a:=by
 have key:∀l:List AV,l.all Xt=true->l.map (Xn ρ)=l:=λl b=>by
  conv=>rhs;rw[<-List.map_id l]
  exact List.map_congr_left λx c=>zcS (WF.1 b x c)
 cases a<;>first|exact zcS h|(simp only[Xn,key _ h])
theorem zH8{n:Nat}{a:AV}(h:a.flat0=true):a.lt0 n=true:=by cases a<;>first|rfl|(cases h;done)
theorem zBd{n:Nat}{a:AV}(h:a.flat=true):a.lt1 n=true:=by
 have key:∀l:List AV,l.all Xt=true->l.all (Xr n)=true:=λl d=>WF.2 λx e=>zH8 (WF.1 d x e)
 cases a with
 |agg l=>exact key l h
 |tup l=>exact key l h
 |undef=>rfl
 |int k n=>rfl
 |bool b=>rfl
 |str s=>rfl
 |nilp=>rfl
 |iptr n c=>rfl
 |sl g n f=>rfl
 |nilsl=>rfl
 |nilfn=>rfl
 |nilmp=>rfl
 |cut=>rfl
 |_=>cases h
theorem zF5{H b:AH}{σ:Nat->Nat->Option (Nat×Nat×Nat)}{D:Nat->Nat->Prop}{t:Bool}:∀{l:List AV},l.all Xu=true->VwL H b σ D t l l
 |[],_=>trivial
 |
  a::l,h=>by
  rw[List.all_cons,WL]at h;exact⟨zV h.1,zF5 h.2⟩
structure TOk(nx:Nat)(T:AH):Prop where
 two:2<=nx
 cut:T.cutL [0,1]=T
 num:∀r o,T.look r=some o->2<=r
 low:zen nx T
theorem TOk.nil:TOk 2 []:=⟨Wh _,rfl,λr o h=>(by cases h),trivial⟩
theorem zlA{n:Nat}:∀{A B:AH},zen n A->zen n B->zen n (A++B)
 |[],B,_,h=>h
 |(_,.row ..)::A,B,b,c=>⟨b.1,zlA b.2 c⟩
 |(_,.fam ..)::A,B,b,c=>⟨b.1,zlA b.2 c⟩
def zke(g:G)(f:FuncId)(b:List AV)(a:AV):Prop:=∀(T:AH)(nx:Nat),TOk nx T->zS Z9 f (.ptr 0 0 0 0 0::b) (bldH g T) nx (λv H n=>v=a/\H=bldH g T/\n=nx)
theorem zhb{g:G}{f:FuncId}{rest:List AV}{a:AV}(h:zS Z9 f (.ptr 0 0 0 0 0::rest) (bldH g []) 2 (λv H n=>v=a/\H=bldH g []/\n=2))(z:rest.all Xu=true)(y:a.flat=true):zke g f rest a:=by
 intro T nx p;have K:=p.two
 have b:∀r,r<2->T.look r=none:=λr z=>by
  cases D:T.look r with
  |none=>rfl
  |some o=>have:=p.num r o D;omega
 refine zaA (zS.mono (Q:=λv q w=>v=a/\(∀r,q.look r=(bldH g T).look r)/\w=nx) ?_ (λv q w ⟨d,B,C⟩=>⟨v,bldH g T,nx,?_,d,rfl,rfl⟩))
 .refine zH3 nx (Nat.ble_eq_true_of_le (Wh _)) ?_;refine zbL [(0,0,0),(1,1,0)] 2 _ h rfl ?_ ?_ ?_ ?_
  .show (Wm 0 nx&&Wq 0 0 && !(memN _ 0)&&(Wm 1 nx&&Wq 0 0 && !(memN _ 1)&&true))=true;have A:Wm 0 nx=true:=by rw[Wx];omega
   have d:Wm 1 nx=true:=by rw[Wx];omega
   rw[A,d];rfl
  .unfold bldH;refine⟨rfl,⟨_,rfl,?_⟩,rfl,⟨_,rfl,RowV.of_flat zI⟩,trivial⟩;rw[zwu];exact⟨.int _ _ _,zV rfl,zV rfl,zV rfl,.mp _ _ _ _ rfl,trivial⟩
  .exact⟨.ptr _ _ _ 0 _ _ _ _ _ rfl rfl,zF5 z⟩
  .rintro v q w ⟨rfl,rfl,rfl⟩;rw[ztS y];have k:Tab.to [(0,0,0),(1,1,0)] nx 0=0:=rfl;have m:Tab.to [(0,0,0),(1,1,0)] nx 1=1:=rfl
   have u:Xv (bldH g T) [(0,0,0),(1,1,0)] nx (bldH g [])=T++bldH g []:=by
    unfold Xv bldH;have t:Xh (List.map (λx=>x.2.1) [((0:Nat),(0:Nat),(0:Nat)),(1,1,0)]) ((0,AObj.row 5 [[.int .u32 g.addr,encL 2 Xc g.blocks,Dm.encNN ((We g.blocks.length).map (zaQ (eG g))),zb ((We g.blocks.length).map (cntE (eG g))),.mp 1 0]] 0)::(1,.row 3 (boM (eG g) (hdL (eG g))) 0)::T)=T:=by show Xh [0,1] _=T;rw[Xh,Xh];exact p.cut
    rw[t];have F:∀ρ,Xn ρ (encL 2 Xc g.blocks)=encL 2 Xc g.blocks:=λρ=>zcS rfl
    have I:∀ρ l,Xn ρ (Dm.encNN l)=Dm.encNN l:=λρ l=>zcS rfl
    have J:∀ρ l,Xn ρ (zb l)=zb l:=λρ l=>zcS rfl
    simp only[AH.renL,k,m,AObj.ren,zgL zI,Wo,Wk,Xn,F,I,J]
   rw[u]
   have s:zen nx (bldH g []):=by
    unfold bldH;refine⟨⟨by omega,λc t=>?_⟩,⟨by omega,zaf zI⟩,trivial⟩;rw[Wv.1 t];have d:Wm 1 nx=true:=by rw[Wx];omega
    show(true&&(true&&(true&&(true&&(Wm 1 nx&&true)))))=true;rw[d];rfl
   refine⟨⟨zBd y,zlA p.low s⟩,rfl,λr=>?_,rfl⟩;rw[AH.look_append];unfold bldH;simp only[Xq];by_cases e:r=0
   .subst e;rw[b 0 (by omega)]
   .by_cases j:r=1
    .subst j;rw[b 1 (by omega)]
    .rw[zbc (Ne.symm e),zbc (Ne.symm j)];simp only[cond_false];cases T.look r<;>rfl
 .subst C;exact Ent.same (Wh _) (λr=>(B r).symm) ⟨rfl,trivial⟩
theorem TOk.base{n:Nat}(h:2<=n):TOk n []:=⟨h,rfl,λr o h=>(by cases h),trivial⟩
theorem TOk.cons{n r p g:Nat}{b:List (List AV)}{T:AH}(j:2<=r)(k:r<n)(m:zqT n b)(h:TOk n T):TOk n ((r,.row p b g)::T):=by
 refine⟨h.two,?_,λx o d=>?_,⟨⟨k,m⟩,h.low⟩⟩
 .have e:memN [0,1] r=false:=by unfold memN memN memN;rw[zbc (by omega),zbc (by omega)];rfl
  simp only[Xh,e,cond_false,h.cut]
 .simp only[Xq]at d;by_cases c:r=x
  .subst c;exact j
  .rw[zbc c]at d;exact h.num x o d
theorem zF{n:Nat}{c:List AV}(h:c.all (Xr n)=true):zqT n [c]:=λd hd=>by rw[Wv.1 hd];exact h
theorem zdS{n:Nat}{l:List Nd}:zqT n (l.map encN):=zaf (zE λ_=>zp)
theorem zp4{T:AH}{N:Nat}{x:AObj}:(T.put N x).look N=some x:=by rw[Xi,if_pos rfl]
theorem zFN{g:G}{n:Nat}(e:2<=n):zen n (bldH g []):=by
 unfold bldH;refine⟨⟨by omega,λc d=>?_⟩,⟨by omega,zaf zI⟩,trivial⟩;rw[Wv.1 d];have b:Wm 1 n=true:=by rw[Wx];omega
 show(true&&(true&&(true&&(true&&(Wm 1 n&&true)))))=true;rw[b];rfl
theorem zet{g:G}{T:AH}{nx:Nat}{v a:AV}(d:Vw (bldH g T) (bldH g []) (zrV 2) (λr _=>2<=r) true v a):ztU 2 (λv H n=>v=a/\H=bldH g []/\n=2) v (bldH g T) nx:=by
 refine⟨a,bldH g [],2,Ent.lowF (Wh _) (λr o h=>?_) (zFN (Wh _)) ⟨d,trivial⟩,rfl,rfl,rfl⟩;unfold bldH at h⊢;simp only[Xq]at h⊢
 cases c:Wq 0 r with
 |true=>rw[c]at h;exact h
 |false=>
  rw[c]at h
  cases b:Wq 1 r with
  |true=>rw[b]at h;exact h
  |false=>rw[b]at h;cases h
theorem zse{H:AH}{nx:Nat}{v:AV}(j:v.solid=true)(g:v.cells=[v])(c:zen nx H)(k:v.lt0 nx=true)(e:H.look nx=none):
  zS Z9 zZ [v] H nx (λx d n=>x=.agg [.int .i64 1,.int .i64 0,.int .i64 0,.nilsl,v]/\d=H/\n=nx):=by
 refine zaA (fn_x zl1 rfl ?_);refine dcU zhw.eq_1 ?_;have m:=hBig;have b:splice [AV.nilsl] 0 [v]=[v]:=rfl;refine Gw8 j g b e @zp4 @ui @uh @zhr.eq_1 ?_;intros;refine⟨_,H,nx,Xw (Wh _) (λr o h=>?_) c ⟨⟨rfl,?_⟩,trivial⟩,rfl,rfl,rfl⟩
 .have p:=(zcn c h).1;rw[Xi,if_neg (by omega),Xi,if_neg (by omega)];exact h
 .show (true&&(true&&(true&&(true&&(v.lt0 nx&&true)))))=true;rw[k];rfl
def ctxA(c:Ctx):AV:=.agg [.int .i64 c.f,.int .i64 c.h,.int .i64 c.x]
theorem zjk(l:List Nat)(c:Ctx):zn Z9 zbi [zb l,ctxA c] (·=ctxA (zap l c)):=by
 refine fn_x zpT rfl ?_;unfold zjy ctxA;(conv in Z8 _ _=>reduce);have d:=hBig
 cases l with
 |nil=>refine Gw2 @ub @uh ?_;intros;refine Gw2 @dF @zfw.eq_1 ?_;intros;exact⟨_,zV rfl,rfl⟩
 |cons a l=>
  have b:((a::l).map λ(n:Nat)=>[Xe .i64 (n:Int)]).getD 0 []=[.int .i64 (a:Int)]:=rfl;refine Gw2 @ub @ui ?_;intros
  (repeat first|simp(disch:=try exact dis1) only[evD,Xa,Xb,Xd,dT,b,Int.toNat_zero,zfw]|with_reducible first|intro _|refine aJ ?_)
  exact⟨_,zV rfl,rfl⟩
theorem zBM{g:G}(d:OkB g){k:Nat}(e:k<g.blocks.length):0<(blG g k).stmts.length/\((blG g k).stmts.map St.cells).getD ((blG g k).stmts.length-1) []=(zgs g k).cells:=by have b:=d.ne _ (zes e);have c:0<(blG g k).stmts.length:=List.length_pos_iff.2 b;refine⟨c,?_⟩;rw[zg (by omega)];unfold zgs;rw[List.getLast?_eq_getElem?,WC (by omega)];rfl
theorem zoG(g:G)(m:OkB g)(k:Nat)(e:k<g.blocks.length):zke g zbJ [.int .i64 k] (.agg (zgs g k).cells):=by
 refine zhb ?_ rfl (by rfl);refine zaA (fn_x zjV rfl ?_);unfold zeQ bldH;(conv in Z8 _ _=>reduce);have q:=hBig;obtain⟨p,n⟩:=zBM m e;have o:=m.stm _ (zes e);have j:(g.blocks.map Xc).getD k []=(blG g k).cells:=by rw[zg e,zoL e]
 have h:(blG g k).cells=[.int .u32 (blG g k).addr,encL 8 St.cells (blG g k).stmts]:=rfl;have b:((((blG g k).stmts.length:Nat):Int)-1).toNat=(blG g k).stmts.length-1:=by omega
 have c:=(zgs g k).len;have d:=(zgs g k).eight;generalize zgs g k=s at n c d⊢;refine Gw8 j h b n c d @uf @zeT.eq_1 ?_;intros;exact zet (zV rfl)
theorem QA{d e g p:Prop}(a0:d)(b:e)(c:g)(h:d->e->g->p:=by intro a0 b c;(try simp only[evWB,Nat.reduceBEq,Nat.reduceAdd,Nat.reduceSub,Nat.reduceLeDiff,Nat.reduceLT,implies_true,a0,b,c])<;>(repeat' with_reducible apply And.intro)<;>first|(first|exact RowV.of_flat zI|exact zl rfl;done)|exact fin6):p:=h a0 b c
theorem QB{e g j k m n o p:Prop}(a0:e)(b:g)(c:j)(a3:k)(a4:m)(a5:n)(d:o)(h:e->g->j->k->m->n->o->p:=by intro a0 b c a3 a4 a5 d;(try simp only[evWB,Nat.reduceBEq,Nat.reduceAdd,Nat.reduceSub,Nat.reduceLeDiff,Nat.reduceLT,implies_true,a0,b,c,a3,a4,a5,d])<;>(repeat' with_reducible apply And.intro)<;>first|(first|exact RowV.of_flat zI|exact zl rfl;done)|exact fin6):p:=h a0 b c a3 a4 a5 d
theorem zhJ(g:G)(A:OkB g)(l:List Nat)(F:l.length<=1000)(z:∀x∈l,x<g.blocks.length):zke g zaP [zb l] (.tup [zb (plG (shpE (eG g) (zgs g) (oneG g)) l),zb (inG (shpE (eG g) (zgs g) (oneG g)) l)]):=by
 refine zhb ?_ rfl (by rfl);refine zaA (fn_x zje rfl ?_);unfold zek bldH;(conv in Z8 _ _=>reduce);have D:=hBig;generalize y:shpE (eG g) (zgs g) (oneG g)=S;have h:S.cnt=cntE (eG g):=by rw[<-y];rfl
 refine Gw1 @ub ?_;intros
 refine zd (λs:Nat×Nat×Nat=>([(0,.ptr 0 0 0 0 0),(4,.own 2 0 s.2.1 0 (plG S (l.take s.1)).length),(5,.own 3 0 s.2.2 0 (inG S (l.take s.1)).length),(8,zb l),(9,.int .i64 l.length),(10,.int .i64 s.1)],bldH g [(2,.row 1 ((plG S (l.take s.1)).map cN) s.2.1),(3,.row 1 ((inG S (l.take s.1)).map cN) s.2.2)])) 4
  (λs=>s.1<=l.length) (λs=>l.length-s.1) (0,0,0) (Wg _) ?start ?_
 case start=>have u:plG S (l.take 0)=[]:=rfl;have v:inG S (l.take 0)=[]:=rfl;unfold bldH;exact(Xg [(0,0,0),(1,1,0),(2,2,0),(3,3,0)] [] rfl rfl rfl (QA @ub u v) (QA @ub u v))
 rintro⟨i,γ,k⟩ hi wf;simp only at hi;clear wf;refine dcU zdm.eq_1 ?_;by_cases e:i<l.length
 case neg=>
  obtain rfl:i=l.length:=by omega
  rw[WA];have H:=zwb (S:=S) (l:=l);have I:=zFF (S:=S) (l:=l);unfold bldH;refine Gw1 @dF ?_;intros;refine dcU zdr.eq_1 ?_;refine Gw1 @zej.eq_1 ?_;intros;refine zet ?_;rw[zik];exact⟨zbX (Wh _) rfl (by omega),zbX (by show 2<=3;omega) rfl (by omega),trivial⟩
 have w:=z _ (Wl e);have b:=zGM (S:=S) e;have c:=zIn (S:=S) e;have j:(l.map λ(n:Nat)=>[Xe .i64 (n:Int)]).getD i []=[.int .i64 (l[i]:Int)]:=zg (f:=cN) (d:=[]) e;generalize l[i]=x at w b c j;have p:(((We g.blocks.length).map (cntE (eG g))).map λ(n:Nat)=>[Xe .i64 (n:Int)]).getD x []=[.int .i64 (cntE (eG g) x:Int)]:=by rw[zg (by simp;exact w)];simp
 have q:=zwb (S:=S) (l:=l.take i);have t:=zFF (S:=S) (l:=l.take i);rw[WB]at q t;rw[h]at b c;have C:=A.small.1;have B:g.toG.blocks.length=g.blocks.length:=by simp[G.toG]
 unfold bldH;refine Gw3 @dT @ub j ?_;intros
 (repeat first|simp(disch:=try exact dis1) only[evD,Xa,Xb,Xd,p,Wr,WP]|with_reducible first|intro _|refine aJ ?_)
 by_cases m:cntE (eG g) x=1
 .have o:((cntE (eG g) x:Nat):Int)=1:=by omega
  rw[if_pos m,Wi]at b;rw[if_pos m]at c;refine Gw1 @dT ?_;intros;exact⟨(i+1,γ,k+1),by simp only;omega,by simp only;omega,by rw[b,c];exact(Xg [(0,0,0),(1,1,0),(2,2,0),(3,3,0)] [] rfl rfl rfl (QB @ub @m9A @m9P @ui @uh @m9C @uj) (QB @ub @m9A @m9P @ui @uh @m9C @uj))⟩
 .have o:¬((cntE (eG g) x:Nat):Int)=1:=by omega
  rw[if_neg m]at b;rw[if_neg m,Wi]at c;refine Gw1 @dF ?_;intros;exact⟨(i+1,γ+1,k),by simp only;omega,by simp only;omega,by rw[b,c];exact(Xg [(0,0,0),(1,1,0),(2,2,0),(3,3,0)] [] rfl rfl rfl (QB @ub @m9A @m9P @ui @uh @m9C @uj) (QB @ub @m9A @m9P @ui @uh @m9C @uj))⟩
end Go.Ab
namespace Go.Ab
open Go.RowKit Go.Proofs Go.Ab.Dm
noncomputable abbrev shpG(g:G):Shp:=shpE (eG g) (zgs g) (oneG g)
def zsX(g:G)(b:Nat->Ctx->Nd)(x:Nat):Prop:=∀c,zke g zP [.int .i64 (x:Int),ctxA c] (.agg (encN (b x c)))
def wayI(b:Nat->Ctx->Nd)(inl:List Nat)(c:Ctx)(u:Nat):Nd:=if u∈inl then b u c else zgH c u
theorem zdw{H c:AH}{σ:Nat->Nat->Option (Nat×Nat×Nat)}{D:Nat->Nat->Prop}{t:Bool}{k b l:Int}:Vw H c σ D t (.agg [.int .i64 k,.int .i64 b,.int .i64 l,.nilsl,.nilsl]) (.agg (encN (zaq k b l))):=by unfold zaq;rw[zaF,zcX];exact⟨.int _ _ _,.int _ _ _,.int _ _ _,zf1,zf1,trivial⟩
theorem zpM(g:G)(j:Nat->Ctx->Nd)(inl:List Nat)(c:Ctx)(u:Nat)(e:∀x∈inl,zsX g j x):zke g zbV [.int .i64 (u:Int),zb inl,ctxA c] (.agg (encN (wayI j inl c u))):=by
 refine zhb ?_ rfl flA;refine zaA (fn_x zkt rfl ?_);unfold zfe bldH ctxA;(conv in Z8 _ _=>reduce);have o:=hBig;have b:=zcB inl u;refine Gw0 ?_;intros;refine ze (zc b rfl) ?_;unfold wayI;by_cases d:u∈inl
 .rw[if_pos d,decide_eq_true d];refine Gw1 @ua ?_;intros;refine zH (e u d c _ _ (TOk.cons (by omega) (by omega) (zF rfl) (TOk.base (by omega)))) ?_;rintro _ _ _ ⟨rfl,rfl,rfl⟩;unfold bldH;refine Gw2 @zy @zaz.eq_1 ?_;intros;exact zet (zV flA)
 rw[if_neg d,decide_eq_false d];unfold zgH;by_cases k:(u:Int)=c.f
 .rw[if_pos k];refine Gw2 @dT @ua ?_;intros;refine ze (zc zrY rfl) ?_;refine Gw2 @zy @zaz.eq_1 ?_;intros;exact zet (zV flA)
 rw[if_neg k];by_cases m:(u:Int)=c.h
 .rw[if_pos m];refine Gw4 @dT @dF @ua @zaz.eq_1 ?_;intros;exact zet zdw
 rw[if_neg m];by_cases n:(u:Int)=c.x
 .rw[if_pos n];refine Gw4 @dT @dF @ua @zaz.eq_1 ?_;intros;exact zet zdw
 rw[if_neg n];refine Gw4 @dT @dF @ua @zaz.eq_1 ?_;intros;exact zet zdw
theorem zGs{g:G}{T:AH}{n:Nat}{o:AObj}(b:2<=n):(bldH g T).put n o=bldH g (T.put n o):=by unfold bldH;simp only[Xj];rw[zbc (show 0≠n by omega),zbc (show 1≠n by omega)];rfl
theorem zxT{g:G}{T:AH}{n:Nat}(b:2<=n):(bldH g T).look n=T.look n:=by unfold bldH;simp only[Xq];rw[zbc (show 0≠n by omega),zbc (show 1≠n by omega)];rfl
theorem TOk.look{n:Nat}{T:AH}(h:TOk n T):T.look n=none:=by
 cases b:T.look n with
 |none=>rfl
 |some o=>have:=(zcn h.low b).1;omega
theorem zsG{n m:Nat}(h:n<=m){b:List (List AV)}(j:zqT n b):zqT m b:=λc g=>by have:=j c g;rw[WF]at this⊢;intro a e;have d:=this a e;cases a<;>simp only[Xr,Wx]at d⊢<;>first|rfl|omega|cases d
theorem zmC{n m:Nat}(h:n<=m):∀{T:AH},zen n T->zen m T
 |[],_=>trivial
 |(_,.row ..)::_,b=>⟨⟨WW b.1.1 h,zsG h b.1.2⟩,zmC h b.2⟩
 |(_,.fam ..)::_,b=>⟨⟨WW b.1.1 h,λp c=>zsG h (b.1.2 p c)⟩,zmC h b.2⟩
theorem zvU{l:List Nat}{n:Nat}{o:AObj}(b:memN l n=false):∀A:AH,(A.put n o).cutL l=(A.cutL l).put n o
 |
  []=>by
  simp only[Xj,Xh,b,cond_false]
 |
  (j,u)::t=>by
  by_cases c:j=n
  .subst c;simp only[Xj,Xh,b,cond_false,zbP,cond_true]
  .simp only[Xj,zbc c,cond_false,Xh]
   cases d:memN l j with
   |true=>simp only[cond_true];exact zvU b t
   |false=>simp only[cond_false,Xj,zbc c];rw[zvU b t]
theorem zoy{n r k g:Nat}{b:List (List AV)}(d:r<n)(c:zqT n b):∀{T:AH},zen n T->zen n (T.put r (.row k b g))
 |[],_=>⟨⟨d,c⟩,trivial⟩
 |
  (j,.row s e g0)::t,h=>by
  simp only[Xj];cases Wq j r
  .exact⟨h.1,zoy d c h.2⟩
  .exact⟨⟨d,c⟩,h.2⟩
 |
  (j,.fam s ins)::t,h=>by
  simp only[Xj];cases Wq j r
  .exact⟨h.1,zoy d c h.2⟩
  .exact⟨⟨d,c⟩,h.2⟩
theorem TOk.put{n k d:Nat}{b:List (List AV)}{T:AH}(h:TOk n T)(j:zqT (n+1) b):TOk (n+1) (T.put n (.row k b d)):=by
 have g:=h.two;refine⟨by omega,?_,λr o c=>?_,zoy (by omega) j (zmC (by omega) h.low)⟩
 .have e:memN [0,1] n=false:=by unfold memN memN memN;rw[zbc (by omega),zbc (by omega)];rfl
  rw[zvU e,h.cut]
 .rw[Xi]at c;split at c
  .rename_i e;subst e;exact g
  .exact h.num r o c
theorem zii{g:G}{T:AH}{n:Nat}(h:TOk n T):zen n (bldH g T):=by have b:=zFN (g:=g) h.two;unfold bldH at b⊢;exact⟨b.1,b.2.1,h.low⟩
theorem zm2(g:G)(e:Nat->Ctx->Nd)(inl:List Nat)(c:Ctx)(u:Nat)(k:∀x∈inl,zsX g e x)(T:AH)(nx:Nat)(b:TOk nx T)(p:Nat)(d:T.look p=some (.row 1 [[.ptr 0 0 0 0 0]] 0)):
  zS Z9 zu [.int .i64 (u:Int),.ptr p 0 0 0 0,encP 1 [zb inl],encP 3 [.int .i64 c.f,.int .i64 c.h,.int .i64 c.x]] (bldH g T) nx (λv H n=>v=.agg (encN (wayI e inl c u))/\H=bldH g T/\n=nx):=by
 refine zaA (fn_x zgt rfl ?_);refine dcU zcY.eq_1 ?_;have z:=hBig;have j:=b.two;have m:=b.num _ _ d;have y:=(zcn b.low d).1;have q:(bldH g T).look nx=none:=by rw[zxT j];exact b.look
 have s:∀o,((bldH g T).put nx o).look p=some (.row 1 [[.ptr 0 0 0 0 0]] 0):=λo=>by rw[Xi,if_neg (by omega),zxT m];exact d
 have t:=zpM g e inl c u k;generalize wayI e inl c u=w at t⊢;refine Gw4 q s @zp4 @ua ?_;intros;rw[zGs j];refine zH (t _ _ (b.put (zF rfl))) ?_;rintro _ _ _ ⟨rfl,rfl,rfl⟩;rw[<-zGs j];refine Gw5 q s @zp4 @zy @zc1.eq_1 ?_;intros;refine⟨_,bldH g T,nx,Xw (Wh _) (λr o h=>?_) (zii b) ⟨⟨rfl,?_⟩,trivial⟩,rfl,rfl,rfl⟩
 .have A:=(zcn (zii b) h).1;rw[Xi,if_neg (by omega),Xi,if_neg (by omega)];exact h
 .exact zBd flA
section
variable {z:List AV}{H:AH}{nx:Nat}
theorem rbX1{e:Ex}:zbu 5 1 z [(0,.agg (encX e))] H nx=⟨True,True,encL 5 encX [e],H,nx⟩:=by have h:(znJ 1 5 [(0,Xp (encX e))]/\(zc7 (Wn 1 z) [(0,.agg (encX e))]).all zz=true)=True:=eq_true ⟨by simp[znJ,Xk,zbI,Xs],by simp[zc7,Xk,zq]⟩;unfold zbu;rw[h];rfl
theorem rbN1{e:Nd}:zbu 5 1 z [(0,.agg (encN e))] H nx=⟨True,True,encL 5 encN [e],H,nx⟩:=by have h:(znJ 1 5 [(0,Xp (encN e))]/\(zc7 (Wn 1 z) [(0,.agg (encN e))]).all zz=true)=True:=eq_true ⟨by simp[znJ,Xk,zy,Xs],by simp[zc7,Xk,zp]⟩;unfold zbu;rw[h];rfl
theorem rbN2{a b:Nd}:zbu 5 2 z [(0,.agg (encN a)),(1,.agg (encN b))] H nx=⟨True,True,encL 5 encN [a,b],H,nx⟩:=by have h:(znJ 2 5 [(0,Xp (encN a)),(1,Xp (encN b))]/\(zc7 (Wn 2 z) [(0,.agg (encN a)),(1,.agg (encN b))]).all zz=true)=True:=eq_true ⟨by simp[znJ,Xk,zy,Xs],by simp[zc7,Xk,zp]⟩;unfold zbu;rw[h];rfl
end
theorem zp7{H b:AH}{σ:Nat->Nat->Option (Nat×Nat×Nat)}{D:Nat->Nat->Prop}{t:Bool}{r q g n:Nat}{l:List Nd}(h:n=l.length)(c:D r q)(e:H.get r q=some (.row 5 (l.map encN) g))(d:n<=big):Vw H b σ D t (.own r q g 0 n) (encL 5 encN l):=by subst h;exact zvC c e d
def wayZ(b:Nat->Ctx->Nd)(inl:List Nat)(c:Ctx)(t:Int):Nd:=if t.toNat∈inl then b t.toNat c else zgH c t
def trZ(s:St)(b:Nat->Ctx->Nd)(inl:List Nat)(c:Ctx):Nd :=
 if s.op=6 then wayZ b inl c s.next
 else if s.op=7 then .mk ⟨3,0,0⟩ s.e [wayZ b inl c s.next,wayZ b inl c s.els]
 else if s.op=8 then .mk ⟨6,0,0⟩ s.e (s.cases.map (wayZ b inl c))
 else if s.op=9 then zaq 11 0 0 else zaq 12 0 0
theorem zAH{S:Shp}{b:Nat->Ctx->Nd}{k:Nat}{c:Ctx}:trN S b k c=trZ (S.last k) b (inlL S k) c:=rfl
theorem zBR{b:Nat->Ctx->Nd}{inl:List Nat}{c:Ctx}{u:Nat}:wayZ b inl c (u:Int)=wayI b inl c u:=by unfold wayZ wayI;rw[WQ]
theorem zsN(g:G)(b:Nat->Ctx->Nd)(inl:List Nat)(c:Ctx)(t:Int)(n:0<=t)(d:∀x∈inl,zsX g b x)(T:AH)(nx:Nat)(m:TOk nx T)(e:T.look 2=some (.row 1 [[.ptr 0 0 0 0 0]] 0)){k:AV->AH->Nat->Prop}(j:k (.agg (encN (wayZ b inl c t))) (bldH g T) nx):
  zop Z9 (.fn (.func zu) [.ptr 2 0 0 0 0,encP 1 [zb inl],encP 3 [.int .i64 c.f,.int .i64 c.h,.int .i64 c.x]]) [.int .i64 t] (bldH g T) nx k:=by
 obtain⟨u,rfl⟩:∃u:Nat,t=u:=⟨t.toNat,by omega⟩;rw[zBR]at j;rw[ziU];refine⟨by kernel_rfl,zH (zm2 g b inl c u d T nx m 2 e) ?_⟩;rintro _ _ _ ⟨rfl,rfl,rfl⟩;exact j
theorem zHf(g:G)(b:Nat->Ctx->Nd)(inl:List Nat)(c:Ctx)(t:Int)(k:0<=t)(d:∀x∈inl,zsX g b x)(T:AH)(nx:Nat)(j:TOk nx T)(e:T.look 2=some (.row 1 [[.ptr 0 0 0 0 0]] 0)):
  zS Z9 zu [.int .i64 t,.ptr 2 0 0 0 0,encP 1 [zb inl],encP 3 [.int .i64 c.f,.int .i64 c.h,.int .i64 c.x]] (bldH g T) nx (λv H n=>v=.agg (encN (wayZ b inl c t))/\H=bldH g T/\n=nx):=by
 obtain⟨u,rfl⟩:∃u:Nat,t=u:=⟨t.toNat,by omega⟩;rw[zBR];exact zm2 g b inl c u d T nx j 2 e
theorem QC{d e g j k p:Prop}(a0:d)(b:e)(c:g)(a3:j)(a4:k)(h:d->e->g->j->k->p:=by intro a0 b c a3 a4;(try simp only[evWB,Nat.reduceBEq,Nat.reduceAdd,Nat.reduceSub,Nat.reduceLeDiff,Nat.reduceLT,implies_true,a0,b,c,a3,a4])<;>(repeat' with_reducible apply And.intro)<;>first|(first|exact RowV.of_flat zI|exact zl rfl|exact Vw.new _ _ 5 rfl rfl|exact RowV.of_flat (zE λ_=>zp);done)|exact fin6):p:=h a0 b c a3 a4
theorem QD{j k m n o q s t u p:Prop}(a0:j)(b:k)(c:m)(a3:n)(a4:o)(a5:q)(d:s)(e:t)(g:u)(h:j->k->m->n->o->q->s->t->u->p:=by intro a0 b c a3 a4 a5 d e g;(try simp only[evWB,Nat.reduceBEq,Nat.reduceAdd,Nat.reduceSub,Nat.reduceLeDiff,Nat.reduceLT,implies_true,a0,b,c,a3,a4,a5,d,e,g])<;>(repeat' with_reducible apply And.intro)<;>first|(first|exact RowV.of_flat zI|exact zl rfl|exact Vw.new _ _ 5 rfl rfl|exact RowV.of_flat (zE λ_=>zp);done)|exact fin6):p:=h a0 b c a3 a4 a5 d e g
theorem uk:type_of% @zN.eq_1:=@zN.eq_1
theorem zfq(g:G)(Z:OkB g)(m:Nat->Ctx->Nd)(k:Nat)(hk:k<g.blocks.length)(inl:List Nat)(c:Ctx)(B:∀x∈inl,zsX g m x):zke g zQ [.int .i64 (k:Int),zb inl,ctxA c] (.agg (encN (trZ (zgs g k) m inl c))):=by
 refine zhb ?_ rfl flA;refine zaA (fn_x zht rfl ?_);unfold zdo bldH ctxA;have hB:=hBig;have hla:=zoG g Z k hk
 have z:(zgs g k)∈(blG g k).stmts.getLast? := by
  unfold zgs;have:=Z.ne _ (zes hk)
  cases hl:(blG g k).stmts.getLast? with
  |none=>exact absurd (WX.1 hl) this
  |some s=>rfl
 have A:=Z.cond _ (zes hk) _ z;have y:=Z.tg _ (zes hk);rw[zvY,Option.mem_def.1 z]at y;have Y:=Z.cases _ (zes hk) _ (WY z);simp only[Option.getD_some]at y;generalize zgs g k=s at hla A y Y⊢;obtain⟨op,var,q,next,b,C,e,u⟩:=s;simp only at A y Y;refine Gw0 ?_;intros;refine⟨⟨rfl,rfl⟩,?_⟩;refine zH (hla _ _ (TOk.cons (by omega) (by omega) (zF rfl) (TOk.cons (by omega) (by omega) (zF rfl) (TOk.base (by omega))))) ?_;rintro _ _ _ ⟨rfl,rfl,rfl⟩;unfold bldH trZ;simp only;refine Gw1 @uq ?_;intros;have hfl:∀n:Nd,(Xp (encN n)).flat=true:=λ_=>flA
 by_cases U:op=6
 .rw[if_pos U];have T:0<=next:=(y next (by unfold ze2;simp only;rw[if_pos U];simp)).1;refine Gw1 @dT ?_;intros;refine zsN g m inl c next T B _ _ (TOk.cons (by omega) (by omega) (zF rfl) (TOk.cons (by omega) (by omega) (zF rfl) (TOk.cons (by omega) (by omega) (zF rfl) (TOk.base (by omega))))) rfl ?_;unfold bldH;refine Gw2 @zy @zaa.eq_1 ?_;intros;exact zet (zV flA)
 rw[if_neg U];by_cases V:op=7
 .rw[if_pos V];have T:0<=next:=(y next (by unfold ze2;simp only;rw[if_neg U,if_pos V];simp)).1;have he0:0<=b:=(y b (by unfold ze2;simp only;rw[if_neg U,if_pos V];simp)).1;obtain⟨x,rfl,hx⟩:=A (.inl V);have R:=zg7 (zdM x) x (Wh _) hx;refine Gw2 @dT @dF ?_;intros;refine zsg zct zfA zfl zb7 [(28,.ptr 4 0 0 0 6),(29,encL 5 encX [x]),(30,.iptr 5 λj=>(encX x).getD j .undef),(31,.agg (encX x)),(32,.agg (encX x)),(33,encL 5 encX [x]),(34,(.fn (.func zu) [.ptr 2 0 0 0 0,encP 1 [zb inl],encP 3 [.int .i64 c.f,.int .i64 c.h,.int .i64 c.x]])),(35,.ptr 4 0 0 0 3),(36,.int .i64 next),(37,.agg (encN (wayZ m inl c next))),(38,(.fn (.func zu) [.ptr 2 0 0 0 0,encP 1 [zb inl],encP 3 [.int .i64 c.f,.int .i64 c.h,.int .i64 c.x]])),(39,.ptr 4 0 0 0 4),(40,.int .i64 b),(41,.agg (encN (wayZ m inl c b))),(42,encL 5 encN [(wayZ m inl c next),(wayZ m inl c b)]),(43,.agg [.int .i64 3,.int .i64 0,.int .i64 0,encL 5 encX [x],encL 5 encN [(wayZ m inl c next),(wayZ m inl c b)]])] (hsOf [([(0,.row 5 [[.int .u32 g.addr,encL 2 Xc g.blocks,Dm.encNN ((We g.blocks.length).map (zaQ (eG g))),zb ((We g.blocks.length).map (cntE (eG g))),.mp 1 0]] 0),(1,.row 3 (boM (eG g) (hdL (eG g))) 0),(2,.row 1 [[.ptr 0 0 0 0 0]] 0),(3,.row 5 [[.int .i64 0,.int .i64 0,.int .i64 0,.nilsl,.nilsl]] 0),(4,.row 8 [[.int .i64 op,.int .i64 var,.int .i64 q,.int .i64 next,.int .i64 b,.int .u32 C,encL 5 encX [x],za u]] 0)],5),([(0,.row 5 [[.int .u32 g.addr,encL 2 Xc g.blocks,Dm.encNN ((We g.blocks.length).map (zaQ (eG g))),zb ((We g.blocks.length).map (cntE (eG g))),.mp 1 0]] 0),(1,.row 3 (boM (eG g) (hdL (eG g))) 0),(2,.row 1 [[.ptr 0 0 0 0 0]] 0),(3,.row 5 [[.int .i64 0,.int .i64 0,.int .i64 0,.nilsl,.nilsl]] 0),(4,.row 8 [[.int .i64 op,.int .i64 var,.int .i64 q,.int .i64 next,.int .i64 b,.int .u32 C,encL 5 encX [x],za u]] 0)],5),([(0,.row 5 [[.int .u32 g.addr,encL 2 Xc g.blocks,Dm.encNN ((We g.blocks.length).map (zaQ (eG g))),zb ((We g.blocks.length).map (cntE (eG g))),.mp 1 0]] 0),(1,.row 3 (boM (eG g) (hdL (eG g))) 0),(2,.row 1 [[.ptr 0 0 0 0 0]] 0),(3,.row 5 [[.int .i64 0,.int .i64 0,.int .i64 0,.nilsl,.nilsl]] 0),(4,.row 8 [[.int .i64 op,.int .i64 var,.int .i64 q,.int .i64 next,.int .i64 b,.int .u32 C,encL 5 encX [x],za u]] 0)],5),([(0,.row 5 [[.int .u32 g.addr,encL 2 Xc g.blocks,Dm.encNN ((We g.blocks.length).map (zaQ (eG g))),zb ((We g.blocks.length).map (cntE (eG g))),.mp 1 0]] 0),(1,.row 3 (boM (eG g) (hdL (eG g))) 0),(2,.row 1 [[.ptr 0 0 0 0 0]] 0),(3,.row 5 [[.int .i64 3,.int .i64 0,.int .i64 0,encL 5 encX [x],encL 5 encN [(wayZ m inl c next),(wayZ m inl c b)]]] 0),(4,.row 8 [[.int .i64 op,.int .i64 var,.int .i64 q,.int .i64 next,.int .i64 b,.int .u32 C,encL 5 encX [x],za u]] 0)],5)]) (by kernel_rfl) (by rfl) (by rfl) (by repeat' first|exact QExt.retK|apply QExt.seq|apply QExt.block|apply QExt.loop|apply QExt.join|assumption) ?plan [] (by rfl) ?fin
  case' plan=>
   intro o hs p hH;have kf28:o.get 28=.ptr 4 0 0 0 6:=by rw[p,zj];rfl
   have D:o.get 29=encL 5 encX [x]:=by rw[p,zj];rfl
   have F:o.get 30=.iptr 5 λj=>(encX x).getD j .undef:=by rw[p,zj];rfl
   have I:o.get 31=.agg (encX x):=by rw[p,zj];rfl
   have J:o.get 32=.agg (encX x):=by rw[p,zj];rfl
   have kf33:o.get 33=encL 5 encX [x]:=by rw[p,zj];rfl
   have K:o.get 34=(.fn (.func zu) [.ptr 2 0 0 0 0,encP 1 [zb inl],encP 3 [.int .i64 c.f,.int .i64 c.h,.int .i64 c.x]]):=by rw[p,zj];rfl
   have kf35:o.get 35=.ptr 4 0 0 0 3:=by rw[p,zj];rfl
   have L:o.get 36=.int .i64 next:=by rw[p,zj];rfl
   have N:o.get 37=.agg (encN (wayZ m inl c next)):=by rw[p,zj];rfl
   have O:o.get 38=(.fn (.func zu) [.ptr 2 0 0 0 0,encP 1 [zb inl],encP 3 [.int .i64 c.f,.int .i64 c.h,.int .i64 c.x]]):=by rw[p,zj];rfl
   have kf39:o.get 39=.ptr 4 0 0 0 4:=by rw[p,zj];rfl
   have P:o.get 40=.int .i64 b:=by rw[p,zj];rfl
   have Q:o.get 41=.agg (encN (wayZ m inl c b)):=by rw[p,zj];rfl
   have kf42:o.get 42=encL 5 encN [(wayZ m inl c next),(wayZ m inl c b)]:=by rw[p,zj];rfl
   have kf43:o.get 43=.agg [.int .i64 3,.int .i64 0,.int .i64 0,encL 5 encX [x],encL 5 encN [(wayZ m inl c next),(wayZ m inl c b)]]:=by rw[p,zj];rfl
   have kf8:o.get 8=.ptr 3 0 0 0 0:=by rw[p,zj];rfl
   have kf9:o.get 9=.ptr 4 0 0 0 0:=by rw[p,zj];rfl
   have kf10:o.get 10=(.fn (.func zu) [.ptr 2 0 0 0 0,encP 1 [zb inl],encP 3 [.int .i64 c.f,.int .i64 c.h,.int .i64 c.x]]):=by rw[p,zj];rfl
   simp only[zb7,zng,zpD,and_true]
   (repeat' with_reducible apply Wc)
   all_goals(rw[hH];simp only[zpH,zcf,WG,WH,hsOf,hsAt,beqL,zgX,Xa,WI,Wy,Ww,WJ,cond_true,cond_false,Wd,Wj,Xb])
   all_goals try(simp(disch:=try exact dis1) only[evD,Xa,Xb,Xd,zcW,zca,kf28,D,F,I,J,kf33,K,kf35,L,N,O,kf39,P,Q,kf42,kf43,kf8,kf9,kf10,hgX,zbI,zaY,rbX1,rbN2];done)
  case' fin=>simp only[zct,hsOf,hsAt,beqL,zgX,Xa,WI,Wy,Ww,WJ,cond_true,cond_false,Wd,Wj,Xb,WG,WH,zaI]
  ·(refine Gw1 @zaa.eq_1 ?_;intros);refine zet ?_;rw[zaF];exact zV rfl
  ·(refine Gw5 D F @hgX @zcW @zca ?_;intros);decide
  ·(refine Gw2 I @zaY ?_;intros);refine zC (zc R (flX rfl)) ?_;(refine Gw3 J @zcW @zca ?_;intros;try with_reducible exact trivial)
  ·(refine Gw2 K L ?_;intros);refine zsN g m inl c next T B _ _ (TOk.cons (by omega) (by omega) (zF rfl) (TOk.cons (by omega) (by omega) (zF rfl) (TOk.cons (by omega) (by omega) (zF rfl) (TOk.base (by omega))))) rfl ?_;unfold bldH;(refine Gw3 N @zcW @zca ?_;intros;try with_reducible exact trivial)
  ·(refine Gw2 O P ?_;intros);refine zsN g m inl c b he0 B _ _ (TOk.cons (by omega) (by omega) (zF rfl) (TOk.cons (by omega) (by omega) (zF rfl) (TOk.cons (by omega) (by omega) (zF rfl) (TOk.base (by omega))))) rfl ?_;unfold bldH;(refine Gw3 Q @zcW @zca ?_;intros;try with_reducible exact trivial)
 rw[if_neg V];by_cases h8:op=8
 .rw[if_pos h8];obtain⟨x,rfl,hx⟩:=A (.inr h8);have R:=zg7 (zdM x) x (Wh _) hx;have hc0:∀t∈u,0<=t:=λt ht=>(y t (by unfold ze2;simp only;rw[if_neg U,if_neg V,if_pos h8];exact ht)).1
  refine Gw4 @dT @dF @hgX @zaY ?_;intros;refine ze (zc R (flX rfl)) ?_;refine Gw1 @rbX1 ?_;intros;refine Gw1 @ud ?_;intros;generalize hW:wayZ m inl c=W
  refine zd (λs:List Nd×Nat=>([(8,.ptr 3 0 0 0 0),(10,.fn (.func zu) [.ptr 2 0 0 0 0,encP 1 [zb inl],encP 3 [.int .i64 c.f,.int .i64 c.h,.int .i64 c.x]]),(11,.ptr 4 0 0 0 0),(54,za u),(55,.int .i64 u.length),(56,.int .i64 s.1.length)],bldH g [(2,.row 1 [[.ptr 0 0 0 0 0]] 0),(3,.row 5 [zN] 0),(4,.row 5 [[.int .i64 6,.int .i64 0,.int .i64 0,encL 5 encX [x],.own 5 0 s.2 0 s.1.length]] 0),(5,.row 5 (s.1.map encN) s.2)])) 6
   (λs=>s.1.length<=u.length/\s.1++(u.drop s.1.length).map W=u.map W) (λs=>u.length-s.1.length) ([],0) ⟨Wg _,rfl⟩ ?start ?_
  case start=>unfold bldH;exact(Xg [(0,0,0),(1,1,0),(2,2,0),(3,3,0),(4,5,0)] [] rfl rfl rfl (QC @ud @ua @uk @uj @uh) (QC @ud @ua @uk @uj @uh))
  rintro⟨M,γ⟩ ⟨hi,X⟩ wf;simp only at hi X;clear wf;refine dcU zcH.eq_1 ?_;by_cases S:M.length<u.length
  case neg=>
   have hi2:M.length=u.length:=by omega
   rw[hi2,WZ,Wk,Wi]at X;subst X;unfold bldH;refine Gw1 @dF ?_;intros;refine dcU zcI.eq_1 ?_;refine Gw1 @zaa.eq_1 ?_;intros;refine zet ?_;rw[zaF,zcX];exact⟨.int _ _ _,.int _ _ _,.int _ _ _,zV rfl,zp7 (Wr _).symm (by show 2<=5;omega) rfl (by omega),trivial⟩
  have hgi:=zg (f:=cI) (d:=[]) S;have h0:=hc0 _ (Wl S);rw[WO S,Wo]at X;generalize u[M.length]=v at hgi h0 X;have hgi':(u.map λ(n:Int)=>[Xe .i64 n]).getD M.length []=[.int .i64 v]:=hgi;have hel:∀(w:Nd) H,zcq 5 (encL 5 encN [w]) H=some [encN w]:=λw H=>za7 (λ_ _=>zy)
  have hM2:(M++[W v])++(u.drop (M++[W v]).length).map W=u.map W:=by rw[Wu,Wa,Wf];exact X
  unfold bldH;refine Gw3 @dT @ud hgi' ?_;intros
  (repeat' with_reducible apply Wc)
  all_goals first
   |kernel_rfl
   |refine zH (zHf g m inl c v h0 B _ _ (TOk.cons (by omega) (by omega) (zF rfl) (TOk.cons (by omega) (by omega) (zF rfl) (TOk.cons (by omega) (by omega) (zF rfl) (TOk.cons (by omega) (by omega) zdS (TOk.base (by omega)))))) rfl) ?_
  all_goals rintro _ _ _ ⟨rfl,rfl,rfl⟩
  all_goals rw[hW]
  all_goals unfold bldH
  all_goals(refine Gw4 @rbN1 hel @ui @uh ?_;intros;try with_reducible exact trivial)
  all_goals exact⟨(M++[W v],γ+1),⟨by simp only[Wa,Wf];omega,hM2⟩,by simp only[Wa,Wf];omega,(Xg [(0,0,0),(1,1,0),(2,2,0),(3,3,0),(4,4,0),(5,5,0)] [] rfl rfl rfl (QD @ud @ua @uk @m9A @m9P @ui @uh @m9C @uj) (QD @ud @ua @uk @m9A @m9P @ui @uh @m9C @uj))⟩
 rw[if_neg h8];by_cases h9:op=9
 .rw[if_pos h9];refine Gw3 @dT @dF @zaa.eq_1 ?_;intros;exact zet zdw
 rw[if_neg h9];refine Gw1 @dF ?_;intros;refine dcU zcJ.eq_1 ?_;refine Gw1 @zaa.eq_1 ?_;intros;exact zet zdw
theorem QE{d e g j p:Prop}(a0:d)(b:e)(c:g)(a3:j)(h:d->e->g->j->p:=by intro a0 b c a3;(try simp only[evWB,Nat.reduceBEq,Nat.reduceAdd,Nat.reduceSub,Nat.reduceLeDiff,Nat.reduceLT,implies_true,a0,b,c,a3])<;>(repeat' with_reducible apply And.intro)<;>first|(first|exact RowV.of_flat zI|exact zl rfl|exact RowV.of_flat (zE λ_=>zp);done)|exact fin6):p:=h a0 b c a3
theorem QF{g j k m n o q s p:Prop}(a0:g)(b:j)(c:k)(a3:m)(a4:n)(a5:o)(d:q)(e:s)(h:g->j->k->m->n->o->q->s->p:=by intro a0 b c a3 a4 a5 d e;(try simp only[evWB,Nat.reduceBEq,Nat.reduceAdd,Nat.reduceSub,Nat.reduceLeDiff,Nat.reduceLT,implies_true,a0,b,c,a3,a4,a5,d,e])<;>(repeat' with_reducible apply And.intro)<;>first|(first|exact RowV.of_flat zI|exact zl rfl|exact RowV.of_flat (zE λ_=>zp);done)|exact fin6):p:=h a0 b c a3 a4 a5 d e
theorem zev(g:G)(e:Nat->Ctx->Nd)(l:List Nat)(I:l.length<=1000)(c:Ctx)(A:∀x∈l,zsX g e x):zke g zY [zb l,ctxA c] (encL 5 encN (zah e c l)):=by
 refine zhb ?_ rfl rfl;refine zaA (fn_x zjd rfl ?_);unfold zef bldH ctxA;(conv in Z8 _ _=>reduce);have F:=hBig;refine Gw0 ?_;intros;refine Gw1 @ub ?_;intros
 refine zd (λs:List Nd×Nat=>([(0,.ptr 0 0 0 0 0),(1,zb l),(5,encP 3 [.int .i64 c.f,.int .i64 c.h,.int .i64 c.x]),(7,.own 2 0 s.2 0 s.1.length),(11,zb l),(12,.int .i64 l.length),(13,.int .i64 s.1.length)],bldH g [(2,.row 5 (s.1.map encN) s.2)])) 3
  (λs=>s.1.length<=l.length/\s.1++zah e c (l.drop s.1.length)=zah e c l) (λs=>l.length-s.1.length) ([],0) ⟨Wg _,rfl⟩ ?start ?_
 case start=>unfold bldH;exact(Xg [(0,0,0),(1,1,0),(2,3,0)] [] rfl rfl rfl (QE @ub @ua @uj @uh) (QE @ub @ua @uj @uh))
 rintro⟨M,γ⟩ ⟨D,b⟩ wf;simp only at D b;clear wf;refine dcU zdn.eq_1 ?_;by_cases o:M.length<l.length
 case neg=>
  have z:l.length<=M.length:=by omega
  rw[WV z,zah,Wi]at b;subst b;unfold bldH;refine Gw1 @dF ?_;intros;refine dcU zdk.eq_1 ?_;refine Gw1 @zeo.eq_1 ?_;intros;exact zet (zp7 rfl (Wh 2) rfl (by omega))
 have q:(l.map λ(n:Nat)=>[Xe .i64 (n:Int)]).getD M.length []=[.int .i64 (l[M.length]:Int)]:=zg (f:=cN) (d:=[]) o;have m:=A _ (Wl o);rw[zoK o]at b;have u:=λ(h:l.length<=M.length+1)=>zva (c:=c) h
 have t:=λ(h:M.length+1<l.length)=>zxp (c:=c) h
 have v:=λ(h:M.length+1<l.length)=>(zg (f:=cN) (d:=[]) h:(l.map cN).getD (M.length+1) []=_)
 generalize l[M.length]=x at q m b;have p:∀(w:Nd) H,zcq 5 (encL 5 encN [w]) H=some [encN w]:=λw H=>za7 (λ_ _=>zy)
 have B:((M.length:Int)+1).toNat=M.length+1:=by omega
 unfold bldH;refine Gw4 @dT @ub q @ua ?_;intros;by_cases C:M.length+1<l.length
 .rw[t C]at b;have j:(l.map λ(n:Nat)=>[Xe .i64 (n:Int)]).getD (M.length+1) []=[.int .i64 (l[M.length+1]:Int)]:=v C;generalize l[M.length+1]=y at b j;refine Gw3 @dT B j ?_;intros;refine zH (m ⟨y,c.h,c.x⟩ _ _ (TOk.cons (by omega) (by omega) zdS (TOk.cons (by omega) (by omega) (zF rfl) (TOk.base (by omega))))) ?_;rintro _ _ _ ⟨rfl,rfl,rfl⟩;generalize e x ⟨y,c.h,c.x⟩=w at b⊢;have k:(M++[w])++zah e c (l.drop (M++[w]).length)=zah e c l:=by rw[Wu,Wa,Wf];exact b
  unfold bldH;refine Gw4 @rbN1 p @ui @uh ?_;intros;exact⟨(M++[w],γ+1),⟨by simp only[Wa,Wf];omega,k⟩,by simp only[Wa,Wf];omega,(Xg [(0,0,0),(1,1,0),(2,2,0)] [] rfl rfl rfl (QF @ub @ua @m9A @m9P @ui @uh @m9C @uj) (QF @ub @ua @m9A @m9P @ui @uh @m9C @uj))⟩
 .rw[u (by omega)]at b;refine Gw1 @dF ?_;intros;refine zH (m c _ _ (TOk.cons (by omega) (by omega) zdS (TOk.cons (by omega) (by omega) (zF rfl) (TOk.base (by omega))))) ?_;rintro _ _ _ ⟨rfl,rfl,rfl⟩;generalize e x c=w at b⊢;have k:(M++[w])++zah e c (l.drop (M++[w]).length)=zah e c l:=by rw[Wu,Wa,Wf];exact b
  unfold bldH;refine Gw4 @rbN1 p @ui @uh ?_;intros;exact⟨(M++[w],γ+1),⟨by simp only[Wa,Wf];omega,k⟩,by simp only[Wa,Wf];omega,(Xg [(0,0,0),(1,1,0),(2,2,0)] [] rfl rfl rfl (QF @ub @ua @m9A @m9P @ui @uh @m9C @uj) (QF @ub @ua @m9A @m9P @ui @uh @m9C @uj))⟩
def zix:List (List AV)->List Nd->Prop
 |[],[]=>True
 |c::d,n::l=>(c=encN n\/∃a b x:Int,n=zaq a b x/\c=[.int .i64 a,.int .i64 b,.int .i64 x,.nilsl,.nilsl])/\zix d l
 |_,_=>False
theorem zd4:∀l:List Nd,zix (l.map encN) l
 |[]=>trivial
 |n::l=>⟨.inl rfl,zd4 l⟩
theorem zuQ:∀ {b:List (List AV)}{l:List Nd},zix b l->b.length=l.length
 |[],[],_=>rfl
 |_::b,_::l,h=>by rw[Wd,Wd,zuQ h.2]
theorem zbh:∀ {d:List (List AV)}{l:List Nd},zix d l->zw d
 |[],[],_=>znp
 |
  c::d,n::l,h=>by
  refine zal ?_ (zbh h.2);rcases h.1 with rfl|⟨a,b,x,rfl,rfl⟩
  .exact zp
  .rfl
theorem zu6{H H2:AH}{σ:Nat->Nat->Option (Nat×Nat×Nat)}{D:Nat->Nat->Prop}{t:Bool}:∀ {d:List (List AV)}{l:List Nd},zix d l->∀i,i<l.length->∀j,j<5->Vw H H2 σ D t ((d.getD i []).getD j .undef) (((l.map encN).getD i []).getD j .undef)
 |[],[],_,i,g,_,_=>absurd g (Nat.not_lt_zero _)
 |[],_::_,h,_,_,_,_=>h.elim
 |_::_,[],h,_,_,_,_=>h.elim
 |
  c::d,n::l,h,0,g,j,hj=>by
  rcases h.1 with rfl|⟨a,b,x,rfl,rfl⟩
  .exact zwm n j hj
  .have e:((List.map encN (zaq a b x::l)).getD 0 [])=[.int .i64 a,.int .i64 b,.int .i64 x,encL 5 encX [],encL 5 encN []]:=by show encN (zaq a b x)=_;unfold zaq;rw[zaF]
   rw[e]
   match j,hj with
   |0,_=>exact .int _ _ _
   |1,_=>exact .int _ _ _
   |2,_=>exact .int _ _ _
   |3,_=>exact zf1
   |4,_=>exact zf1
 |
  c::d,n::l,h,i+1,g,j,hj=>by
  have:=zu6 (H:=H) (H2:=H2) (σ:=σ) (D:=D) (t:=t) h.2 i (by rw[Wd]at g;omega) j hj;exact this
theorem zg2{H d:AH}{σ:Nat->Nat->Option (Nat×Nat×Nat)}{D:Nat->Nat->Prop}{t:Bool}{r q g n:Nat}{b:List (List AV)}{l:List Nd}(c:zix b l)(s:n=l.length)(h:D r q)(m:H.get r q=some (.row 5 b g))(k:n<=big):Vw H d σ D t (.own r q g 0 n) (encL 5 encN l):=by subst s;have e:encL 5 encN l=.sl 5 l.length (λi j=>((l.map encN).getD i []).getD j .undef):=rfl;rw[e];refine .frz t r q g 0 l.length 5 b _ h m k (by rw[zuQ c];omega) (λi j o p=>?_);rw[Nat.zero_add];exact zu6 c i o j p
theorem zsd{H c:AH}{σ:Nat->Nat->Option (Nat×Nat×Nat)}{D:Nat->Nat->Prop}{t:Bool}{r q g:Nat}{k b x:Int}(d:D r q)(h:H.get r q=some (.row 5 [[.int .i64 k,.int .i64 b,.int .i64 x,.nilsl,.nilsl]] g)):Vw H c σ D t (.ptr r q g 0 0) (encP 5 (encN (zaq k b x))):=by
 have e:encN (zaq k b x)=[.int .i64 k,.int .i64 b,.int .i64 x,encL 5 encX [],encL 5 encN []]:=by unfold zaq;rw[zaF]
 rw[e];refine .frzp t r q g 0 0 5 5 _ _ d h (by simp) (by simp) (λj m=>?_)
 match j,m with
 |0,_=>exact .int _ _ _
 |1,_=>exact .int _ _ _
 |2,_=>exact .int _ _ _
 |3,_=>exact zf1
 |4,_=>exact zf1
theorem zBF{g:G}(c:OkB g){k:Nat}(b:k∈ordE (eG g)):k∈hdL (eG g)↔zhz (eG g) k=true:=by unfold hdL;rw[Wz];exact⟨λh=>h.2,λh=>⟨b,h⟩⟩
theorem zAU{g:G}{k:Nat}(b:k<g.blocks.length):(((We g.blocks.length).map (zaQ (eG g))).map λl=>[zb l]).getD k []=[zb (zaQ (eG g) k)]:=by rw[zg (by simp;exact b)];simp
theorem zDy{g:G}(b:OkB g){k x:Nat}(h:x∈zaQ (eG g) k):x<g.blocks.length:=by
 unfold zaQ at h;have:=zaT (zL b) (Wz.1 h).1
 rwa [zeg]at this
theorem QG{c d p:Prop}(a0:c)(b:d)(h:c->d->p:=by intro a0 b;(try simp only[evWB,Nat.reduceBEq,Nat.reduceAdd,Nat.reduceSub,Nat.reduceLeDiff,Nat.reduceLT,implies_true,a0,b])<;>(repeat' with_reducible apply And.intro)<;>first|(first|exact RowV.of_flat zI|exact zl rfl|exact zsd rfl rfl;done)|exact fin6):p:=h a0 b
theorem zoE(g:G)(m:OkB g)(e:Nat->Ctx->Nd)(k:Nat)(M:k∈ordE (eG g))(J:zhz (eG g) k=false)(v:∀x∈zaQ (eG g) k,zsX g e x)(c:Ctx):
  zke g zP [.int .i64 (k:Int),ctxA c] (.agg (encN (nSeq (zaq 10 0 k::zaq 2 k 0::trN (shpG g) e k (zap (zJ (shpG g) k) c)::zah e c (zJ (shpG g) k))))):=by
 refine zhb ?_ rfl flA;refine zaA (fn_x zeY rfl ?_);unfold zcF bldH ctxA;have U:=hBig;have y:k<g.blocks.length:=by have:=zaT (zL m) M;rwa [zeg]at this
 have R:=znq m (k:=k);have T:=m.small.1;have I:g.toG.blocks.length=g.blocks.length:=by simp[G.toG]
 rw[I]at T;have N:zk4 (shpG g) k=zaQ (eG g) k:=zIf J;have n:zJ (shpG g) k=plG (shpG g) (zaQ (eG g) k):=by rw[zvd,N]
 have u:inlL (shpG g) k=inG (shpG g) (zaQ (eG g) k):=by rw[zDP,N]
 have A:∀x∈zJ (shpG g) k,x∈zaQ (eG g) k:=λx b=>by rw[n]at b;exact(Wz.1 b).1
 have w:∀x∈inlL (shpG g) k,x∈zaQ (eG g) k:=λx b=>by rw[u]at b;exact(Wz.1 b).1
 have d:=zhJ g m (zaQ (eG g) k) (by omega) (λx b=>zDy m b);rw[<-n,<-u]at d;have j:(zJ (shpG g) k).length<=1000:=by rw[n];have:=zwb (S:=shpG g) (l:=zaQ (eG g) k);omega
 rw[zAH];generalize zJ (shpG g) k=o at d A j⊢;generalize inlL (shpG g) k=O at d w⊢;have F:=zjk o c;have B:=zfq g m e k y O (zap o c) (λx b=>v x (w x b));have q:=zev g e o j c (λx b=>v x (A x b));have z:(shpG g).last k=zgs g k:=rfl;rw[z];generalize trZ (zgs g k) e O (zap o c)=P at B⊢;have s:=zij (code:=e) (c:=c) (l:=o);generalize zah e c o=C at q s⊢;refine Gw0 ?_;intros;refine zaD [(0,.ptr 0 0 0 0 0),(1,.int .i64 (k:Int)),(5,encP 3 [.int .i64 c.f,.int .i64 c.h,.int .i64 c.x]),(6,.ptr 2 0 0 0 0),(7,encP 5 (encN (zaq 10 0 k)))] (bldH g [(2,.row 5 [zN] 0)]) 3 λ_=>⟨?_,?_⟩
 .unfold bldH;exact(Xg [(0,0,0),(1,1,0),(2,2,0)] [3] rfl rfl rfl (QG @ua @uk) (QG @ua @uk))
 unfold zb3 bldH;(conv in Z8 _ _=>reduce);have p:boM (eG g) (hdL (eG g))=[.int .i64 ((hdL (eG g)).length:Int),.undef,.undef]::(hdL (eG g)).zipIdx.map (cBo (eG g)):=rfl;have L:=(zsi (E:=eG g) (k:=k) (l:=(hdL (eG g)).zipIdx) (i:=0)).1 (by rw[List.zipIdx_map_fst];intro h;rw[(zBF m M).1 h]at J;cases J);have K:=zAU (g:=g) y;rw[p]
 (repeat first|simp(disch:=try exact dis1) only[evD,Xa,Xb,Xd,L,Option.isSome_none]|with_reducible first|intro _|refine aJ ?_)
 rw[<-p]
 (repeat first|simp(disch:=try exact dis1) only[evD,Xa,Xb,Xd,encNN,K,Wr,WP]|with_reducible first|intro _|refine aJ ?_)
 refine zH (d _ _ (TOk.cons (by omega) (by omega) (zF rfl) (TOk.base (by omega)))) ?_;rintro _ _ _ ⟨rfl,rfl,rfl⟩;unfold bldH;have D:∀H,zcq 5 (encL 5 encN C) H=some (C.map encN):=λH=>za7 (λ_ _=>zy)
 have Q:Xk (.agg [.int .i64 2,.int .i64 (k:Int),.int .i64 0,.nilsl,.nilsl])=[.int .i64 2,.int .i64 (k:Int),.int .i64 0,.nilsl,.nilsl]:=rfl;refine Gw2 @ua @zG ?_;intros
 (repeat' first
  |with_reducible apply Wc
  |(refine zC (zc F rfl) ?_;(refine Gw3 @ua @zG @zy ?_;intros;try with_reducible exact trivial))
  |(refine zH (B _ _ (TOk.cons (by omega) (by omega) (zF rfl) (TOk.base (by omega)))) ?_;rintro _ _ _ ⟨rfl,rfl,rfl⟩;unfold bldH;(refine Gw3 @ua @zG @zy ?_;intros;try with_reducible exact trivial)))
 all_goals refine zH (q _ _ (TOk.cons (by omega) (by omega) (zF rfl) (TOk.cons (by omega) (by omega) ?_ (TOk.base (by omega))))) ?_
 all_goals try exact zaf (zal zp (zal rfl (zas zp)))
 all_goals rintro _ _ _ ⟨rfl,rfl,rfl⟩
 all_goals unfold bldH
 all_goals(refine Gw4 D @m9M @ui @uh ?_;intros;try with_reducible exact trivial)
 all_goals have t:zix (encN (zaq 10 0 k)::[Xe .i64 2,.int .i64 (k:Int),.int .i64 0,.nilsl,.nilsl]::encN P::C.map encN) (zaq 10 0 k::zaq 2 k 0::P::C):=⟨.inl rfl,.inr ⟨_,_,_,rfl,rfl⟩,.inl rfl,zd4 _⟩
 all_goals refine zH (zse rfl rfl (zii (TOk.cons (by omega) (by omega) (zF rfl) (TOk.cons (by omega) (by omega) (zaf (zbh t)) (TOk.base (by omega))))) rfl rfl) ?_
 all_goals rintro _ _ _ ⟨rfl,rfl,rfl⟩
 all_goals(refine Gw1 @zcG.eq_1 ?_;intros;try with_reducible exact trivial)
 all_goals refine zet ?_
 all_goals unfold nSeq
 all_goals rw[zaF,zcX]
 all_goals exact⟨.int _ _ _,.int _ _ _,.int _ _ _,zf1,zg2 t (by simp only[Wd];omega) (show 2<=3 by omega) rfl (by omega),trivial⟩
end Go.Ab
namespace Go.Ab
open Go.RowKit Go.Proofs
theorem Qv{p:Prop}(h:p:=by(try simp only[evWB,Nat.reduceBEq,Nat.reduceAdd,Nat.reduceSub,Nat.reduceLeDiff,Nat.reduceLT,implies_true,List.take_zero,zBq,List.map_nil,List.length_nil])<;>exact fin1):p:=h
theorem Qw{p:Prop}(h:p:=by(try simp only[evWB,Nat.reduceBEq,Nat.reduceAdd,Nat.reduceSub,Nat.reduceLeDiff,Nat.reduceLT,implies_true,List.nil_append,List.length_append,List.map_append,List.length_cons,List.length_nil,List.map_cons,List.map_nil])<;>exact fin1):p:=h
theorem zo3(g:G)(v:OkB g)(b:Nat)(hb:b<g.blocks.length):zn Z9 zhl [.agg (shR g),.int .i64 (b:Int)] (·=zb (beyL (shpG g) b)):=by
 refine fn_x zwQ rfl ?_;refine dcU zpE.eq_1 ?_;have hB:=hBig;have K:=zL v;have hEl:=zeg (g:=g);have hn:=v.small.1;have X:g.toG.blocks.length=g.blocks.length:=by simp[G.toG]
 rw[X]at hn;have T:=znX g v b hb;have R:=ztR g v b;have O:=zj3 g v;have hsh:[.int .u32 g.addr,encL 2 Xc g.blocks,zb (ordE (eG g)),za (Dm.treeL (eG g))]=shR g:=rfl;have u:=λ{x}=>zwM (x:=x) K (b:=b) (by omega)
 have hnl:=zBG K (b:=b) (by omega);have F:=zxG K (b:=b) (by omega);have H:=zGp K (b:=b) (by omega);have hkl:=znq v (k:=b);have V:∀o x,beyC (shpG g) b o x=(!(shpG g).inB b x&&(o.isEmpty||decide (cntE (eG g) x≠1))):=λo x=>rfl
 have C:∀x,(shpG g).inB b x=true↔zgi (eG g) b x:=λx=>by classical exact decide_eq_true_iff
 unfold shR;refine Qh ?_;intros;refine zC (zc T rfl) ?_;refine Qh ?_;intros;refine zC (zc R rfl) ?_;have U:zhz (eG g) b=false->beyL (shpG g) b=[]:=λh=>zE1 h
 have z:zhz (eG g) b=true->beyL (shpG g) b=aftG (shpG g) b (zaQ (eG g) b):=λh=>zps h
 generalize natL (eG g) b=J at u hnl F H;generalize zaQ (eG g) b=m at hkl z
 cases B:zhz (eG g) b with
 |false=>
  have t:=H B;rw[U B];refine Qh ?_;intros;refine zd (λ_:Unit=>([(2,encP 4 [.int .u32 g.addr,encL 2 Xc g.blocks,zb (ordE (eG g)),za (Dm.treeL (eG g))]),(5,.own 0 0 0 0 0),(6,zb J),(7,zb m),(8,.int .i64 0)],[(0,.row 1 [] 0)])) 1 (λ_=>True) (λ_=>0) () trivial ?start ?_;case start=>exact(Xf [(0,1,0)] [] rfl Gin1_0 Gin1_0)
  rintro _ _ wf;clear wf;refine dcU zhs.eq_1 ?_;by_cases hk0:0<m.length
  ·(refine Gw6 @dT @dF @ua @ub t @ud ?_;intros);unfold ze0;refine Gw1 @zig.eq_1 ?_;intros;exact⟨_,zbX (l:=[]) trivial rfl (by simp),rfl⟩
  ·(refine Gw6 @dT @dF @ua @ub t @ud ?_;intros);unfold ze0;refine Gw1 @zig.eq_1 ?_;intros;exact⟨_,zbX (l:=[]) trivial rfl (by simp),rfl⟩
 |true=>
  have t:=F B;rw[z B];refine Qh ?_;intros;refine zd (λs:Nat×Nat=>([(2,encP 4 [.int .u32 g.addr,encL 2 Xc g.blocks,zb (ordE (eG g)),za (Dm.treeL (eG g))]),(5,.own 0 0 s.2 0 (aftG (shpG g) b (m.take s.1)).length),(6,zb J),(7,zb m),(8,.int .i64 s.1)],[(0,.row 1 ((aftG (shpG g) b (m.take s.1)).map cN) s.2)])) 1 (λs=>s.1<=m.length) (λs=>m.length-s.1) (0,0) (Wg _) ?start ?_;case start=>exact(Xf [(0,1,0)] [] rfl Qv Qv)
  rintro⟨k,γ⟩ hk wf;simp only at hk;clear wf;refine dcU zhs.eq_1 ?_;have y:=zsh (S:=shpG g) (k:=b) (l:=m.take k);rw[WB]at y;by_cases q:k<m.length;case neg=>have Z:k=m.length:=Ws hk (Wt q);subst Z;rw[WA]at *;refine Gw5 @dT @dF @ua @ub @ud ?_;intros;unfold ze0;refine Gw1 @zig.eq_1 ?_;intros;exact⟨_,zbX trivial rfl (by omega),rfl⟩
  have c:=λx=>zv6 (S:=shpG g) (k:=b) (x:=x) (l:=m.take k)
  have j:=λx=>zAg (S:=shpG g) (k:=b) (x:=x) (l:=m.take k)
  have I:=WR q;have p:(m.map λ(n:Nat)=>[Xe .i64 (n:Int)]).getD k []=[.int .i64 (m[k]:Int)]:=zg (f:=cN) (d:=[]) q;generalize m[k]=x at I p;replace c:=c x;replace j:=j x;rw[<-I]at c j;rw[V]at c j;have P:=O x;have D:x∈J↔zgi (eG g) b x:=⟨λh=>(u.1 h).2,λh=>u.2 ⟨B,h⟩⟩;have Q:=Dm.R24_HasN_ok J x;generalize hA:aftG (shpG g) b (m.take k)=A at c j y;refine Gw5 @dT @ua @ub p @ud ?_;intros;refine zC (zc Q rfl) ?_;by_cases L:x∈J
  .rw[decide_eq_true L];have e:=j (by rw[(C x).2 (D.1 L)];rfl);refine Gw6 @dT @dF @ua @ub p @ud ?_;intros;exact⟨(k+1,γ),by simp only;omega,by simp only;omega,by rw[e];exact(Xf [(0,0,0)] [] rfl Gin1_0 Gin1_0)⟩
  rw[decide_eq_false L];have Y:(shpG g).inB b x=false:=Bool.eq_false_iff.2 λh=>L (D.2 ((C x).1 h))
  rw[Y,Bool.not_false,Wy]at c j;by_cases w:A.length=0
  .have N:=List.eq_nil_of_length_eq_zero w;subst N;have e:=c rfl;refine Gw8 @dT @dF @ua @ub p @ud @uh @uj ?_;intros;exact⟨(k+1,γ+1),by simp only;omega,by simp only;omega,by rw[e];exact(Xf [(0,0,0)] [] rfl Qw Qw)⟩
  have M:A.isEmpty=false:=by cases A with|nil=>simp at w|cons a l=>rfl
  rw[M,Bool.false_or]at c j;refine Gw6 @dT @dF @ua @ub p @ud ?_;intros;refine zC (zc P rfl) ?_;by_cases hc:cntE (eG g) x=1
  .have W:((cntE (eG g) x:Nat):Int)=1:=by omega
   have e:=j (decide_eq_false λh=>h hc);refine Gw6 @dT @dF @ua @ub p @ud ?_;intros;exact⟨(k+1,γ),by simp only;omega,by simp only;omega,by rw[e];exact(Xf [(0,0,0)] [] rfl Gin1_0 Gin1_0)⟩
  .have W:¬((cntE (eG g) x:Nat):Int)=1:=by omega
   have e:=c (decide_eq_true hc);refine Gw6 @dT @dF @ua @ub p @ud ?_;intros;exact⟨(k+1,γ+1),by simp only;omega,by simp only;omega,by rw[e];exact(Xf [(0,0,0)] [] rfl (Gin1_6 @m9A @m9P @ui @uh @m9C @uj) (Gin1_6 @m9A @m9P @ui @uh @m9C @uj))⟩
def zuu(g:G)(b:Nat->Ctx->Nd)(x:Nat):Prop:=∀c:Ctx,zn Z9 zds [.agg (shR g),.int .i64 (x:Int),ctxA c] (·=.agg (encN (b x c)))
theorem Qi{p q:Prop}(k:q)(h:Im q p:=by(repeat first|simp(disch:=try exact dis1) only[evD,Nat.reduceBEq,Nat.reduceAdd,Nat.reduceLeDiff,dT,dF,zbF,encP,zb,za]|((with_reducible apply Im.i);intro _)|((with_reducible apply Im.a);omega));exact Im.r):p:=h k
theorem zDe(g:G)(D:OkB g)(s:Nat->Ctx->Nd)(b t:Nat)(P:b<g.blocks.length)(L:t∈ordE (eG g))(K:∀x∈zaQ (eG g) b,zuu g s x)(c:Ctx):zn Z9 zfO [.agg (shR g),.int .i64 (b:Int),.int .i64 (t:Int),ctxA c] (·=.agg (encN (wayN (shpG g) s b c (t:Int)))):=by
 refine fn_x zB6 rfl ?_;refine dcU zvg.eq_1 ?_;have S:=hBig;have N:=zL D;have O:=zeg (g:=g);have J:=zj3 g D t;have I:=zo3 g D b P;have w:t<(Dm.treeL (eG g)).length:=by have:=zaT N L;simp only[Dm.treeL,Wr,WP];exact this
 have e:((Dm.treeL (eG g)).map λn=>[Xe .i64 n]).getD t []=[.int .i64 (Dm.treeL (eG g))[t]]:=zg (f:=cI) (d:=[]) w;have z:(Dm.treeL (eG g)).getD t (-1)=(Dm.treeL (eG g))[t]:=by simp[Wp,w]
 have v:=zEJ D L;have k:t∈zaQ (eG g) b↔(Dm.treeL (eG g))[t]=(b:Int):=by unfold zaQ;rw[Wz,decide_eq_true_eq,z];exact⟨λh=>h.2,λh=>⟨L,h⟩⟩
 rw[z]at v;have j:t∈inlL (shpG g) b↔(Dm.treeL (eG g))[t]=(b:Int)/\t∉beyL (shpG g) b/\cntE (eG g) t=1:=by rw[<-k];exact zs7
 have R:[.int .u32 g.addr,encL 2 Xc g.blocks,encL 1 (λ(n:Nat)=>[.int .i64 (n:Int)]) (ordE (eG g)),encL 1 (λ(n:Int)=>[Xe .i64 n]) (Dm.treeL (eG g))]=shR g:=rfl;generalize (Dm.treeL (eG g))[t]=y at e v k j;have B:t∈inlL (shpG g) b->wayN (shpG g) s b c (t:Int)=s t c:=λh=>by unfold wayN;rw[WQ,if_pos h]
 have q:¬t∈inlL (shpG g) b->wayN (shpG g) s b c (t:Int)=zgH c (t:Int):=λh=>by unfold wayN;rw[WQ,if_neg h]
 unfold shR ctxA;by_cases F:y=(b:Int)
 case neg=>
  have A:=q λh=>F (j.1 h).1
  rw[A];refine Gw6 @dT @dF @ua @ub @ud e ?_;intros;unfold zgH;by_cases m:(t:Int)=c.f
  .rw[if_pos m];refine Gw5 @dT @dF @ua @ub @ud ?_;intros;refine ze (zc zqz rfl) ?_;refine Gw5 @zy @zbF.eq_1 @ua @ub @ud ?_;intros;exact⟨_,frzA,rfl⟩
  rw[if_neg m];by_cases o:(t:Int)=c.h
  .rw[if_pos o];refine Qi ?_;intros;exact⟨_,zdw,rfl⟩
  rw[if_neg o];by_cases p:(t:Int)=c.x
  .rw[if_pos p];refine Qi ?_;intros;exact⟨_,zdw,rfl⟩
  rw[if_neg p];refine Qi ?_;intros;exact⟨_,zdw,rfl⟩
 have Q:¬((t:Int)=(b:Int)):=by omega
 refine Gw6 @dT @dF @ua @ub @ud e ?_;intros;refine ze (zc J rfl) ?_;by_cases M:cntE (eG g) t=1
 case neg=>
  have H:¬((cntE (eG g) t:Nat):Int)=1:=by omega
  have A:=q λh=>M (j.1 h).2.2
  rw[A];refine Gw6 @dT @dF @ua @ub @ud e ?_;intros;unfold zgH;by_cases m:(t:Int)=c.f
  .rw[if_pos m];refine Gw5 @dT @dF @ua @ub @ud ?_;intros;refine ze (zc zqz rfl) ?_;refine Gw5 @zy @zbF.eq_1 @ua @ub @ud ?_;intros;exact⟨_,frzA,rfl⟩
  rw[if_neg m];by_cases o:(t:Int)=c.h
  .rw[if_pos o];refine Qi ?_;intros;exact⟨_,zdw,rfl⟩
  rw[if_neg o];by_cases p:(t:Int)=c.x
  .rw[if_pos p];refine Qi ?_;intros;exact⟨_,zdw,rfl⟩
  rw[if_neg p];refine Qi ?_;intros;exact⟨_,zdw,rfl⟩
 have H:((cntE (eG g) t:Nat):Int)=1:=by omega
 refine Gw6 @dT @dF @ua @ub @ud e ?_;intros;refine ze (zc I rfl) ?_;refine Gw6 @dT @dF @ua @ub @ud e ?_;intros;refine ze (zc (Dm.R24_HasN_ok (beyL (shpG g) b) t) rfl) ?_;by_cases C:t∈beyL (shpG g) b
 case pos=>
  have A:=q λh=>(j.1 h).2.1 C
  rw[A,decide_eq_true C];refine Gw6 @dT @dF @ua @ub @ud e ?_;intros;unfold zgH;by_cases m:(t:Int)=c.f
  .rw[if_pos m];refine Gw5 @dT @dF @ua @ub @ud ?_;intros;refine ze (zc zqz rfl) ?_;refine Gw5 @zy @zbF.eq_1 @ua @ub @ud ?_;intros;exact⟨_,frzA,rfl⟩
  rw[if_neg m];by_cases o:(t:Int)=c.h
  .rw[if_pos o];refine Qi ?_;intros;exact⟨_,zdw,rfl⟩
  rw[if_neg o];by_cases p:(t:Int)=c.x
  .rw[if_pos p];refine Qi ?_;intros;exact⟨_,zdw,rfl⟩
  rw[if_neg p];refine Qi ?_;intros;exact⟨_,zdw,rfl⟩
 rw[B (j.2 ⟨F,C,M⟩),decide_eq_false C];have u:=K t (k.2 F) c;unfold shR ctxA at u;refine Gw6 @dT @dF @ua @ub @ud e ?_;intros;refine ze (zc u rfl) ?_;refine Gw5 @zy @zbF.eq_1 @ua @ub @ud ?_;intros;exact⟨_,frzA,rfl⟩
theorem zK2{g:G}(j:OkB g){b:Nat}(e:b∈ordE (eG g)){t:Int}(h:t∈tgS (zgs g b)):∃u∈ordE (eG g),t=(u:Nat):=by have c:=zL j;have d:=zaT c e;rw[c.tg b d]at h;obtain⟨u,k,rfl⟩:=List.mem_map.1 h;exact⟨u,zt4 c e k,rfl⟩
theorem QH{d e g j k p:Prop}(a0:d)(b:e)(c:g)(a3:j)(a4:k)(h:d->e->g->j->k->p:=by intro a0 b c a3 a4;(try simp only[evWB,Nat.reduceBEq,Nat.reduceAdd,Nat.reduceSub,Nat.reduceLeDiff,Nat.reduceLT,implies_true,a0,b,c,a3,a4])<;>(repeat' with_reducible apply And.intro)<;>first|(first|exact zl rfl|exact Vw.new _ _ 5 rfl rfl|exact RowV.of_flat (zE λ_=>zp);done)|exact fin6):p:=h a0 b c a3 a4
theorem QI{j k m n o q s t u v p:Prop}(a0:j)(b:k)(c:m)(a3:n)(a4:o)(a5:q)(d:s)(e:t)(g:u)(a9:v)(h:j->k->m->n->o->q->s->t->u->v->p:=by intro a0 b c a3 a4 a5 d e g a9;(try simp only[evWB,Nat.reduceBEq,Nat.reduceAdd,Nat.reduceSub,Nat.reduceLeDiff,Nat.reduceLT,implies_true,a0,b,c,a3,a4,a5,d,e,g,a9])<;>(repeat' with_reducible apply And.intro)<;>first|(first|exact zl rfl|exact RowV.of_flat (zE λ_=>zp);done)|exact fin6):p:=h a0 b c a3 a4 a5 d e g a9
theorem ztt(g:G)(B:OkB g)(Y:Nat->Ctx->Nd)(b:Nat)(hb:b∈ordE (eG g))(hin:∀x∈zaQ (eG g) b,zuu g Y x)(c:Ctx):zn Z9 zdu [.agg (shR g),.int .i64 (b:Int),ctxA c] (·=.agg (encN (trN (shpG g) Y b c))):=by
 refine fn_x ztc rfl ?_;refine dcU zmq.eq_1 ?_;have hB:=hBig;have hE:=zL B;have hEl:=zeg (g:=g);have o:=zaT hE hb;rw[hEl]at o;have V:∀t∈tgS (zgs g b),zn Z9 zfO [.agg (shR g),.int .i64 (b:Int),.int .i64 t,ctxA c] (·=.agg (encN (wayZ Y (inlL (shpG g) b) c t))):=λt ht=>by obtain⟨u,hu,rfl⟩:=zK2 B hb ht;exact zDe g B Y b u o hu hin c
 obtain⟨h0,hl⟩:=zBM B o;have hst:=B.stm _ (zes o);have hgb:(g.blocks.map Xc).getD b []=(blG g b).cells:=by rw[zg o,zoL o]
 have hcb:(blG g b).cells=[.int .u32 (blG g b).addr,encL 8 St.cells (blG g b).stmts]:=rfl;have hidx:((((blG g b).stmts.length:Nat):Int)-1).toNat=(blG g b).stmts.length-1:=by omega
 have D:(zgs g b)∈(blG g b).stmts.getLast? := by
  unfold zgs;have:=B.ne _ (zes o)
  cases hl:(blG g b).stmts.getLast? with
  |none=>exact absurd (WX.1 hl) this
  |some s=>rfl
 have z:=B.cond _ (zes o) _ D;have hcs:=B.cases _ (zes o) _ (WY D);have hsh:[.int .u32 g.addr,encL 2 Xc g.blocks,zb (ordE (eG g)),za (Dm.treeL (eG g))]=shR g:=rfl;rw[zAH];have U:(shpG g).last b=zgs g b:=rfl;rw[U];generalize inlL (shpG g) b=inl at V⊢;generalize zgs g b=s at hl z hcs V⊢;obtain⟨op,var,p,next,y,A,e,q⟩:=s;simp only at z hcs;unfold ctxA at V⊢;unfold shR;refine Gw8 @ua hgb hcb hidx hl @uq @ub @ud ?_;intros;unfold trZ;simp only;by_cases Z:op=6
 .rw[if_pos Z];have X:=V next (by unfold tgS;simp only;rw[if_pos Z];simp);refine Gw4 @dT @ua @ub @ud ?_;intros;refine ze (zc X rfl) ?_;refine Gw5 @zy @zcU.eq_1 @ua @ub @ud ?_;intros;exact⟨_,frzA,rfl⟩
 rw[if_neg Z];by_cases h7:op=7
 .rw[if_pos h7];have X:=V next (by unfold tgS;simp only;rw[if_neg Z,if_pos h7];simp);have hwe:=V y (by unfold tgS;simp only;rw[if_neg Z,if_pos h7];simp);obtain⟨x,rfl,hx⟩:=z (.inl h7);refine Gw5 @dT @dF @ua @ub @ud ?_;intros;refine zC (zc X rfl) ?_;refine Gw5 @dT @dF @ua @ub @ud ?_;intros;refine zC (zc hwe rfl) ?_;refine Gw7 @dT @dF @ua @rbN2 @zcU.eq_1 @ub @ud ?_;intros;refine⟨_,?_,rfl⟩;rw[zaF];exact zV rfl
 rw[if_neg h7];by_cases h8:op=8
 .rw[if_pos h8];obtain⟨x,rfl,hx⟩:=z (.inr h8);have hwc:∀t∈q,zn Z9 zfO [.agg (shR g),.int .i64 (b:Int),.int .i64 t,.agg [.int .i64 c.f,.int .i64 c.h,.int .i64 c.x]] (·=.agg (encN (wayZ Y inl c t))):=λt ht=>V t (by unfold tgS;simp only;rw[if_neg Z,if_neg h7,if_pos h8];exact ht)
  generalize hW:wayZ Y inl c=W at hwc⊢;refine Gw5 @dT @dF @ua @ub @ud ?_;intros
  refine zd (λs:List Nd×Nat=>([(1,.int .i64 (b:Int)),(3,encP 4 [.int .u32 g.addr,encL 2 Xc g.blocks,zb (ordE (eG g)),za (Dm.treeL (eG g))]),(5,encP 3 [.int .i64 c.f,.int .i64 c.h,.int .i64 c.x]),(6,.ptr 0 0 0 0 0),(8,.ptr 1 0 0 0 0),(9,.ptr 2 0 0 0 0),(10,.int .i64 s.1.length)],[(0,.row 5 [zN] 0),(1,.row 8 [[.int .i64 op,.int .i64 var,.int .i64 p,.int .i64 next,.int .i64 y,.int .u32 A,encL 5 encX [x],za q]] 0),(2,.row 5 [[.int .i64 6,.int .i64 0,.int .i64 0,encL 5 encX [x],.own 3 0 s.2 0 s.1.length]] 0),(3,.row 5 (s.1.map encN) s.2)])) 4
   (λs=>s.1.length<=q.length/\s.1++(q.drop s.1.length).map W=q.map W) (λs=>q.length-s.1.length) ([],0) ⟨Wg _,rfl⟩ ?start ?_
  case start=>exact(Xf [(0,0,0),(1,1,0),(2,2,0)] [] rfl (QH @ud @ua @uk @uj @uh) (QH @ud @ua @uk @uj @uh))
  rintro⟨M,γ⟩ ⟨hi,hM⟩ wf;simp only at hi hM;clear wf;unfold zjI;by_cases T:M.length<q.length
  case neg=>
   have hi2:M.length=q.length:=by omega
   rw[hi2,WZ,Wk,Wi]at hM;subst hM;refine Qj ?_;intros;refine dcU zjC.eq_1 ?_;refine Gw1 @zcU.eq_1 ?_;intros;refine⟨_,?_,rfl⟩;rw[zaF];refine Eq.mpr zcX ?_;exact⟨.int _ _ _,.int _ _ _,.int _ _ _,zV rfl,zp7 (Wr _).symm trivial rfl (by omega),trivial⟩
  have hgi:=zg (f:=cI) (d:=[]) T;have hwv:=hwc _ (Wl T);rw[WO T,Wo]at hM;generalize q[M.length]=v at hgi hwv hM;have C:(q.map λ(n:Int)=>[Xe .i64 n]).getD M.length []=[.int .i64 v]:=hgi;have hel:∀(w:Nd) H,zcq 5 (encL 5 encN [w]) H=some [encN w]:=λw H=>za7 (λ_ _=>zy)
  have hM2:(M++[W v])++(q.drop (M++[W v]).length).map W=q.map W:=by rw[Wu,Wa,Wf];exact hM
  refine Gw4 @dT @ud @ua @ub ?_;intros;refine zsg zhR zoB znL zgl [(64,.ptr 2 0 0 0 4),(65,.own 3 0 γ 0 M.length),(66,.agg [.int .u32 g.addr,encL 2 Xc g.blocks,zb (ordE (eG g)),za (Dm.treeL (eG g))]),(67,.int .i64 (b:Int)),(68,.ptr 1 0 0 0 7),(69,za q),(70,.int .i64 M.length),(71,.iptr 1 λj=>[Xe .i64 v].getD j .undef),(72,.int .i64 v),(73,.agg [.int .i64 c.f,.int .i64 c.h,.int .i64 c.x]),(74,.agg (encN (W v))),(75,encL 5 encN [W v]),(76,.own 3 0 (γ+1) 0 (M.length+1)),(77,.ptr 2 0 0 0 4)] (hsOf [([(0,.row 5 [zN] 0),(1,.row 8 [[.int .i64 op,.int .i64 var,.int .i64 p,.int .i64 next,.int .i64 y,.int .u32 A,encL 5 encX [x],za q]] 0),(2,.row 5 [[.int .i64 6,.int .i64 0,.int .i64 0,encL 5 encX [x],.own 3 0 γ 0 M.length]] 0),(3,.row 5 (M.map encN) γ)],4),([(0,.row 5 [zN] 0),(1,.row 8 [[.int .i64 op,.int .i64 var,.int .i64 p,.int .i64 next,.int .i64 y,.int .u32 A,encL 5 encX [x],za q]] 0),(2,.row 5 [[.int .i64 6,.int .i64 0,.int .i64 0,encL 5 encX [x],.own 3 0 γ 0 M.length]] 0),(3,.row 5 (M.map encN++[encN (W v)]) (γ+1))],4),([(0,.row 5 [zN] 0),(1,.row 8 [[.int .i64 op,.int .i64 var,.int .i64 p,.int .i64 next,.int .i64 y,.int .u32 A,encL 5 encX [x],za q]] 0),(2,.row 5 [[.int .i64 6,.int .i64 0,.int .i64 0,encL 5 encX [x],.own 3 0 (γ+1) 0 (M.length+1)]] 0),(3,.row 5 (M.map encN++[encN (W v)]) (γ+1))],4)]) (by kernel_rfl) (by rfl) (by rfl) (by repeat' first|exact QExt.retK|apply QExt.seq|apply QExt.block|apply QExt.loop|apply QExt.join|assumption) ?plan [] (by rfl) ?fin
  case' plan=>
   intro k hs m hH;have kf64:k.get 64=.ptr 2 0 0 0 4:=by rw[m,zj];rfl
   have F:k.get 65=.own 3 0 γ 0 M.length:=by rw[m,zj];rfl
   have I:k.get 66=.agg [.int .u32 g.addr,encL 2 Xc g.blocks,zb (ordE (eG g)),za (Dm.treeL (eG g))]:=by rw[m,zj];rfl
   have J:k.get 67=.int .i64 (b:Int):=by rw[m,zj];rfl
   have kf68:k.get 68=.ptr 1 0 0 0 7:=by rw[m,zj];rfl
   have K:k.get 69=za q:=by rw[m,zj];rfl
   have L:k.get 70=.int .i64 M.length:=by rw[m,zj];rfl
   have N:k.get 71=.iptr 1 λj=>[Xe .i64 v].getD j .undef:=by rw[m,zj];rfl
   have O:k.get 72=.int .i64 v:=by rw[m,zj];rfl
   have P:k.get 73=.agg [.int .i64 c.f,.int .i64 c.h,.int .i64 c.x]:=by rw[m,zj];rfl
   have Q:k.get 74=.agg (encN (W v)):=by rw[m,zj];rfl
   have R:k.get 75=encL 5 encN [W v]:=by rw[m,zj];rfl
   have S:k.get 76=.own 3 0 (γ+1) 0 (M.length+1):=by rw[m,zj];rfl
   have kf77:k.get 77=.ptr 2 0 0 0 4:=by rw[m,zj];rfl
   have kf1:k.get 1=.int .i64 (b:Int):=by rw[m,zj];rfl
   have kf3:k.get 3=encP 4 [.int .u32 g.addr,encL 2 Xc g.blocks,zb (ordE (eG g)),za (Dm.treeL (eG g))]:=by rw[m,zj];rfl
   have kf5:k.get 5=encP 3 [.int .i64 c.f,.int .i64 c.h,.int .i64 c.x]:=by rw[m,zj];rfl
   have kf8:k.get 8=.ptr 1 0 0 0 0:=by rw[m,zj];rfl
   have kf9:k.get 9=.ptr 2 0 0 0 0:=by rw[m,zj];rfl
   have kf10:k.get 10=.int .i64 M.length:=by rw[m,zj];rfl
   simp only[zgl,zng,zpD,and_true]
   (repeat' with_reducible apply Wc)
   all_goals(rw[hH];simp only[zpH,zhi,WG,WH,hsOf,hsAt,beqL,zgX,Xa,WI,Wy,Ww,WJ,cond_true,cond_false,Wd,Wj,Xb])
   all_goals try(simp(disch:=try exact dis1) only[evD,Xa,Xb,Xd,zcW,zca,kf64,F,I,J,kf68,K,L,N,O,P,Q,R,S,kf77,kf1,kf3,kf5,kf8,kf9,kf10,encP,za,zb,C,rbN1,hel,Wr];done)
  case' fin=>simp only[zhR,hsOf,hsAt,beqL,zgX,Xa,WI,Wy,Ww,WJ,cond_true,cond_false,Wd,Wj,Xb,WG,WH,zaI]
  ·(refine Gw0 ?_;intros);exact⟨(M++[W v],γ+1),⟨by simp only[Wa,Wf];omega,hM2⟩,by simp only[Wa,Wf];omega,(Xf [(0,0,0),(1,1,0),(2,2,0),(3,3,0)] [] rfl (QI @ub @ud @ua @uk @m9A @m9P @ui @uh @m9C @uj) (QI @ub @ud @ua @uk @m9A @m9P @ui @uh @m9C @uj))⟩
  ·(refine Gw8 K L N @ud @dT C @zcW @zca ?_;intros);all_goals omega
  ·(refine Gw4 I J O P ?_;intros);refine zC (zc hwv rfl) ?_;(refine Gw3 Q @zcW @zca ?_;intros;try with_reducible exact trivial)
  ·(refine Gw9 F R S hel @m9M @ui @uh @zcW @zca ?_;intros);all_goals omega
 rw[if_neg h8];by_cases h9:op=9
 .rw[if_pos h9];refine Gw6 @dT @dF @zcU.eq_1 @ua @ub @ud ?_;intros;exact⟨_,zdw,rfl⟩
 rw[if_neg h9];refine Qj ?_;intros;refine dcU zjK.eq_1 ?_;refine Gw1 @zcU.eq_1 ?_;intros;exact⟨_,zdw,rfl⟩
end Go.Ab
