/-
  Part 8 of the proof: how the calls of this program run, over values instead of memory, and what each function computes.
-/
import Derived.KernelRfl
import Derived.Test.YtihlaappclhhaaaGreatKg
set_option maxRecDepth 100000
set_option cbv.warning false
set_option cbv.maxSteps 100000000
set_option linter.unusedVariables false
set_option linter.unusedSimpArgs false
set_option linter.unnecessarySimpa false
set_option linter.unusedSectionVars false
namespace Go.Ab
open Go.RowKit Go.Proofs
def len8:ByteArray:=⟨#[0,1,2,2,3,3,3,3,4,4,4,4,4,4,4,4,5,5,5,5,5,5,5,5,5,5,5,5,5,5,5,5,6,6,6,6,6,6,6,6,6,6,6,6,6,6,6,6,6,6,6,6,6,6,6,6,6,6,6,6,6,6,6,6,7,7,7,7,7,7,7,7,7,7,7,7,7,7,7,7,7,7,7,7,7,7,7,7,7,7,7,7,7,7,7,7,7,7,7,7,7,7,7,7,7,7,7,7,7,7,7,7,7,7,7,7,7,7,7,7,7,7,7,7,7,7,7,7,8,8,8,8,8,8,8,8,8,8,8,8,8,8,8,8,8,8,8,8,8,8,8,8,8,8,8,8,8,8,8,8,8,8,8,8,8,8,8,8,8,8,8,8,8,8,8,8,8,8,8,8,8,8,8,8,8,8,8,8,8,8,8,8,8,8,8,8,8,8,8,8,8,8,8,8,8,8,8,8,8,8,8,8,8,8,8,8,8,8,8,8,8,8,8,8,8,8,8,8,8,8,8,8,8,8,8,8,8,8,8,8,8,8,8,8,8,8,8,8,8,8,8,8,8,8,8,8]⟩
def tbI:Nat→Int|0=>0|1=>1|2=>6|3=>7|4=>8|5=>64|6=>20|7=>2|8=>256|9=>1024|10=>18|11=>4|12=>3|13=>5|14=>9|15=>10|16=>-1|17=>15|18=>16|19=>17|20=>19|21=>65536|22=>4294967296|23=>32|24=>50|25=>12|26=>13|27=>60|_=>0
def rdN(s:Nat):Nat×Nat:=bif Nat.blt (s%16) 12 then (s%16,s/16) else bif Nat.blt (s%16) 15 then (12+(s%16-12)*16+s/16%16,s/256) else bif Nat.beq (s/16%256) 255 then (s/65536%16^(s/4096%16),s/65536/16^(s/4096%16)) else (60+s/16%256,s/4096)
def kdN:Nat→IntKind|0=>.i8|1=>.i16|2=>.i32|3=>.i64|4=>.u8|5=>.u16|6=>.u32|_=>.u64
def rdI(s:Nat):Int×Nat:=match rdN s with|(n,r)=>(tbI n,r)
def rdB(s:Nat):Bool×Nat:=match rdN s with|(n,r)=>(Nat.beq n 1,r)
def rdK(s:Nat):IntKind×Nat:=match rdN s with|(n,r)=>(kdN n,r)
def rdJ(s:Nat):Option IntKind×Nat:=match rdN s with|(0,r)=>(none,r)|(n+1,r)=>(some (kdN n),r)
def rdL{α:Type}(f:Nat→α×Nat):Nat→Nat→List α×Nat
 |0,s=>([],s)
 |n+1,s=>match f s with|(a,r)=>match rdL f n r with|(l,r)=>(a::l,r)
def rdM{α:Type}(f:Nat→α×Nat)(s:Nat):List α×Nat:=match rdN s with|(n,r)=>rdL f n r
def rdA(s:Nat):AV×Nat:=match rdN s with
 |(0,r)=>match rdI r with|(n,r)=>(.int .i64 n,r)
 |(1,r)=>(.bool false,r)
 |(2,r)=>(.bool true,r)
 |(3,r)=>match rdI r with|(n,r)=>(.int .u32 n,r)
 |(4,r)=>(.nilsl,r)
 |(5,r)=>(.undef,r)
 |(6,r)=>(.nilp,r)
 |(7,r)=>match rdK r with|(k,r)=>match rdI r with|(n,r)=>(.int k n,r)
 |(8,r)=>(.nilmp,r)
 |(_,r)=>(.nilfn,r)
def rdV(s:Nat):AV×Nat:=bif Nat.beq (s%16) 10 then match rdM rdA (s/16) with|(l,r)=>(.agg l,r) else rdA s
def rdO(c s:Nat):AOpd×Nat:=match rdN s with
 |(0,r)=>match rdV r with|(v,r)=>(.c v,r)
 |(1,r)=>(.t c,r)
 |(2,r)=>(.t (c-1),r)
 |(n+3,r)=>(.t n,r)
def rdP(c s:Nat):Option AOpd×Nat:=match rdN s with|(0,r)=>(none,r)|(_,r)=>match rdO c r with|(x,r)=>(some x,r)
def rd2(c s:Nat):(Nat×AOpd)×Nat:=match rdN s with|(n,r)=>match rdO c r with|(x,r)=>((n,x),r)
def rd3(c s:Nat):(Nat×Nat×AOpd)×Nat:=match rdN s with|(n,r)=>match rdN r with|(m,r)=>match rdO c r with|(x,r)=>((n,m,x),r)
def opN:Nat→BinOp|0=>.add|1=>.sub|2=>.mul|3=>.lss|4=>.leq|5=>.gtr|6=>.geq|7=>.eql|8=>.neq|9=>.quo|10=>.rem|11=>.and|12=>.or|13=>.xor|14=>.shl|15=>.shr|_=>.andNot
def rdX(s:Nat):XOp×Nat:=match rdN s with
 |(0,r)=>(.nilck,r)
 |(1,r)=>(.mkmap,r)
 |(2,r)=>(.nope,r)
 |(3,r)=>(.mrange,r)
 |(4,r)=>(.mlen,r)
 |(5,r)=>(.ment,r)
 |(6,r)=>(.capn,r)
 |(7,r)=>match rdN r with|(a,r)=>match rdN r with|(b,r)=>(.aaddr a b,r)
 |(8,r)=>match rdN r with|(a,r)=>match rdN r with|(b,r)=>match rdB r with|(t,r)=>(.aidx a b t,r)
 |(9,r)=>match rdJ r with|(k,r)=>match rdB r with|(b,r)=>match rdV r with|(z,r)=>(.mlook k b z,r)
 |(10,r)=>match rdJ r with|(k,r)=>(.mset k,r)
 |(11,r)=>match rdJ r with|(k,r)=>(.mdel k,r)
 |(12,r)=>match rdB r with|(b,r)=>match rdM rdN r with|(l,r)=>(.eqs b l,r)
 |(13,r)=>match rdN r with|(a,r)=>(.sl3 a,r)
 |(14,r)=>match rdN r with|(a,r)=>match rdN r with|(b,r)=>match rdM rdV r with|(z,r)=>(.apz a b z,r)
 |(_,r)=>(.sidx,r)
def rdQ(c s:Nat):AOp×Nat:=match rdN s with
 |(0,r)=>match rdO c r with|(x,r)=>(.mov x,r)
 |(1,r)=>match rdO c r with|(x,r)=>(.load false 1 x,r)
 |(2,r)=>match rdN r with|(n,r)=>match rdO c r with|(x,r)=>(.load true n x,r)
 |(3,r)=>match rdN r with|(a,r)=>match rdN r with|(b,r)=>match rdO c r with|(x,r)=>(.fldaddr a b x,r)
 |(4,r)=>match rdN r with|(n,r)=>match rdO c r with|(x,r)=>match rdO c r with|(y,r)=>(.idx n x y,r)
 |(5,r)=>match rdO c r with|(x,r)=>(.len x,r)
 |(6,r)=>match rdN r with|(n,r)=>match rdO c r with|(x,r)=>match rdO c r with|(y,r)=>(.bin (opN n) x y,r)
 |(7,r)=>match rdO c r with|(z,r)=>match rdO c r with|(x,r)=>match rdO c r with|(y,r)=>(.pick z x y,r)
 |(8,r)=>match rdN r with|(n,r)=>match rdO c r with|(x,r)=>match rdO c r with|(y,r)=>(.store n x y,r)
 |(9,r)=>match rdM rdV r with|(l,r)=>(.alloc l,r)
 |(10,r)=>match rdN r with|(n,r)=>match rdM (rdO c) r with|(l,r)=>(.call n l,r)
 |(11,r)=>match rdN r with|(n,r)=>match rdM (rdO c) r with|(l,r)=>(.callq n l,r)
 |(12,r)=>match rdO c r with|(x,r)=>(.un .not x,r)
 |(13,r)=>match rdO c r with|(x,r)=>(.rbox x,r)
 |(14,r)=>match rdN r with|(n,r)=>match rdO c r with|(x,r)=>(.ext n x,r)
 |(15,r)=>match rdN r with|(n,r)=>match rdN r with|(m,r)=>match rdO c r with|(x,r)=>match rdO c r with|(y,r)=>(.append n m x y,r)
 |(16,r)=>match rdX r with|(x,r)=>match rdM (rdO c) r with|(l,r)=>(.xop x l,r)
 |(17,r)=>match rdN r with|(n,r)=>match rdN r with|(m,r)=>match rdM rdV r with|(z,r)=>match rdM (rd2 c) r with|(p,r)=>(.buildSl n m z p,r)
 |(18,r)=>match rdN r with|(n,r)=>(.mknil n,r)
 |(19,r)=>match rdO c r with|(x,r)=>(.box x,r)
 |(20,r)=>match rdN r with|(n,r)=>match rdN r with|(m,r)=>match rdM rdV r with|(z,r)=>match rdM (rd2 c) r with|(p,r)=>(.rbuildSl n m z p,r)
 |(21,r)=>match rdM rdV r with|(z,r)=>match rdM (rd3 c) r with|(p,r)=>(.build z p,r)
 |(22,r)=>match rdN r with|(n,r)=>match rdN r with|(m,r)=>match rdM rdV r with|(z,r)=>match rdO c r with|(x,r)=>match rdO c r with|(y,r)=>(.mksl n m z x y,r)
 |(23,r)=>match rdO c r with|(x,r)=>match rdM (rdO c) r with|(l,r)=>(.callv x l,r)
 |(24,r)=>match rdN r with|(n,r)=>match rdO c r with|(x,r)=>match rdP c r with|(a,r)=>match rdP c r with|(b,r)=>(.slice n x a b,r)
 |(25,r)=>match rdK r with|(k,r)=>match rdO c r with|(x,r)=>(.conv k x,r)
 |(26,r)=>match rdB r with|(a,r)=>match rdB r with|(b,r)=>match rdO c r with|(x,r)=>(.isnil a b x,r)
 |(27,r)=>match rdB r with|(a,r)=>match rdO c r with|(x,r)=>match rdO c r with|(y,r)=>(.eqb a x y,r)
 |(28,r)=>match rdN r with|(n,r)=>match rdM rdV r with|(z,r)=>match rdO c r with|(x,r)=>(.clear n z x,r)
 |(29,r)=>match rdN r with|(a,r)=>match rdN r with|(b,r)=>match rdB r with|(t,r)=>match rdO c r with|(x,r)=>(.fld a b t x,r)
 |(30,r)=>match rdO c r with|(x,r)=>(.mnext x,r)
 |(_,r)=>match rdN r with|(n,r)=>match rdM (rdO c) r with|(l,r)=>(.mkfn (.func n) l,r)
def gdN(g:Nat):Option (Nat×Bool):=some (g/2,Nat.beq (g%2) 1)
def rdR(s c g:Nat):AOper×Nat×Nat×Nat:=match rdN s with
 |(0,r)=>match rdQ c r with|(o,r)=>(⟨some (c+1),o,none⟩,r,c+1,g)
 |(1,r)=>match rdQ c r with|(o,r)=>(⟨none,o,none⟩,r,c,g)
 |(2,r)=>match rdN r with|(d,r)=>match rdQ c r with|(o,r)=>(⟨some d,o,none⟩,r,d,g)
 |(3,r)=>match rdQ c r with|(o,r)=>(⟨some (c+1),o,gdN g⟩,r,c+1,g)
 |(4,r)=>match rdQ c r with|(o,r)=>(⟨none,o,gdN g⟩,r,c,g)
 |(5,r)=>match rdN r with|(d,r)=>match rdQ c r with|(o,r)=>(⟨some d,o,gdN g⟩,r,d,g)
 |(6,r)=>match rdN r with|(g,r)=>match rdQ c r with|(o,r)=>(⟨some (c+1),o,gdN g⟩,r,c+1,g)
 |(7,r)=>match rdN r with|(g,r)=>match rdQ c r with|(o,r)=>(⟨none,o,gdN g⟩,r,c,g)
 |(_,r)=>match rdN r with|(g,r)=>match rdN r with|(d,r)=>match rdQ c r with|(o,r)=>(⟨some d,o,gdN g⟩,r,d,g)
def rdS:Nat→Nat→Nat→Nat→List AOper×Nat×Nat×Nat
 |0,s,c,g=>([],s,c,g)
 |n+1,s,c,g=>match rdR s c g with|(o,s,c,g)=>match rdS n s c g with|(l,r)=>(o::l,r)
def rdU:Nat→Nat→Nat→List Nat×Nat
 |0,_,s=>([],s)
 |n+1,p,s=>match rdN s with|(d,s)=>match rdU n (p+d+1) s with|(l,s)=>((p+d)::l,s)
def rdD(s:Nat):List Nat×Nat:=match rdN s with|(n,r)=>rdU n 0 r
def rdT:Nat→Nat→Nat→Nat→DTree×Nat
 |0,s,_,_=>(.stop,s)
 |n+1,s,c,g=>match rdN s with
  |(0,s)=>(.done,s)
  |(1,s)=>(.stop,s)
  |(2,s)=>match rdR s c g with|(o,s,c,g)=>match rdT n s c g with|(t,s)=>(.step o t,s)
  |(_,s)=>match rdR s c g with|(o,s,c',g')=>match rdT n s c' g' with|(t,s)=>match rdT n s c g with|(u,s)=>(.alt o t u,s)
def rdC(cs:List ACode):Nat→Nat→Nat→ACode×Nat×Nat
 |0,s,c=>(.skip,s,c)
 |n+1,s,c=>match rdN s with
  |(0,s)=>(.skip,s,c)
  |(1,s)=>match rdN s with|(k,s)=>match rdS k s c 0 with|(l,s,c,_)=>match rdD s with|(d,s)=>(.region l d,s,c)
  |(2,s)=>match rdT n s c 0 with|(t,s)=>match rdD s with|(d,s)=>(.draw t d,s,c)
  |(3,s)=>match rdC cs n s c with|(a,s,c)=>match rdC cs n s c with|(b,s,c)=>(.seq a b,s,c)
  |(4,s)=>match rdO c s with|(x,s)=>match rdC cs n s c with|(a,s,c)=>match rdC cs n s c with|(b,s,c)=>(.cond x a b,s,c)
  |(5,s)=>match rdN s with|(k,s)=>match rdC cs n s c with|(a,s,c)=>(.block k a,s,c)
  |(6,s)=>match rdC cs n s c with|(a,s,c)=>(.loop a,s,c)
  |(7,s)=>match rdN s with|(k,s)=>(.exit k,s,c)
  |(8,s)=>(.ret,s,c)
  |(9,s)=>match rdN s with|(k,s)=>(cs.getD k .skip,s,c)
  |(10,s)=>match rdC cs n s c with|(a,s,c)=>match rdC cs n s c with|(b,s,c)=>(.join a b,s,c)
  |(_,s)=>match rdO c s with|(x,s)=>match rdM rdN s with|(p,s)=>match rdC cs n s c with|(a,s,c)=>match rdC cs n s c with|(b,s,c)=>(.range x p a b,s,c)
def dcC(s:Nat)(cs:List ACode):ACode:=(rdC cs 150 s 0).1
@[cbv_opaque] def zkG:ACode:=dcC 0x505441052100106080a23108b3004200421131400002961276040011012140800300c26131530701400631936015030080624133 []
@[cbv_opaque] def zkU:ACode:=.seq (.region [(oN 4 (.mov (.c (.bool false))))] [0,1,5]) (.ret)
def zoR:ACode:=dcC 0x190960500000011334110042113 [zkG,zkU]
def zkk:List ARet:=[.tmp 4]
theorem zr2:zO Tryz.prog zlJ (qRo [])=some (zoR.strip,zkk,18):=by kernel_rfl
def zrc:ACode:=dcC 0x80000300710421923ea010141115c040010141115c03006134110042113 []
def zqd:List ARet:=[.tmp 4]
theorem zvj:zO Tryz.prog zmp (qRo [])=some (zrc.strip,zqd,10):=by kernel_rfl
@[cbv_opaque] def zlH:ACode:=dcC 0x2c03d4410621001060908d231081e0300510042113be4000000000000027d3c013e860211021214029002110212140280024002110212140290021102121402800230ad222335327014000001d614d36015011012140800300901d27133 []
@[cbv_opaque] def zlK:ACode:=dcC 0x096310521001060804c231 []
@[cbv_opaque] def zlE:ACode:=dcC 0x1909625bc4200006211308ac3004100421133d400000000023cb01dc86021502110212140280024002150211021214028002306c2223315307014000c313c360150300800c24133 [zlH,zlK]
@[cbv_opaque] def zl4:ACode:=.seq (.region [(oN 4 (.mov (.c (.bool true))))] [0,1,5]) (.ret)
def zpn:ACode:=dcC 0x19096056420000011330890031004211314000741b860150400150307251334110042113 [zlE,zl4]
def zg9:List ARet:=[.tmp 4]
theorem zuQ:zO Tryz.prog zkv (qRo [])=some (zpn.strip,zg9,53):=by kernel_rfl
def zjw:ACode:=dcC 0x8000000000003002c10421203c701236340330cc6100101a7010c31186fa3403c61001186fa03001c134110042113 []
def zjm:List ARet:=[.tmp 4]
theorem zom:zO Tryz.prog zK (qRo [])=some (zjw.strip,zjm,17):=by kernel_rfl
def zik:ACode:=dcC 0x8002041022128603003004132110022113 []
def ziO:List ARet:=[.tmp 2]
theorem znb:zO Tryz.prog zd3 (qRo [])=some (zik.strip,ziO,6):=by kernel_rfl
def zjs:ACode:=dcC 0x80011410220001240fa01141fa0222041310216c011c0213 []
def zgg:List ARet:=[.tmp 2]
theorem zog:zO Tryz.prog zcm (qRo [1])=some (zjs.strip,zgg,6):=by kernel_rfl
@[cbv_opaque] def zio:ACode:=dcC 0x9c1100c21003c0602100000a47211817c6c14012270fa07004220700203c27101c2104220021315307014302c3c361c2113 []
@[cbv_opaque] def ziW:ACode:=.seq (.region [(oM 22 3),(oM 2 22)] [1,3,11,12,22]) (.ret)
def zls:ACode:=dcC 0x19096050920000015011041139241330005410321141cc1ac015011021135251310216c011c0213 [zio,ziW]
def zlg:List ARet:=[.tmp 2]
theorem zpE:zO Tryz.prog ziK (qRo [1])=some (zls.strip,zlg,23):=by kernel_rfl
@[cbv_opaque] def zg3:ACode:=.seq (.region [(oM 42 7),(oN 43 (.mkfn (.func zdA) [(.t 2)])),(oN 44 (.call zcv [(.t 42),(.t 43)])),(oM 4 44)] [2,6,7,37,42,43,44]) (.ret)
def zjf:ACode:=dcC 0x0900012d6510721110fa01109173bd2411475cc3109d2400fc76ad22130000155c681072118d02001215c01109143011091334d261145dc2102d2300fc763d221300105c661072101001115c01109133fc24114ec110dc2200176ec221305bc11102103bc2213a016c0113000000a049dc1881440300000000008962182018c8401001160150800805c281308a22316c421131402c20001760150102c23133000006171052110111301224040011051138271330216c4211c22213 [zg3]
def zfI:List ARet:=[.tmp 4]
theorem zol:zO Tryz.prog zgM (qRo [2])=some (zjf.strip,zfI,45):=by kernel_rfl
def zhz:ACode:=dcC 0x800000000200b10321209701a66315311341133300c61000001360300a133110032113 []
def ze4:List ARet:=[.tmp 3]
theorem zmF:zO Tryz.prog zdA (qRo [])=some (zhz.strip,ze4,13):=by kernel_rfl
def zga:ACode:=.seq (.region [(oN 2 (.rbox (.t 0))),(oN 4 (.mknil 1))] [0,4]) (.seq (.seq (.region [(oM 8 1),(oL 9 2),(oE 10 9),(oB 11 .geq 8 10)] [8,9,10]) (.cond (.t 11) (.seq (.region [(oN 4 (.mknil 1))] [1,2,11]) (.ret)) (.skip))) (.seq (.region [(oL 12 2),(oE 13 12),(oN 14 (.mksl 1 1 [.bool false] (.t 13) (.t 13))),(oN 5 (.alloc [.nilsl])),(oS 1 5 14)] [4,11,12,13,14]) (.seq (.region [(oN 6 (.alloc [.nilsl]))] []) (.seq (.region [(oN 7 (.alloc [.nilfn]))] []) (.seq (.region [(oN 15 (.mkfn (.func zdu) [(.t 5),(.t 2),(.t 7),(.t 6)])),(oS 1 7 15)] [2,5,15]) (.seq (.region [(oL 16 7),(oM 17 1),(oN 18 (.callv (.t 16) [(.t 17)]))] [1,7,16,17,18]) (.seq (.region [(oL 19 6),(oN 20 (.call zc4 [(.t 19)]))] [19,20]) (.seq (.region [(oL 21 6),(oM 4 21)] [6,21]) (.ret)))))))))
def zf8:List ARet:=[.tmp 4]
theorem zjq:zO Tryz.prog zeB (qRo [2])=some (zga.strip,zf8,22):=by kernel_rfl
@[cbv_opaque] def zf5:ACode:=dcC 0x34c73104c21007c0602100004c75112bc0a0061031140008c410c011012140a00418c2513005c3107211025c14031315307014306c7c365c2113 []
@[cbv_opaque] def zfO:ACode:=dcC 0x0000c0090100b1718114d813c0101001115c0300711d251 []
def zhN:ACode:=dcC 0x190960500824000001501101214030051061330083201181121403004182413 [zf5,zfO]
def zhy:List ARet:=[]
theorem zmu:zO Tryz.prog zdu (qRo [])=some (zhN.strip,zhy,33):=by kernel_rfl
def zlO:ACode:=dcC 0x871000022113087170002211314004115107210c01160fa0252824138112600022113140043103210c0500125ffa0252424130531020000011c0213 []
def zgk:List ARet:=[.tmp 2]
theorem zqF:zO Tryz.prog zjF (qRo [1])=some (zlO.strip,zgk,11):=by kernel_rfl
@[cbv_opaque] def ziQ:ACode:=dcC 0xbc1102c21005c06bc22100000c56103219c06015011081130606c261003c38c12814032952122023c24041315307014304c5c363c2113 []
@[cbv_opaque] def zin:ACode:=dcC 0x1dd724101e21004e06ae221080600400dca910221c00213147e10001860107e22130bd9310a2111dfa01825e2313002e37e1881440300000000008992182022e84041355347014303e4e362e2113 []
@[cbv_opaque] def zih:ACode:=dcC 0x900fd410ad2100dd06be221 []
@[cbv_opaque] def zir:ACode:=dcC 0x19096456d72000001501101113ed241300bd30e1281403297212202bd2404133532701430cddd36bd2113 [zin,zih]
@[cbv_opaque] def ziX:ACode:=.seq (.region [(oK 2 0)] [36,37,38]) (.ret)
@[cbv_opaque] def zij:ACode:=dcC 0x190962503d0140000015011021137d24133084d12a0002211314000d2410c0111cfa02224d23133081d122000221131400000090083b1203d70900156360ce610080015601501104113cc28133 [zir,ziX]
def zlr:ACode:=dcC 0x1909605b1000001501104113b241330000001131020000011c0213 [ziQ,zij]
def zcL:List ARet:=[.tmp 2]
theorem zpS:zO Tryz.prog zgq (qRo [1])=some (zlr.strip,zcL,56):=by kernel_rfl
def zle:ACode:=dcC 0x8ec3216c2211308001ec3510221110fa011061734d241314755c3102d24008c763d221380000151c381022111d02001215c0110614301106133dc26131456c210bc23008c76cc2213800101c361022101001115c011061338c2413147c1106c22001767c2213054c111011034c2213300000000401b6c1881440300000000008932182010c840100116015011041130110211382a130851216c221131400430001760150110211342413310216c011c0213 []
def zcN:List ARet:=[.tmp 2]
theorem zpN:zO Tryz.prog zeq (qRo [1])=some (zle.strip,zcN,35):=by kernel_rfl
def zsd:ACode:=.seq (.region [(oN 1 (.rbox (.t 0))),(oN 2 (.mknil 1))] [0,2]) (.seq (.region [(oN 3 (.alloc [.nilsl]))] []) (.seq (.region [(oA 4 5 1),(oN 5 (.mkfn (.func zie) [(.t 3)])),(oN 6 (.call zmi [(.t 4),(.t 5)]))] [1,4,5,6]) (.seq (.region [(oL 7 3),(oN 8 (.call zey [(.t 7)]))] [7,8]) (.seq (.region [(oL 9 3),(oN 10 (.call zc7 [(.t 9)])),(oM 2 10)] [3,9,10]) (.ret)))))
def zsa:List ARet:=[.tmp 2]
theorem zyC:zO Tryz.prog zq6 (qRo [1])=some (zsd.strip,zsa,11):=by kernel_rfl
def zpi:ACode:=dcC 0x00000020181418119813c0101001115c01105123041061140327001760110110303130111c22113 []
def zlW:List ARet:=[]
theorem zuO:zO Tryz.prog zie (qRo [2])=some (zpi.strip,zlW,11):=by kernel_rfl
def zpv:ACode:=dcC 0x800000000020b10221200c70b001763306c6100120870700176330a61001001760300b132110022113 []
def zi8:List ARet:=[.tmp 2]
theorem zuX:zO Tryz.prog zk2 (qRo [])=some (zpv.strip,zi8,13):=by kernel_rfl
@[cbv_opaque] def zjj:ACode:=dcC 0x1ac32410ac2100dc063d2210806001c4171022900213140d10001860100d221308c531062113bfa0152ec231300bc30d1581400000300595215202bc5404131530701430ccdc36bc2113 []
@[cbv_opaque] def zjg:ACode:=dcC 0x86d1000022113086d17000221131409006c1610c0113cfa04824d23133 []
def zl5:ACode:=dcC 0x190960503c230000015011021637c24133084c127000221131400000006391203c7014c8631531134163360cc6100000136010a291300731032113afa011021037241331020000011c0213 [zjj,zjg]
def za9:List ARet:=[.tmp 2]
theorem zp3:zO Tryz.prog zgZ (qRo [1])=some (zl5.strip,za9,35):=by kernel_rfl
def zjY:ACode:=dcC 0x87324c0002211308732000022113140c3210b23c006764c2210143c110b22c006763c22130142c110b22006762c22130141c110b21c006761c221301429210b20c006760c221338532700022113145421092700676a2213803210002211314811042400276822101471104230027672213014611042b00276622130145110421001765221330501300113321000022113 []
def zab:List ARet:=[.tmp 2]
theorem zot:zO Tryz.prog zhh (qRo [])=some (zjY.strip,zab,17):=by kernel_rfl
def zbH:ACode:=dcC 0x8000000000000000000000000000000000000000096c8b0113e10221011ff7012763703153113417375f610010118f7011af76311361433113414367f610010111f70113f76311361333113413359f61001010af7010cf7631136153311341534bf610010103f70105f7631136123311341233df61001fe760110611301102113be2dd130085e0114100221131400005e5120ae705001563702af61001001360105e26130010e4104215011041732e24131481d63100e24009761e22130000011d681100e118136143fd22fd1dd22ed118131100e118136143fd22ed1e1813fd1dd236133ed2241430211024133ad2221453d2108d23009769d2213001cc65211816133011041335d241145ec2103d22009764d22130017c65211816153011041530d2411495c210ec21c00976fc2213088c0114100221131400ac310c01162fa011041230413001a65211816123011041237c241314a72105c27009766c221308b01141002211314001c310c01161fa01104113041300206521181611301104113a2413149110720c0027692210148110721001768221330551110410302133000000113044030000000000890113102100011c0213 []
def zh:List ARet:=[.tmp 2]
theorem zce:zO Tryz.prog zbq (qRo [1])=some (zbH.strip,zh,95):=by kernel_rfl
def zbb:ACode:=.seq (.region [(oN 1 (.rbox (.t 0))),(oN 2 (.mov (.c (.bool false))))] [0,2]) (.seq (.region [(oF 5 0 1 1),(oL 6 5),(oN 7 (.build [.int .i64 0,.int .u32 0,.int .i64 0,.int .i64 0,.nilsl] [(0,1,(.t 6))])),(oN 3 (.alloc [.int .i64 0,.int .u32 0,.int .i64 0,.int .i64 0,.nilsl])),(oS 5 3 7)] [5,6,7]) (.seq (.region [(oK 4 0)] []) (.seq (.block 0 (.seq (.region [(oF 9 0 1 1),(oL 10 9),(oC 11 .eql 10 1),(oM 8 11)] [9,10,11]) (.cond (.t 8) (.region [(oF 12 1 1 1),(oL 13 12),(oF 14 1 1 3),(oS 1 14 13)] [8,12,13,14]) (.seq (.region [(oF 16 0 1 1),(oL 17 16),(oC 18 .eql 17 2),(oM 19 18),(oG 20 19 true (.fldaddr 2 1 (.t 1))),(oG 21 19 true (.load false 1 (.t 20))),(oG 22 19 true (.call zh6 [(.t 21)])),(oN 23 (.pick (.t 19) (.t 22) (.c (.bool false)))),(oM 15 23)] [8,16,17,18,19,20,21,22,23]) (.cond (.t 15) (.region [(oF 24 2 1 1),(oL 25 24),(oF 26 2 1 3),(oS 1 26 25)] [15,24,25,26]) (.seq (.region [(oF 28 0 1 1),(oL 29 28),(oC 30 .geq 29 3),(oM 31 30),(oG 32 31 true (.fldaddr 0 1 (.t 1))),(oG 33 31 true (.load false 1 (.t 32))),(oG 34 31 true (.bin .leq (.t 33) (.c (.int .i64 15)))),(oN 35 (.pick (.t 31) (.t 34) (.c (.bool false)))),(oM 27 35)] [4,15,28,29,30,31,32,33,34,35]) (.cond (.t 27) (.region [(oK 4 2)] [27]) (.seq (.seq (.region [(oF 37 0 1 1),(oL 38 37),(oC 39 .eql 38 16),(oM 36 39)] [27,37,38,39]) (.cond (.t 36) (.skip) (.region [(oF 40 0 1 1),(oL 41 40),(oC 42 .eql 41 17),(oM 36 42)] [40,41,42]))) (.cond (.t 36) (.region [(oK 4 1)] [36]) (.seq (.seq (.region [(oF 44 0 1 1),(oL 45 44),(oC 46 .eql 45 18),(oM 47 46),(oG 48 47 true (.fldaddr 3 1 (.t 1))),(oG 49 47 true (.load false 1 (.t 48))),(oG 50 47 true (.call zk2 [(.t 49)])),(oN 51 (.pick (.t 47) (.t 50) (.c (.bool false)))),(oM 43 51)] [36,44,45,46,47,48,49,50,51]) (.cond (.t 43) (.skip) (.region [(oF 52 0 1 1),(oL 53 52),(oC 54 .eql 53 19),(oM 55 54),(oG 56 55 true (.fldaddr 3 1 (.t 1))),(oG 57 55 true (.load false 1 (.t 56))),(oG 58 55 true (.bin .eql (.t 57) (.c (.int .i64 1)))),(oG 59 55 true (.mov (.t 58))),(oG 60 59 false (.fldaddr 3 1 (.t 1))),(oG 61 59 false (.load false 1 (.t 60))),(oG 62 59 false (.bin .eql (.t 61) (.c (.int .i64 2)))),(oG 63 55 true (.pick (.t 59) (.c (.bool true)) (.t 62))),(oN 64 (.pick (.t 55) (.t 63) (.c (.bool false)))),(oM 43 64)] [52,53,54,55,56,57,58,59,60,61,62,63,64]))) (.cond (.t 43) (.seq (.region [(oK 4 1)] [43]) (.region [(oF 65 3 1 1),(oL 66 65),(oF 67 3 1 3),(oS 1 67 66)] [65,66,67])) (.seq (.region [(oN 2 (.mov (.c (.bool false))))] [1,3,43]) (.ret))))))))))))) (.seq (.region [(oF 68 1 1 1),(oL 69 68),(oF 70 1 1 3),(oL 71 70),(oB 72 .eql 69 71),(oM 73 72),(oG 74 73 true (.fldaddr 2 1 (.t 1))),(oG 75 73 true (.load false 1 (.t 74))),(oG 76 73 true (.fldaddr 2 1 (.t 3))),(oG 77 73 true (.load false 1 (.t 76))),(oG 78 73 true (.bin .eql (.t 75) (.t 77))),(oN 79 (.pick (.t 73) (.t 78) (.c (.bool false)))),(oM 80 79),(oG 81 80 true (.fldaddr 3 1 (.t 1))),(oG 82 80 true (.load false 1 (.t 81))),(oG 83 80 true (.fldaddr 3 1 (.t 3))),(oG 84 80 true (.load false 1 (.t 83))),(oG 85 80 true (.bin .eql (.t 82) (.t 84))),(oN 86 (.pick (.t 80) (.t 85) (.c (.bool false)))),(oM 87 86),(oG 88 87 true (.fldaddr 4 1 (.t 1))),(oG 89 87 true (.load false 1 (.t 88))),(oG 90 87 true (.len (.t 89))),(oG 91 87 true (.mov (.t 4))),(oG 92 87 true (.bin .eql (.t 90) (.t 91))),(oN 93 (.pick (.t 87) (.t 92) (.c (.bool false)))),(oM 94 93),(oG 95 94 true (.fldaddr 4 1 (.t 1))),(oG 96 94 true (.load false 1 (.t 95))),(oG 97 94 true (.call zac [(.t 96),(.c (.fn (.func zas) []))])),(oG 98 94 true (.un .not (.t 97))),(oN 99 (.pick (.t 94) (.t 98) (.c (.bool false)))),(oM 2 99)] [1,3,4,68,69,70,71,72,73,74,75,76,77,78,79,80,81,82,83,84,85,86,87,88,89,90,91,92,93,94,95,96,97,98,99]) (.ret)))))
def zm:List ARet:=[.tmp 2]
theorem zbJ:zO Tryz.prog zaZ (qRo [1])=some (zbb.strip,zm,100):=by kernel_rfl
def zmV:ACode:=dcC 0x800114102210c01160fa02520413102100011c0213 []
def zm6:List ARet:=[.tmp 2]
theorem zrx:zO Tryz.prog zas (qRo [1])=some (zmV.strip,zm6,6):=by kernel_rfl
def zof:ACode:=.seq (.region [(oN 2 (.rbox (.t 0))),(oN 3 (.rbox (.t 1))),(oN 4 (.mov (.c (.bool false))))] [0,1,4]) (.seq (.region [(oL 5 3),(oC 6 .geq 5 1),(oM 7 6),(oG 8 7 true (.fldaddr 4 1 (.t 2))),(oG 9 7 true (.load false 1 (.t 8))),(oG 10 7 true (.mkfn (.func zjK) [(.t 3)])),(oG 11 7 true (.call zac [(.t 9),(.t 10)])),(oG 12 7 true (.un .not (.t 11))),(oN 13 (.pick (.t 7) (.t 12) (.c (.bool false)))),(oM 4 13)] [2,3,5,6,7,8,9,10,11,12,13]) (.ret))
def zkL:List ARet:=[.tmp 4]
theorem zto:zO Tryz.prog zjv (qRo [2,3])=some (zof.strip,zkL,14):=by kernel_rfl
def zl6:ACode:=dcC 0x800001017103210c01725ffa010011604102520613202100011c22213 []
def zlV:List ARet:=[.tmp 3]
theorem zp5:zO Tryz.prog zjK (qRo [2])=some (zl6.strip,zlV,9):=by kernel_rfl
@[cbv_opaque] def zlM:ACode:=.seq (.region [(oB 14 .lss 13 12)] []) (.seq (.cond (.t 14) (.skip) (.exit 0)) (.seq (.block 1 (.seq (.region [(oI 15 2 11 13),(oA 16 2 15),(oN 4 (.alloc [.int .u32 0,.nilsl])),(oS 2 4 16)] [14,15,16]) (.seq (.region [(oF 17 1 1 4),(oL 18 17),(oE 19 18),(oM 5 19)] [17,18,19]) (.seq (.seq (.region [(oM 20 5),(oC 21 .eql 20 0),(oM 22 21),(oG 23 22 false (.fldaddr 1 1 (.t 4))),(oG 24 22 false (.load false 1 (.t 23))),(oG 25 22 false (.mov (.t 5))),(oG 26 22 false (.bin .sub (.t 25) (.c (.int .i64 1)))),(oG 27 22 false (.idx 8 (.t 24) (.t 26))),(oG 28 22 false (.load true 8 (.t 27))),(oG 29 22 false (.call zev [(.t 28)])),(oG 30 22 false (.un .not (.t 29))),(oN 31 (.pick (.t 22) (.c (.bool true)) (.t 30))),(oM 32 31),(oG 33 32 false (.fldaddr 1 1 (.t 4))),(oG 34 32 false (.load false 1 (.t 33))),(oG 35 32 false (.mov (.t 5))),(oG 36 32 false (.bin .sub (.t 35) (.c (.int .i64 1)))),(oG 37 32 false (.slice 8 (.t 34) none (some (.t 36)))),(oG 38 32 false (.call zax [(.t 37),(.c (.fn (.func zev) []))])),(oN 39 (.pick (.t 32) (.c (.bool true)) (.t 38)))] [5,20,21,22,23,24,25,26,27,28,29,30,31,32,33,34,35,36,37,38]) (.cond (.t 39) (.seq (.region [(oN 2 (.mov (.c (.bool false))))] [1,4,11,12,13,39]) (.ret)) (.skip))) (.seq (.region [(oA 40 2 4),(oN 41 (.call zeq [(.t 40)])),(oN 42 (.mkfn (.func zib) [(.t 1)])),(oN 43 (.call zbT [(.t 41),(.t 42)]))] [2,4,39,40,41,42]) (.cond (.t 43) (.seq (.region [(oN 2 (.mov (.c (.bool false))))] [1,11,12,13,43]) (.ret)) (.skip))))))) (.region [(oC 44 .add 13 1),(oM 13 44)] [2,43,44])))
@[cbv_opaque] def zlA:ACode:=.seq (.region [(oN 2 (.mov (.c (.bool true))))] [1,11,12,13]) (.ret)
def zpq:ACode:=dcC 0x19096050623000001501102113a24133087121002211314006300017601501102113624133102100011c0213 [zlM,zlA]
def zeu:List ARet:=[.tmp 2]
theorem zus:zO Tryz.prog znp (qRo [1])=some (zpq.strip,zeu,45):=by kernel_rfl
def zmM:ACode:=dcC 0x800000000200b10321209701a66315311341133300c61000001360300a133110032113 []
def zg2:List ARet:=[.tmp 3]
theorem zrN:zO Tryz.prog zib (qRo [])=some (zmM.strip,zg2,13):=by kernel_rfl
def zlb:ACode:=dcC 0x8000000011910221019703c00146311341031c6100200166011021030913102100011c0213 []
def zhl:List ARet:=[.tmp 2]
theorem zpC:zO Tryz.prog zev (qRo [1])=some (zlb.strip,zhl,11):=by kernel_rfl
def zmX:ACode:=dcC 0x80000020710221018709c00136330b610000016603007132110022113 []
def zjJ:List ARet:=[.tmp 2]
theorem zrG:zO Tryz.prog zh6 (qRo [])=some (zmX.strip,zjJ,9):=by kernel_rfl
@[cbv_opaque] def zna:ACode:=dcC 0x7c1100c21003c0602100a541227afa04001524c231001c36c15814000003005952152021c54041315307014302c3c361c2113 []
def zqC:ACode:=dcC 0x0960562200000150110514304130063112bc0552020623130111c22113 [zna]
def zp7:List ARet:=[]
theorem zwd:zO Tryz.prog zmi (qRo [2])=some (zqC.strip,zp7,20):=by kernel_rfl
@[cbv_opaque] def zhF:ACode:=dcC 0x54c73106c21009c062d2210000004c77103210d413c0101031115c0110a153060061140ac21c0017601101103ac2313007c3cc1881440300000000008972182027c84041335327014308c9c367c2113 []
@[cbv_opaque] def zhT:ACode:=dcC 0x0c004c410b21002c063d221 []
@[cbv_opaque] def zhs:ACode:=dcC 0x19096259520000015011011133c2413000c35c12814032952122020c24041315307014301c2c360c2113 [zhF,zhT]
@[cbv_opaque] def zhH:ACode:=dcC 0x802d331022111ffa060031308c0095111efa0604d2213 []
def zka:ACode:=dcC 0x1909605612000001501104113824133016c011310216c011c0213 [zhs,zhH]
def zjU:List ARet:=[.tmp 2]
theorem zoX:zO Tryz.prog zfm (qRo [1])=some (zka.strip,zjU,36):=by kernel_rfl
def zlm:ACode:=dcC 0x881216c22113080008151022101001115c01104113041314000000371209700c00176311341030c6100100176011021030813310216c011c0213 []
def zfl:List ARet:=[.tmp 2]
theorem zpy:zO Tryz.prog zgc (qRo [1])=some (zlm.strip,zfl,14):=by kernel_rfl
@[cbv_opaque] def zif:ACode:=dcC 0x6c110a21001c0602100085515c257fa01158fa08520602c24100b34c1581400000300595215202b54041315307014300c1c36b2113 []
@[cbv_opaque] def ziU:ACode:=dcC 0x8080043610221159fa0607c2313 []
def zll:ACode:=dcC 0x1909605512000001501104163724133611032014c6221310216c011c0213 [zif,ziU]
def zla:List ARet:=[.tmp 2]
theorem zpP:zO Tryz.prog zi2 (qRo [1])=some (zll.strip,zla,21):=by kernel_rfl
@[cbv_opaque] def zgI:ACode:=dcC 0x297310a21001c068c221002005211009155201234a4c1a0030031314002c310c012210494c0a00302c241300b310721102b14031315307014300c1c36b2113 []
@[cbv_opaque] def zgD:ACode:=.seq (.region [(oM 21 5),(oM 4 21)] [0,5,8,9,10,21]) (.ret)
def zig:ACode:=dcC 0x1909605110000015040823133010001134110042113 [zgI,zgD]
def ziY:List ARet:=[.tmp 4]
theorem znE:zO Tryz.prog zfV (qRo [])=some (zig.strip,ziY,22):=by kernel_rfl
@[cbv_opaque] def zfY:ACode:=dcC 0x000645103212c813c0101001115c070020b25100831042102c09154c03131507014371102c092d72213 []
@[cbv_opaque] def zgs:ACode:=dcC 0x81c3210226002130863117cfa0603c2213 []
def zhB:ACode:=dcC 0x19096054021134c030522133016c01132116c22113 [zfY,zgs]
def zhU:List ARet:=[.tmp 2]
theorem zmw:zO Tryz.prog zfy (qRo [])=some (zhB.strip,zhU,18):=by kernel_rfl
def zlp:ACode:=dcC 0x805031022116dfa0306231308002041022116cfa016dc0300413104321000022113 []
def zlk:List ARet:=[.tmp 2]
theorem zpB:zO Tryz.prog zgp (qRo [])=some (zlp.strip,zlk,8):=by kernel_rfl
def zjc:ACode:=.seq (.region [(oK 2 0)] []) (.seq (.seq (.region [(oM 3 0),(oN 4 (.bin .geq (.t 3) (.c (.int .u64 4294967296))))] [3]) (.cond (.t 4) (.seq (.region [(oM 5 0),(oN 6 (.bin .shr (.t 5) (.c (.int .u64 32)))),(oM 0 6)] [2,4,5,6]) (.region [(oK 2 32)] [])) (.skip))) (.seq (.seq (.region [(oM 7 0),(oN 8 (.bin .geq (.t 7) (.c (.int .u64 65536))))] [4,7]) (.cond (.t 8) (.seq (.region [(oM 9 0),(oN 10 (.bin .shr (.t 9) (.c (.int .u64 16)))),(oM 0 10)] [8,9,10]) (.region [(oM 11 2),(oC 12 .add 11 16),(oM 2 12)] [11,12])) (.skip))) (.seq (.seq (.region [(oM 13 0),(oN 14 (.bin .geq (.t 13) (.c (.int .u64 256))))] [8,13]) (.cond (.t 14) (.seq (.region [(oM 15 0),(oN 16 (.bin .shr (.t 15) (.c (.int .u64 8)))),(oM 0 16)] [14,15,16]) (.region [(oM 17 2),(oC 18 .add 17 8),(oM 2 18)] [17,18])) (.skip))) (.seq (.region [(oM 19 2),(oM 20 0),(oN 21 (.conv .u8 (.t 20))),(oN 22 (.xop .sidx [(.c (.str len8)),(.t 21)])),(oN 23 (.conv .i64 (.t 22))),(oB 24 .add 19 23),(oM 2 24)] [0,14,19,20,21,22,23,24]) (.ret)))))
def zjn:List ARet:=[.tmp 2]
theorem zn2:zO Tryz.prog zgX (qRo [])=some (zjc.strip,zjn,25):=by kernel_rfl
def zdC:ACode:=dcC 0x8000305102212813c03000001015c524130830216c221131431100ec030021332116c22113 []
def zak:List ARet:=[.tmp 2]
theorem zf1:zO Tryz.prog zbl (qRo [])=some (zdC.strip,zak,8):=by kernel_rfl
@[cbv_opaque] def zd2:ACode:=dcC 0x905d310521001060805d231008e2103210010606003100000000e8211815e4e14011012140800700600301e28133e40000000024da01dd860211021ed1402100116028002700211021214028002707d222335327014001d314d360150700801d24133 []
@[cbv_opaque] def zec:ACode:=dcC 0x8009e205102211021cc0600300413004e045100110d101121cc060010ae2413 []
@[cbv_opaque] def zd1:ACode:=dcC 0x90b2410321001060602c231 []
@[cbv_opaque] def zed:ACode:=dcC 0x29019096250100001133000dc4104201121cc060030ec24130d40000000021ca01ac760211021bc1402100116026002300211021214026002304c22231530701400a311c36015030060a24133 [zd2,zec,zd1]
@[cbv_opaque] def zd5:ACode:=.seq (.region [(oM 60 0),(oM 2 60)] [0,3,60]) (.ret)
def zfa:ACode:=dcC 0x19096055221000011330807031022300213140627001360150306231332116c22113 [zed,zd5]
def zbE:List ARet:=[.tmp 2]
theorem zjC:zO Tryz.prog zc7 (qRo [])=some (zfa.strip,zbE,61):=by kernel_rfl
@[cbv_opaque] def zcJ:ACode:=dcC 0x905d310521001060805d231008e2103210010606003100000000e8211815e4e14011012140800700600301e28133e40000000024da01dd860211021ed1402100116028002700211021214028002707d222335327014001d314d360150700801d24133 []
@[cbv_opaque] def zcB:ACode:=dcC 0x8009e205102211021cc0600300413004e045103110d101121cc060010ae2413 []
@[cbv_opaque] def zcC:ACode:=dcC 0x90b2410321001060602c231 []
@[cbv_opaque] def zcD:ACode:=dcC 0x29019096250100001133000dc4104201121cc060030ec24130d40000000021ca01ac760211021bc1402100116026002300211021214026002304c22231530701400a311c36015030060a24133 [zcJ,zcB,zcC]
@[cbv_opaque] def zcF:ACode:=.seq (.region [(oM 60 0),(oM 2 60)] [0,3,60]) (.ret)
def zc2:ACode:=dcC 0x19096055221000011330807031022300213140627001360150306231332116c22113 [zcD,zcF]
def zay:List ARet:=[.tmp 2]
theorem zgU:zO Tryz.prog zbG (qRo [])=some (zc2.strip,zay,61):=by kernel_rfl
def zbz:ACode:=dcC 0x80003006104200016601225afa04003005134110042113 []
def zbw:List ARet:=[.tmp 4]
theorem zeh:zO Tryz.prog zac (qRo [])=some (zbz.strip,zbw,9):=by kernel_rfl
def zbs:ACode:=dcC 0x80003006104200016601225dfa04003005134110042113 []
def zbC:List ARet:=[.tmp 4]
theorem zei:zO Tryz.prog zax (qRo [])=some (zbs.strip,zbC,9):=by kernel_rfl
def zdo:ACode:=dcC 0x80003006104200016601225efa04003005134110042113 []
def zdn:List ARet:=[.tmp 4]
theorem zhc:zO Tryz.prog zbT (qRo [])=some (zdo.strip,zdn,9):=by kernel_rfl
def zeQ:ACode:=dcC 0x800030061042000166012226fa04003005134110042113 []
def zeT:List ARet:=[.tmp 4]
theorem zi4:zO Tryz.prog zae (qRo [])=some (zeQ.strip,zeT,9):=by kernel_rfl
@[cbv_opaque] def zc5:ACode:=dcC 0x700c7410621001060908c231006d2105210010608003100009c762118125d140a008003005131400ec310c0112bc0a0040ec241300027c510721101214090030ac251315307014004c317c360150300904c24133 []
@[cbv_opaque] def zc6:ACode:=dcC 0x8005d405104211021cc0800300413001d415100110d101121cc0800108d2413 []
def zd6:ACode:=dcC 0x19096050174410621001060802c2313308063005104230021314b14c00176010b22133008310521225efa040030824134116c42113 [zc5,zc6]
def zb1:List ARet:=[.tmp 4]
theorem zh8:zO Tryz.prog zcv (qRo [])=some (zd6.strip,zb1,42):=by kernel_rfl
@[cbv_opaque] def zbv:ACode:=dcC 0x1a0441082100b066c22108070130071042800213140000b5112cbc015201254080030040b261309210522002131530701430ab3692113 []
@[cbv_opaque] def zbt:ACode:=.seq (.region [(oK 4 (-1))] [0,1,7,8]) (.ret)
def zbZ:ACode:=dcC 0x190960561000001503062313341000042113 [zbv,zbt]
def zaE:List ARet:=[.tmp 4]
theorem ze0:zO Tryz.prog zaV (qRo [])=some (zbZ.strip,zaE,19):=by kernel_rfl
@[cbv_opaque] def zbu:ACode:=dcC 0x1a0441082100b066c22108070130071042800213140000b5112cbc018201284080030040b261309210522002131530701430ab3692113 []
@[cbv_opaque] def zby:ACode:=.seq (.region [(oK 4 (-1))] [0,1,7,8]) (.ret)
def zbX:ACode:=dcC 0x190960561000001503062313341000042113 [zbu,zby]
def zaG:List ARet:=[.tmp 4]
theorem ze3:zO Tryz.prog zaR (qRo [])=some (zbX.strip,zaG,19):=by kernel_rfl
@[cbv_opaque] def zbK:ACode:=dcC 0x1a0441082100b066c22108070130071042800213140000b5112cbc01101214080030040b261309210522002131530701430ab3692113 []
@[cbv_opaque] def zbI:ACode:=.seq (.region [(oK 4 (-1))] [0,1,7,8]) (.ret)
def zcq:ACode:=dcC 0x190960561000001503062313341000042113 [zbK,zbI]
def zaw:List ARet:=[.tmp 4]
theorem zew:zO Tryz.prog zaC (qRo [])=some (zcq.strip,zaw,19):=by kernel_rfl
@[cbv_opaque] def zeS:ACode:=dcC 0x1a0441082100b066c22108070130071042800213140000b512c7601101214080030040b261309210522002131530701430ab3692113 []
@[cbv_opaque] def zeM:ACode:=.seq (.region [(oK 4 (-1))] [0,1,7,8]) (.ret)
def zgn:ACode:=dcC 0x190960561000001503062313341000042113 [zeS,zeM]
def zdr:List ARet:=[.tmp 4]
theorem zkB:zO Tryz.prog zdZ (qRo [])=some (zgn.strip,zdr,19):=by kernel_rfl
@[cbv_opaque] def zef:ACode:=dcC 0x000a44c002c02210011606001001060500610000000000000493c11100d118138c7c1402cc118136c5c1402110212140350023002110212140260023002600230025002302c222153070140721236060050723133 []
def zfc:ACode:=dcC 0x09605004390000002210011601501042513 [zef]
def ze9:List ARet:=[]
theorem zjE:zO Tryz.prog zc4 (qRo [])=some (zfc.strip,ze9,28):=by kernel_rfl
def zd7:ACode:=dcC 0x00000210819000843dfa0113efa017dc050050030526103210221501032313 []
def zea:List ARet:=[]
theorem zh5:zO Tryz.prog zcu (qRo [])=some (zd7.strip,zea,11):=by kernel_rfl
@[cbv_opaque] def zbB:ACode:=dcC 0x06d210921001060206d2310000000000000000034da8c111005f11813be8e140201f118137e6e140211021214030c002300211021ce14021206021c002400230021206021c002400230020c002303e2220000fd410a2121609001c0041140dd21266090010dd23133000025d610a213dc01bdb6017701160b00a183fa8d261315307014000000ec711d460100106012d0607001260b0019609004000c0ec28133 []
def zbW:ACode:=dcC 0x009605000008c6109210011601bc0607001260b001960900408c271306c210821182fa0206c2313003c38c1181077197217dc0900413142c14001660102c22130082410621216040050b2413 [zbB]
def zaF:List ARet:=[]
theorem ze1:zO Tryz.prog zaL (qRo [])=some (zbW.strip,zaF,65):=by kernel_rfl
def zcz:ACode:=dcC 0x83adb30000010622c06e231381edb37000010622c0ce231314315e310ae2dc008e76be22138119db41000010622c09e2313148e1107e20001768e2213057c1007060c15e21130000099c190910b20c124e3e585fa03c002c001c00300e261000dd3100c20c12384fa03c0030dd24100ad310b20c12384fa02c0030ad24130006d410a20c12384fa01c00300413140bc83cc001660b002133143d14001660b03d221330000cc16100c211d0600c001260b001960b0040ec261300009c510b21cc0607001260b001960b00409c261300004c510a217c0601001260b001960b00404c261300019011300a24108212160400501c241306200000000062213 []
def z6:List ARet:=[.tmp 6,.tmp 7]
theorem zfA:zO Tryz.prog za3 (qRo [])=some (zcz.strip,z6,57):=by kernel_rfl
@[cbv_opaque] def zcx:ACode:=dcC 0x08c2109210011600c08c231000027c612ecdc481fa0900b000c0030ac251153070146c100016600c06c22133 []
@[cbv_opaque] def zcy:ACode:=dcC 0x03d210a210011601c03d23100007e512beae481fa09001c00a00307e2510000000000000000022d7c11107e11813ddad14023e118139d8d140211021214039002300211021ed14021206021c002900230021206021c002900230029002305d2223353270141d100016601c01d22133 []
@[cbv_opaque] def zco:ACode:=dcC 0x0962505c08410a21001160b0fc2313 [zcy]
def zcX:ACode:=dcC 0x1909605003c3109270019601001160103c24133009015108212160400500c2413000000113b1106240b2213 [zcx,zco]
def zcW:List ARet:=[]
theorem zgx:zO Tryz.prog zbr (qRo [])=some (zcX.strip,zcW,56):=by kernel_rfl
@[cbv_opaque] def zbA:ACode:=dcC 0x03d210721001160a03d23100000000000000022d5c11105e11813cdad14021e118139d8d14021102121403a002300211021dd140210011602a002300210011602a0023002a002105d2223532705d400000000000004c2c0101ac7021ec269fb3211321fc143210011632a03230321132121432a03230bd6210021256024002a04c22233 []
@[cbv_opaque] def zat:ACode:=dcC 0x057310621001060901c231 []
@[cbv_opaque] def zbx:ACode:=dcC 0x190962520c21072903c2213153070140a21236050090a23133 [zbA,zat]
def zb0:ACode:=dcC 0x09605082106210010604082313 [zbx]
def zbU:List ARet:=[]
theorem ze6:zO Tryz.prog zaO (qRo [])=some (zb0.strip,zbU,49):=by kernel_rfl
def zbO:ACode:=dcC 0x800000004000b1062121c0ca585fa05001001060400400100116040030091361000062113 []
def zbP:List ARet:=[.tmp 6]
theorem zeA:zO Tryz.prog zT (qRo [])=some (zbO.strip,zbP,15):=by kernel_rfl
def zdp:ACode:=dcC 0x84d2210a2107d22130000000ac200b9d0020122d12c0102c5d210fc2124d3d48ffa0700500400300d2a1300000003c391d002022ac12c0102cdc2107c212ccbc48ffa0700600500308c2a130000000b89c0020122c12c0102c5c210b2124c3c48ffa0700500400300c2a13a10000a2113 []
def zdm:List ARet:=[.tmp 10]
theorem zhe:zO Tryz.prog zaW (qRo [])=some (zdp.strip,zdm,36):=by kernel_rfl
def zfB:ACode:=dcC 0x80002051022117702c60113efa017dc0300513210770022113 []
def zfF:List ARet:=[.tmp 2]
theorem zks:zO Tryz.prog zdx (qRo [])=some (zfB.strip,zfF,7):=by kernel_rfl
def zdl:ACode:=dcC 0x8072c00162d00208250040ec24130809c0140d002082400500413000002c3721181ac104c010010601101104c0607c26139c40000000909014c269fb0211021214024002300211021214025002300223308200000000082213 []
def zbL:List ARet:=[.tmp 8,.tmp 9]
theorem zhg:zO Tryz.prog zao (qRo [])=some (zdl.strip,zbL,28):=by kernel_rfl
@[cbv_opaque] def zaM:ACode:=dcC 0x004d310721001060a05d231352707d4000000000000005c3c0101bc70210c321fc269fb32113210d143210011632a03230321132121432a03230dd6210021236025002a05c22233 []
@[cbv_opaque] def zaN:ACode:=dcC 0x006f2109210011600c0031000000000000000012f5c111023f118131af18f14021ff1181317f16f140211021214030c0023002110211bf1402100116020c0023002100116020c00230020c0023013f22204715f4000000000205fb010c0210ef269fb02110210ff1402100116020c002300211021214020c0023008f222335534701404f110016600c004f22133 []
@[cbv_opaque] def zaP:ACode:=dcC 0x02cf210a210010601c0031000000000000000038f5c111049f1181340f3ef140245f118133df3cf140211021214031c00230021102141f1402100116021c0023002100116021c00230021c0023039f2220673bf400000000022bfb010c02134f269fb021102135f1402100116021c002300211021214021c002302ef2223375367014029f2123605001c029f23133 []
@[cbv_opaque] def zaU:ACode:=dcC 0x0096650026f310a21001060a0031314005d7e95700166012160a005023f2413 [zaP]
@[cbv_opaque] def zad:ACode:=dcC 0x190096450001f310921001160a003131400ee3700166012160400a0ee2413300000000000000006d66c1110ee118135e3e1402ae118132e1e14021102121403a0023002110216e140210011602a002300210011602a0023002a00230ed2223084d04000610062113140002d65cc0013601216040050ad24133080d040006200621131407d212760500a07d23133 [zaN,zaU]
@[cbv_opaque] def zaf:ACode:=dcC 0x15f04a410821001060b03c231 []
@[cbv_opaque] def zaQ:ACode:=dcC 0x2919096253153070141c11c001360b01c22133 [zaM,zad,zaf]
@[cbv_opaque] def zaS:ACode:=.seq (.region [(oN 6 (.mov (.c (.bool false))))] [0,1,2,7,8]) (.ret)
def za5:ACode:=dcC 0x190960500000011330b21072100106040b23136110062113 [zaQ,zaS]
def zS:List ARet:=[.tmp 6]
theorem zdk:zO Tryz.prog zal (qRo [])=some (za5.strip,zS,133):=by kernel_rfl
def zbo:ACode:=dcC 0x00fd3109210010600c00e231352702e400000000000001d2c01017d70210c321bd269fb3211321214320c0323032113212143240323005f6210021246021c0020c01d22233 []
def zbm:ACode:=dcC 0x00fe310a210011601c000f2315547002f40000000000002e1c01018e7021ce269fb3211321214321c0323032113212143240323027f6210021246021c0020c02e22233 []
def zbh:ACode:=dcC 0x015f210a210011601c015f231013f2109210010600c013f23130000000000000004f3c111013f118130bf0af14020ff1181309f08f140211021214030c002300211021214021c00230021c00230020c00230022300714002f2125601c000c002f23133 []
def zbn:ACode:=.seq (.block 4 (.loop zbm)) (zbh)
@[cbv_opaque] def zbg:ACode:=.block 1 (.seq (.block 2 (.loop zbo)) (zbn))
@[cbv_opaque] def zbk:ACode:=.seq (.region [(oM 83 9),(oM 8 83)] [0,1,9,10,83]) (.ret)
def zbR:ACode:=dcC 0x19096053000ac253d001d0921001160500100106040dc26130000000000000733c1110dc118135c4c14029c118133c2c140211021214034002300211021214026002300260023002400230b222381000082113 [zbg,zbk]
def zbQ:List ARet:=[.tmp 8]
theorem zeC:zO Tryz.prog zaD (qRo [])=some (zbR.strip,zbQ,84):=by kernel_rfl
@[cbv_opaque] def zci:ACode:=dcC 0x00fd310a210010601c00e231150702e40000000000002d1c01018d7021cd269fb3211321214324032303211321214321c0323007f6210021246022c0021c02d22233 []
def zcj:ACode:=dcC 0x0000f310b210011602c001f2313527003f400000000000002e2c01018e70210c321ce269fb3211321214324032303211321214322c0323027f6210021246022c0021c02e22233 []
def zcb:ACode:=dcC 0x0034f310a210010601c035f2317567037f400000000000027f1c01012df702131f269fb3211321214324032303211321214321c0323091f6210021246022c0021c027f22233 []
def zb9:ACode:=dcC 0x0045f310b210011602c046f2319587048f4000000000000037f2c01013df70210c32141f269fb3211321214324032303211321214322c03230b1f6210021246022c0021c037f22233 []
def zcc:ACode:=dcC 0x05bf210b210011602c05bf231059f210a210010601c059f2313000000000000004af3c111059f1181351f50f140255f118134ff4ef140211021214031c002300211021214022c00230022c00230021c00230022304714048f2125602c001c048f23133 []
def zb7:ACode:=.seq (.block 8 (.loop zb9)) (zcc)
@[cbv_opaque] def zcl:ACode:=.block 5 (.seq (.block 6 (.loop zcb)) (zb7))
@[cbv_opaque] def zch:ACode:=dcC 0x85ffb2100010822c06bf2313000000000000052f8005c11106bf1181363f62f140267f1181361f60f140211021214032c0023002110212140240023002400230022c002105df2223 []
def zcd:ACode:=dcC 0x19096453025f210b210011602c025f2313023f210a210010601c023f231300000000000003cbe085c111023f118131bf1af14021ff1181319f18f140211021214031c002300211021214022c00230022c00230021c0023015f22230808fb2200010822c014f231300000000000000ae8006c111014f118130cf0bf140210f118130af09f140211021214032c0023002110212140240023002400230022c00230022314003f2125602c001c003f23133 [zcl,zch]
@[cbv_opaque] def zca:ACode:=.seq (.block 2 (.loop zcj)) (zcd)
def zcS:ACode:=dcC 0x19096053000bc254d002d0a21001160500100106040ec26130000000000000833c1110ec118136c5c1402ac118134c3c1402110212140340023002110212140260023002600230024002300c22230821000000082213 [zci,zca]
def za7:List ARet:=[.tmp 8,.tmp 9]
theorem zfN:zO Tryz.prog zbd (qRo [])=some (zcS.strip,za7,168):=by kernel_rfl
@[cbv_opaque] def zcH:ACode:=dcC 0x3af2c210225c00210000040f271248f46f43dfa060050010010605c003043f261300a22f004c71082126609c008c040f241302ff2c3101210010605c0031000037f16123df3cf43dfa06005c004003039f251300022f004c71082126609c007c0041314033f2123608c007c033f2313026fa3106c240019601c031f2313000002bf633f0030f04c2121605c00500121604005c02bf28131af3c21092102af2213000000060ff1080c2cf00202c225f12c0102c28f21022f21227f26f46bfa02c005004002023f2a1301713f1c210121021f2213000000ff0819101c21220f1ff46afa02c00500400101cf26131ef400000000000000308f4c010112f70210c32117f269fb3211321214322c03230321132113f1432100116324032305bf62100200015602400df22233 []
@[cbv_opaque] def zcI:ACode:=dcC 0x090081400008f4120cf368fa050040030041314000000a9d0c910108f7010017633c047f61001012700c041f6100b001f2813a [zcH]
@[cbv_opaque] def zcG:ACode:=dcC 0x0900100001100000be610b21fe160121604002c00100116050071300009d0c612ae367fa0500400300413145e17001760105e2213a00000067d87e0020b21e12c0102c3e210ed2122e366fa050040010fd2913 [zcI]
@[cbv_opaque] def zcE:ACode:=dcC 0x0900cd2103210011606003100007d512bd365fa05004003004131441d210c0b00213a0800006c00400000c125d364fa0500400300413144bc2000176060021330800000c00400000c12fc363fa050040030041314ac1dc00146010ac22133007c310a212160400507c241315 [zcG]
def zdc:ACode:=dcC 0x0960502000113020082113 [zcE]
def zaA:List ARet:=[]
theorem zgK:zO Tryz.prog zaj (qRo [])=some (zdc.strip,zaA,134):=by kernel_rfl
@[cbv_opaque] def zbN:ACode:=dcC 0x02d210721001160a02d23100d210621001060900d2313000000000000001c3c11100d118138c7c1402cc118136c5c14021102121403900230021102121402a0023002a0023002900230022315070140b212360a0090b23133 []
def zcf:ACode:=dcC 0x09605062310721001160509231361210624082213 [zbN]
def zb8:List ARet:=[]
theorem zff:zO Tryz.prog zaX (qRo [])=some (zcf.strip,zb8,32):=by kernel_rfl
@[cbv_opaque] def zcw:ACode:=dcC 0x05f921082100ff2210000000000000000000000fd8cc11100ff1181303f00f140209f11813fece1402110210af1403120602b002600230021102104f14021206020c002600230021206020c00260023002120602b0026002309e222308be400000000000028d2c010c0213e269fb02110214e14021206020c0026002300211021ed1402120602b002600230bd222330008d3109210010600c09d231bd400000000000000000004c8c0101cc70212d269fb32113213d1432100106321206320c0326032303211321dc14321206320c032603230fd6210021236025002100106020c0022330071402c212660500102c2313300b3109210010601700260b0b241315 []
def zcZ:ACode:=dcC 0x09605812108240a2213 [zcw]
def zag:List ARet:=[]
theorem zgz:zO Tryz.prog zY (qRo [])=some (zcZ.strip,zag,76):=by kernel_rfl
def zfW:ACode:=dcC 0x8001d0410221101104c0302d2413000000009c910211813cc104c021ec1c6027c77012c60211021104c02300211021104c02309c2223000000000c9102118133c104c0215c1c602377013c60211021104c02300211021104c02300c22230000000039102118136104c02181c602ec77012c60211021104c02300211021104c02300223210770022113 []
def zge:List ARet:=[.tmp 2]
theorem zkN:zO Tryz.prog zdX (qRo [])=some (zfW.strip,zge,33):=by kernel_rfl
end Go.Ab
