/-
  Part 6 of the proof: how the calls of this program run, over values instead of memory, and what each function computes.
-/
import Derived.Test.YtihlaappclhhaaaGreatProg
import Derived.Shelf.SlIterI.Nil
import Derived.Shelf.SortM.Plain
import Derived.Shelf.SortM.SortNone
import Derived.Test.YtihlaappclhhaaaGreatJe
set_option maxRecDepth 100000
set_option linter.unusedVariables false
set_option linter.unusedSimpArgs false
set_option linter.unnecessarySimpa false
set_option linter.unusedSectionVars false
open Go.Ab.ACode renaming strip->Xa
open Go.Ab.Kn renaming get_set->Xb,get->Xc,drop->Xd
open Nat renaming beq→Wa,le_refl→Wh,blt→Wi,le_of_ble_eq_true→Wj,ble→Wk,le_trans→Wl,lt_of_lt_of_le→WC,lt_or_ge→WD
open Option renaming bind_eq_some_iff→Wc,bind_eq_bind→Ww,getD_some→Wy,map_eq_some_iff→WH
open Bool renaming and_eq_true→Wd,or_eq_true_iff→Wm,not_eq_true'→Wt,false_ne_true→Wu
open List renaming all_eq_true→We,getD_eq_getElem?_getD→Wf,mem_map→Wg,map_cons→Wo,mem_filter→Wp,any_eq_true→Wr,mem_cons→Ws,getElem?_set→Wx,replicate→Wz,filter_congr→WA,filter_eq_nil_iff→WB,mem_cons_of_mem→WE,getElem?_eq_some_iff→WF,findIdx?_eq_some_iff_getElem→WG,getElem?_eq_getElem→WI,getElem?_eq_none→WJ
open And renaming intro→Wn
open Option.some renaming injEq→Wq
open Array renaming getElem?_eq_some_iff→Wv
namespace Go.Ab
open Go.RowKit
def frB(m:Bool)(H:AH):Nat->AV->AV->Bool
 |0,_,_=>false
 |
  d+1,b,a=>match a with
  |.undef=>true
  |
   .int k n=>match b with
   |.int v o=>decide (v=k)&&decide (o=n)
   |_=>false
  |
   .bool x=>match b with
   |.bool y=>y == x
   |_=>false
  |
   .str s=>match b with
   |.str t=>decide (t=s)
   |_=>false
  |
   .nilp=>match b with
   |.nilp=>true
   |_=>false
  |
   .nilfn=>match b with
   |.nilfn=>true
   |_=>false
  |
   .cut=>match b with
   |.cut=>true
   |_=>false
  |
   .nilsl=>match b with
   |.nilsl=>true
   |_=>false
  |
   .sl sz n f=>match b with
   |.sl c o p=>Wa c sz&&(Wa o n&&allB n λi=>allB sz λj=>frB m H d (p i j) (f i j))
   |.nilsl=>Wa n 0
   |
    .own r q g off o=>m&&(match H.get r q with
    |some (.row c e u)=>Wa c sz&&(Wa o n&&(Wa g u&&(Wk n big&&(Wk (off+n) e.length&&allB n λi=>allB sz λj=>frB m H d ((e.getD (off+i) []).getD j .undef) (f i j)))))
    |_=>false)
   |_=>false
  |
   .agg l=>match b with
   |.agg h=>Wa h.length l.length&&allB l.length λi=>frB m H d (h.getD i .undef) (l.getD i .undef)
   |_=>false
  |
   .tup l=>match b with
   |.tup h=>Wa h.length l.length&&allB l.length λi=>frB m H d (h.getD i .undef) (l.getD i .undef)
   |_=>false
  |_=>false
theorem zyU{α:Type}{l:List α}{i:Nat}{a d:α}(h:l[i]?=some a):l.getD i d=a:=by rw[Wf,h];rfl
theorem zq4{H}{m}{D}(k:m=true->∀r q,D r q):∀(d:Nat)(b a:AV),frB m H d b a=true->Vw H [] nos D false b a
 |0,_,_,h=>by cases h
 |
  d+1,b,a,h=>by
  unfold frB at h;split at h
  .exact .undef _ _
  .split at h
   .simp only[Wd,decide_eq_true_eq]at h;obtain⟨rfl,rfl⟩:=h;exact .int _ _ _
   .cases h
  .split at h
   .simp only[beq_iff_eq]at h;subst h;exact .bool _ _
   .cases h
  .split at h
   .simp only[decide_eq_true_eq]at h;subst h;exact .str _ _
   .cases h
  .split at h
   .exact .nilp _
   .cases h
  .split at h
   .exact .nilfn _
   .cases h
  .split at h
   .exact .cut _
   .cases h
  .split at h
   .exact .nilsl _
   .cases h
  .split at h
   .rename_i o A L;simp only[Wd]at h;obtain⟨c,e,s⟩:=h;obtain rfl:=zH c;obtain rfl:=zH e;exact .slf _ _ _ _ _ λi j t u=>zq4 k d _ _ (zbW (zbW s t) u)
   .obtain rfl:=zH h;exact .nil0 _ _ _
   .rename_i r q g off A;rw[Wd]at h;obtain⟨J,h⟩:=h;split at h
    .rename_i o p M I;simp only[Wd]at h;obtain⟨c,e,s,B,C,F⟩:=h;obtain rfl:=zH c;obtain rfl:=zH e;obtain rfl:=zH s;exact .frz _ r q g off A o p _ (k J r q) I (bleT B) (bleT C) λi j t u=>zq4 k d _ _ (zbW (zbW F t) u)
    .cases h
   .cases h
  .split at h
   .rename_i l K;simp only[Wd]at h;obtain⟨c,e⟩:=h;have v:=zH c;refine .agg _ _ _ v λi x y w n=>?_
    have:=zbW e (WF.1 n).1;rw[zyU w,zyU n]at this;exact zq4 k d _ _ this
   .cases h
  .split at h
   .rename_i l K;simp only[Wd]at h;obtain⟨c,e⟩:=h;have v:=zH c;refine .tup _ _ _ v λi x y w n=>?_
    have:=zbW e (WF.1 n).1;rw[zyU w,zyU n]at this;exact zq4 k d _ _ this
   .cases h
  .cases h
structure Memo where
 f:FuncId
 args:List AV
 res:AV
def oN(d:Nat)(a:AOp):AOper:=⟨some d,a,none⟩
def oG(d t:Nat)(b:Bool)(a:AOp):AOper:=⟨some d,a,some (t,b)⟩
def oM(d s:Nat):AOper:=⟨some d,.mov (.t s),none⟩
def oK(d:Nat)(k:Int):AOper:=⟨some d,.mov (.c (.int .i64 k)),none⟩
def oL(d s:Nat):AOper:=⟨some d,.load false 1 (.t s),none⟩
def oA(d n s:Nat):AOper:=⟨some d,.load true n (.t s),none⟩
def oF(d f n s:Nat):AOper:=⟨some d,.fldaddr f n (.t s),none⟩
def oI(d n a b:Nat):AOper:=⟨some d,.idx n (.t a) (.t b),none⟩
def oE(d s:Nat):AOper:=⟨some d,.len (.t s),none⟩
def oX(d s:Nat):AOper:=⟨some d,.xop .nilck [.t s],none⟩
def oB(d:Nat)(o:BinOp)(a b:Nat):AOper:=⟨some d,.bin o (.t a) (.t b),none⟩
def oC(d:Nat)(o:BinOp)(a:Nat)(k:Int):AOper:=⟨some d,.bin o (.t a) (.c (.int .i64 k)),none⟩
def oS(n a b:Nat):AOper:=⟨none,.store n (.t a) (.t b),none⟩
def oT(d k s:Nat):AOper:=⟨some d,.ext k (.t s),none⟩
def Yaa:AOper:=oN 4 (.mov (.c (.bool true)))
def Yab:AOper:=oN 2 (.mov (.c (.bool false)))
def tbI:Nat->Int
 |0=>0
 |1=>1
 |2=>2
 |3=>3
 |4=>4
 |5=>5
 |6=>6
 |7=>7
 |8=>8
 |9=> -1
 |10=>9
 |11=>10
 |12=>11
 |13=>12
 |14=>13
 |15=>14
 |16=>15
 |17=>16
 |18=>17
 |19=>18
 |20=>19
 |21=>20
 |22=>21
 |23=>22
 |24=>24
 |25=>30
 |26=>31
 |27=>32
 |28=>40
 |29=>41
 |30=>50
 |31=>60
 |32=>63
 |33=>64
 |34=>65
 |35=>70
 |36=>80
 |37=>90
 |38=>99
 |39=>100
 |40=>120
 |41=>128
 |42=>200
 |43=>255
 |44=>256
 |45=>300
 |46=>500
 |47=>512
 |48=>1000
 |49=>1024
 |50=>2001
 |51=>4096
 |52=>10000
 |53=>65535
 |54=>65536
 |55=>1000000
 |56=>1048576
 |57=>16777216
 |58=>2147483647
 |59=>2147483648
 |60=>4294967280
 |61=>4294967295
 |62=>4294967296
 |63=>983036
 |64=>983040
 |65=> -2
 |66=> -4
 |67=> -8
 |_=>0
theorem tbE:tbI 0=0/\tbI 1=1/\tbI 2=2/\tbI 3=3/\tbI 4=4/\tbI 5=5/\tbI 6=6/\tbI 7=7/\tbI 8=8/\tbI 9 = -1/\tbI 10=9/\tbI 11=10/\tbI 12=11/\tbI 13=12/\tbI 14=13/\tbI 15=14/\tbI 16=15/\tbI 17=16/\tbI 18=17/\tbI 19=18/\tbI 20=19/\tbI 21=20/\tbI 22=21/\tbI 23=22/\tbI 24=24/\tbI 25=30/\tbI 26=31/\tbI 27=32/\tbI 28=40/\tbI 29=41/\tbI 30=50/\tbI 31=60/\tbI 32=63/\tbI 33=64/\tbI 34=65/\tbI 35=70/\tbI 36=80/\tbI 37=90/\tbI 38=99/\tbI 39=100/\tbI 40=120/\tbI 41=128/\tbI 42=200/\tbI 43=255/\tbI 44=256/\tbI 45=300/\tbI 46=500/\tbI 47=512/\tbI 48=1000/\tbI 49=1024/\tbI 50=2001/\tbI 51=4096/\tbI 52=10000/\tbI 53=65535/\tbI 54=65536/\tbI 55=1000000/\tbI 56=1048576/\tbI 57=16777216/\tbI 58=2147483647/\tbI 59=2147483648/\tbI 60=4294967280/\tbI 61=4294967295/\tbI 62=4294967296/\tbI 63=983036/\tbI 64=983040/\tbI 65 = -2/\tbI 66 = -4/\tbI 67 = -8:=by(repeat' apply Wn)<;>rfl
attribute [irreducible] tbI
theorem evD:type_of% @evA/\type_of% @boxR.eq_1/\type_of% @zxm.eq_1/\type_of% @zso.eq_1/\type_of% @fldR.eq_1/\type_of% @binI.eq_1/\type_of% @binI.eq_2/\type_of% @binI.eq_3/\type_of% @binI.eq_4/\type_of% @binI.eq_5/\type_of% @binI.eq_6/\type_of% @binI.eq_7/\type_of% @binI.eq_8/\type_of% @binI.eq_9/\type_of% @binI.eq_10/\type_of% @binI.eq_11/\type_of% @binI.eq_12/\type_of% @binI.eq_13/\type_of% @binI.eq_14/\type_of% @binI.eq_15/\type_of% @binI.eq_16/\type_of% @binI.eq_17/\type_of% @unR.eq_1/\type_of% @unR.eq_2/\type_of% @zu0.eq_1/\type_of% @zvE.eq_1/\type_of% @ztK.eq_1/\type_of% @zhQ.eq_1/\type_of% @zoj.eq_1/\type_of% @extR.eq_1/\type_of% @zvq.eq_1/\type_of% @eqB.eq_1/\type_of% @evU/\type_of% @zBm/\type_of% @oN.eq_1/\type_of% @oG.eq_1/\type_of% @oM.eq_1/\type_of% @oK.eq_1/\type_of% @oL.eq_1/\type_of% @oA.eq_1/\type_of% @oF.eq_1/\type_of% @oI.eq_1/\type_of% @oE.eq_1/\type_of% @oX.eq_1/\type_of% @oB.eq_1/\type_of% @oC.eq_1/\type_of% @oS.eq_1/\type_of% @oT.eq_1/\type_of% @Yaa.eq_1/\type_of% @Yab.eq_1/\type_of% @tbE :=
 ⟨@evA,@boxR.eq_1,@zxm.eq_1,@zso.eq_1,@fldR.eq_1,@binI.eq_1,@binI.eq_2,@binI.eq_3,@binI.eq_4,@binI.eq_5,@binI.eq_6,@binI.eq_7,@binI.eq_8,@binI.eq_9,@binI.eq_10,@binI.eq_11,@binI.eq_12,@binI.eq_13,@binI.eq_14,@binI.eq_15,@binI.eq_16,@binI.eq_17,@unR.eq_1,@unR.eq_2,@zu0.eq_1,@zvE.eq_1,@ztK.eq_1,@zhQ.eq_1,@zoj.eq_1,@extR.eq_1,@zvq.eq_1,@eqB.eq_1,@evU,@zBm,@oN.eq_1,@oG.eq_1,@oM.eq_1,@oK.eq_1,@oL.eq_1,@oA.eq_1,@oF.eq_1,@oI.eq_1,@oE.eq_1,@oX.eq_1,@oB.eq_1,@oC.eq_1,@oS.eq_1,@oT.eq_1,@Yaa.eq_1,@Yab.eq_1,@tbE⟩
theorem evWB:type_of% @evWA/\type_of% @and_self/\type_of% @Int.natCast_zero/\type_of% @Int.natCast_one/\type_of% @Int.cast_ofNat_Int/\type_of% @evV/\type_of% @za.eq_1/\type_of% @zo.eq_1/\type_of% @ziI.eq_1/\type_of% @encP.eq_1 :=
 ⟨@evWA,@and_self,@Int.natCast_zero,@Int.natCast_one,@Int.cast_ofNat_Int,@evV,@za.eq_1,@zo.eq_1,@ziI.eq_1,@encP.eq_1⟩
theorem dcd:type_of% @decide_eq_true_eq/\type_of% @decide_eq_false_iff_not/\type_of% @Bool.not_eq_true'/\type_of% @Bool.not_eq_false'/\type_of% @Bool.and_eq_true/\type_of% @Bool.or_eq_true/\type_of% @not_true_eq_false/\type_of% @not_false_eq_true :=
 ⟨@decide_eq_true_eq,@decide_eq_false_iff_not,@Bool.not_eq_true',@Bool.not_eq_false',@Bool.and_eq_true,@Bool.or_eq_true,@not_true_eq_false,@not_false_eq_true⟩
theorem fin4{p:Prop}(h:p:=by(repeat' with_reducible apply And.intro)<;>first|omega|exact zs3 rfl rfl (by omega)|exact zbv rfl rfl (by omega)|exact zqb rfl rfl (by omega)|(refine znd ?_;(repeat' first|exact bytes_flat|exact flat1|refine flat_app ?_ ?_);done)|exact zy3 (λ_=>rfl)|exact zsg (c:=cN) (λ_=>rfl) rfl|exact zeH (λ_=>rfl) (by decide) ⟨rfl,rfl⟩ trivial|exact zeH (λ_=>rfl) (by decide) (λ_ _=>⟨rfl,rfl⟩) trivial|(simp;done)):p:=h
theorem Gin4_0{p:Prop}(h:p:=by(try simp only[evWB,Nat.reduceBEq,Nat.reduceAdd,Nat.reduceSub,Nat.reduceLeDiff,Nat.reduceLT,implies_true])<;>exact fin4):p:=h
theorem Gin4_1{b p:Prop}(a0:b)(h:b->p:=by intro a0;(try simp only[evWB,Nat.reduceBEq,Nat.reduceAdd,Nat.reduceSub,Nat.reduceLeDiff,Nat.reduceLT,implies_true,a0])<;>exact fin4):p:=h a0
theorem Gin4_2{c d p:Prop}(a0:c)(b:d)(h:c->d->p:=by intro a0 b;(try simp only[evWB,Nat.reduceBEq,Nat.reduceAdd,Nat.reduceSub,Nat.reduceLeDiff,Nat.reduceLT,implies_true,a0,b])<;>exact fin4):p:=h a0 b
theorem Gin4_3{d e g p:Prop}(a0:d)(b:e)(c:g)(h:d->e->g->p:=by intro a0 b c;(try simp only[evWB,Nat.reduceBEq,Nat.reduceAdd,Nat.reduceSub,Nat.reduceLeDiff,Nat.reduceLT,implies_true,a0,b,c])<;>exact fin4):p:=h a0 b c
theorem Gin4_4{d e g j p:Prop}(a0:d)(b:e)(c:g)(a3:j)(h:d->e->g->j->p:=by intro a0 b c a3;(try simp only[evWB,Nat.reduceBEq,Nat.reduceAdd,Nat.reduceSub,Nat.reduceLeDiff,Nat.reduceLT,implies_true,a0,b,c,a3])<;>exact fin4):p:=h a0 b c a3
theorem lb{p:Prop}(h:p:=by first|rfl|exact(dT (by omega)).symm|exact(dF (by omega)).symm|exact decide_eq_decide.2 (by omega)):p:=h
theorem bzO{H}{b}:∃a,Frz H (.bool b) a/\a=.bool b:=⟨_,.bool _ _,rfl⟩
theorem izO{H}{k}{n}:∃a,Frz H (.int k n) a/\a=.int k n:=⟨_,.int _ _ _,rfl⟩
theorem bxO{H}{b c}(h:b=c):∃a,Frz H (.bool b) a/\a=.bool c:=⟨_,.bool _ _,congrArg AV.bool h⟩
theorem hBig:big=9223372036854775807:=rfl
theorem fin5{p:Prop}(h:p:=by(try simp[subK,Kn.get,zgc])<;>(repeat' with_reducible apply And.intro)<;>first|rfl|omega|(simp;done)):p:=h
theorem fin6{p:Prop}(h:p:=by((repeat' with_reducible apply And.intro)<;>first|omega|rfl|exact zkf (λ_=>rfl)|exact Vw.it _ _ rfl|exact Vw.mp _ _ _ _ rfl|exact zeH zi6 (by decide) ⟨rfl,rfl⟩ trivial|exact zeH zi6 (by decide) (λ_ _=>⟨rfl,rfl⟩) trivial|(refine zLU rfl ?_;(repeat' (first|exact zK zi6|exact rowI_flat|exact zK (λ_=>rfl)|exact zK (λ_=>zc5)|exact zK (λ_=>zu)|exact zT zc5|exact zT zu|exact zsm rfl|exact znS|exact zT rfl|refine zpI ?_ ?_|refine zcx rfl ?_|refine zcx zc5 ?_|refine zcx zu ?_));done)|exact zq rfl|(refine RowV.of_flat ?_;(repeat' (first|exact zK zi6|exact rowI_flat|exact zK (λ_=>rfl)|exact zK (λ_=>zc5)|exact zK (λ_=>zu)|exact zT zc5|exact zT zu|exact zsm rfl|exact znS|exact zT rfl|refine zpI ?_ ?_|refine zcx rfl ?_|refine zcx zc5 ?_|refine zcx zu ?_));done)|((repeat' (first|exact zK zi6|exact rowI_flat|exact zK (λ_=>rfl)|exact zK (λ_=>zc5)|exact zK (λ_=>zu)|exact zT zc5|exact zT zu|exact zsm rfl|exact znS|exact zT rfl|refine zpI ?_ ?_|refine zcx rfl ?_|refine zcx zc5 ?_|refine zcx zu ?_));done)|exact zs3 rfl rfl (by omega)|exact zbv rfl rfl (by omega)|exact zqb rfl rfl (by omega)|exact zy3 (λ_=>rfl)|exact zeH (λ_=>rfl) (by decide) ⟨rfl,rfl⟩ trivial|exact zeH (λ_=>rfl) (by decide) (λ_ _=>⟨rfl,rfl⟩) trivial|(simp;done))):p:=h
theorem Gin6_1{b p:Prop}(a0:b)(h:b->p:=by intro a0;(try simp only[evWB,Nat.reduceBEq,Nat.reduceAdd,Nat.reduceSub,Nat.reduceLeDiff,Nat.reduceLT,implies_true,a0])<;>exact fin6):p:=h a0
theorem Gin6_2{c d p:Prop}(a0:c)(b:d)(h:c->d->p:=by intro a0 b;(try simp only[evWB,Nat.reduceBEq,Nat.reduceAdd,Nat.reduceSub,Nat.reduceLeDiff,Nat.reduceLT,implies_true,a0,b])<;>exact fin6):p:=h a0 b
theorem Gin6_3{d e g p:Prop}(a0:d)(b:e)(c:g)(h:d->e->g->p:=by intro a0 b c;(try simp only[evWB,Nat.reduceBEq,Nat.reduceAdd,Nat.reduceSub,Nat.reduceLeDiff,Nat.reduceLT,implies_true,a0,b,c])<;>exact fin6):p:=h a0 b c
theorem fin8{p:Prop}(h:p:=by(try simp only[evWB,Nat.reduceBEq,Nat.reduceAdd,Nat.reduceSub,Nat.reduceLeDiff,Nat.reduceLT,implies_true])<;>(repeat' with_reducible apply And.intro)<;>first|(refine zeH zi6 (by decide) ⟨rfl,rfl⟩ ?_;(try simp only[evWB,Nat.reduceBEq,Nat.reduceAdd,Nat.reduceSub,Nat.reduceLeDiff,Nat.reduceLT,implies_true])<;>(repeat' with_reducible apply And.intro)<;>first|(refine zeH zi6 (by decide) ⟨rfl,rfl⟩ ?_;(try simp only[evWB,Nat.reduceBEq,Nat.reduceAdd,Nat.reduceSub,Nat.reduceLeDiff,Nat.reduceLT,implies_true])<;>exact fin6;done)|exact fin6;done)|exact fin6):p:=h
theorem Gin8_1{b p:Prop}(a0:b)(h:b->p:=by intro a0;(try simp only[evWB,Nat.reduceBEq,Nat.reduceAdd,Nat.reduceSub,Nat.reduceLeDiff,Nat.reduceLT,implies_true,a0])<;>exact fin8):p:=h a0
theorem Gin8_2{c d p:Prop}(a0:c)(b:d)(h:c->d->p:=by intro a0 b;(try simp only[evWB,Nat.reduceBEq,Nat.reduceAdd,Nat.reduceSub,Nat.reduceLeDiff,Nat.reduceLT,implies_true,a0,b])<;>exact fin8):p:=h a0 b
theorem Gin8_3{d e g p:Prop}(a0:d)(b:e)(c:g)(h:d->e->g->p:=by intro a0 b c;(try simp only[evWB,Nat.reduceBEq,Nat.reduceAdd,Nat.reduceSub,Nat.reduceLeDiff,Nat.reduceLT,implies_true,a0,b,c])<;>exact fin8):p:=h a0 b c
theorem Gin8_6{d e g j k m p:Prop}(a0:d)(b:e)(c:g)(a3:j)(a4:k)(a5:m)(h:d->e->g->j->k->m->p:=by intro a0 b c a3 a4 a5;(try simp only[evWB,Nat.reduceBEq,Nat.reduceAdd,Nat.reduceSub,Nat.reduceLeDiff,Nat.reduceLT,implies_true,a0,b,c,a3,a4,a5])<;>exact fin8):p:=h a0 b c a3 a4 a5
theorem Gin8_7{e g j k m n o p:Prop}(a0:e)(b:g)(c:j)(a3:k)(a4:m)(a5:n)(d:o)(h:e->g->j->k->m->n->o->p:=by intro a0 b c a3 a4 a5 d;(try simp only[evWB,Nat.reduceBEq,Nat.reduceAdd,Nat.reduceSub,Nat.reduceLeDiff,Nat.reduceLT,implies_true,a0,b,c,a3,a4,a5,d])<;>exact fin8):p:=h a0 b c a3 a4 a5 d
theorem fin9{p:Prop}(h:p:=by(try simp only[evWB,Nat.reduceBEq,Nat.reduceAdd,Nat.reduceSub,Nat.reduceLeDiff,Nat.reduceLT,implies_true])<;>exact fin6):p:=h
inductive MC where
 |hd (c:Int)
 |en (k b:Int)
def cm:MC->List AV
 |.hd c=>[.int .i64 c,.undef,.undef]
 |.en k b=>[.int .i64 k,.bool true,.int .i64 b]
theorem zi6:∀a,zR (cm a)=true
 |.hd _=>rfl
 |.en _ _=>rfl
def enL(b:List (Int×Int)):List MC:=b.map λp=>.en p.1 p.2
def setM(c:Int)(b:List (Int×Int)):List MC:=.hd c::enL b
theorem zd(c)(ps):(setM c ps).map cm=[.int .i64 c,.undef,.undef]::(enL ps).map cm:=rfl
def zM5(r q:Nat)(o:Option AObj)(H:AH)(b:Nat):ORes:=match o with
 |
  some (.row d (hd::_) g)=>match hd with
  |[.int .i64 c,_,_]=>⟨d=3/\g=0,True,.it b,H.set b 0 (.row 1 [[.mp r q],[.int .i64 c],[.int .i64 c]] 0),b+1⟩
  |_=>bad H b
 |_=>bad H b
def mdTo(str:Option IntKind)(r q:Nat)(k:AV)(c g:Nat)(hd:List AV)(d:List (List AV))(o:Option (Option (Nat×AV)))(H:AH)(b:Nat):ORes:=match o with
 |some (some (i,_))=>⟨c=3/\g=0/\zia str k,True,.tup [],H.set r q (.row 3 (hd::d.eraseIdx i) 0),b⟩
 |some none=>⟨c=3/\g=0/\zia str k,True,.tup [],H,b⟩
 |none=>bad H b
def zMs(str:Option IntKind)(r q:Nat)(k:AV)(o:Option AObj)(H:AH)(c:Nat):ORes:=match o with
 |some (.row d (hd::b) g)=>mdTo str r q k d g hd b (zdj k b 0) H c
 |_=>bad H c
theorem zBP{str}{k}{r q}{H}{nx}:xopR (.mdel str) [.mp r q,k] H nx=zMs str r q k (H.get r q) H nx:=by
 show zth str (.mp r q) k H nx=_;simp only[zth,zMs]
 cases H.get r q with
 |none=>rfl
 |some o=>
  cases o with
  |fam _ _=>rfl
  |row sz b g=>
   cases b with
   |nil=>rfl
   |cons hd c=>rfl
theorem zwi{r q}{H}{nx}:xopR .mrange [.mp r q] H nx=zM5 r q (H.get r q) H nx:=by
 show ziy (.mp r q) H nx=_;simp only[ziy,zM5]
 cases H.get r q with
 |none=>rfl
 |some o=>
  cases o with
  |fam _ _=>rfl
  |row sz b g=>
   cases b with
   |nil=>rfl
   |cons hd c=>rfl
theorem zzI{k:Int}:∀ {b:List (Int×Int)}{i:Nat},zdj (.int .i64 k) ((enL b).map cm) i=some (match b.findIdx? (λp=>decide (p.1=k))with
  |some j=>some (i+j,.bool true)
  |none=>none)
 |[],i=>rfl
 |
  p::b,i=>by
  rw[List.findIdx?_cons];by_cases h:k=p.1
  .rw[if_pos (decide_eq_true h.symm)];simp only[enL,Wo,cm,zdj,ztt,if_true,decide_eq_true h,Nat.add_zero]
  .rw[if_neg (by simp;exact λe=>h e.symm)];have e:zdj (.int .i64 k) ((enL (p::b)).map cm) i=zdj (.int .i64 k) ((enL b).map cm) (i+1):=by simp only[enL,Wo,cm,zdj,ztt,if_true,decide_eq_false h]
   rw[e,zzI]
   cases b.findIdx? (λp=>decide (p.1=k))with
   |none=>rfl
   |some j=>simp only[Option.map_some];rw[show i+1+j=i+(j+1) by omega]
theorem zft{k}{ps}(h:k∈ps.map (·.1)):∃j,∃g:j<ps.length,ps[j].1=k/\zdj (.int .i64 k) ((enL ps).map cm) 0=some (some (j,.bool true)):=by
 rw[zzI]
 cases b:ps.findIdx? (λp=>decide (p.1=k))with
 |none=>obtain⟨p,e,rfl⟩:=Wg.1 h;have:=List.findIdx?_eq_none_iff.1 b p e;simp at this
 |some j=>obtain⟨c,d,_⟩:=WG.1 b;exact⟨j,c,of_decide_eq_true d,by simp⟩
theorem zeb{k}{ps}(h:k∉ps.map (·.1)):zdj (.int .i64 k) ((enL ps).map cm) 0=some none:=by
 rw[zzI]
 cases d:ps.findIdx? (λp=>decide (p.1=k))with
 |none=>rfl
 |some j=>obtain⟨b,c,_⟩:=WG.1 d;exact absurd (Wg.2 ⟨_,List.getElem_mem b,of_decide_eq_true c⟩) h
theorem zGQ{b:List (Int×Int)}(j:(b.map (·.2)).Nodup){p c:Int×Int}(m:p∈b)(g:c∈b)(h:p.2=c.2):p=c:=by
 induction b with
 |nil=>cases m
 |cons x b ih=>
  rw[Wo,List.nodup_cons]at j;by_cases k:p∈b
  .by_cases d:c∈b
   .exact ih j.2 k d
   .have e:c=x:=by simpa [d]using g
    subst e;exact absurd (show c.2∈b.map (λx=>x.2)from Wg.2 ⟨p,k,h⟩) j.1
  .have e:p=x:=by simpa [k]using m
   by_cases d:c∈b
   .subst e;exact absurd (show p.2∈b.map (λx=>x.2)from Wg.2 ⟨c,d,h.symm⟩) j.1
   .have n:c=x:=by simpa [d]using g
    rw[e,n]
theorem zEY{P}{d}{rst}{drop}{Q}{K}{H}{nx r rm qm}{c since st}{ps sel}(I:H.get r 0=some (.row 1 ([.mp rm qm]::[.int .i64 since]::[.int .i64 st]::sel.map λp=>[.int .i64 p.2]) 0))(F:H.get rm qm=some (.row 3 ((setM c ps).map cm) 0))(w:since<=st)(y:∀p∈ps,p.2<since)(C:(ps.map (·.2)).Nodup)(J:∀p∈sel,p∈ps)(A:(∀p∈ps,p∈sel)->zbd P rst drop Q (setO K d (.tup [.bool false])) H nx)(B:∀p∈ps,p∉sel->zbd P rst drop Q (setO K d (.tup [.bool true,.int .i64 p.1,.bool true])) (H.set r 0 (.row 1 ([.mp rm qm]::[.int .i64 since]::[.int .i64 c]::(sel++[p]).map λp=>[.int .i64 p.2]) 0)) nx) :
  zJz P (.it r) d rst drop Q K H nx:=by
 have n:∀p∈ps,zAJ (.int .i64 p.2) (sel.map λp=>[.int .i64 p.2])=decide (p∈sel):=by
  intro p b;unfold zAJ;rw[Bool.eq_iff_iff,Wr,decide_eq_true_eq];constructor
  .rintro⟨s,q,k⟩;obtain⟨v,j,rfl⟩:=Wg.1 q;simp only[decide_eq_true_eq]at k;have:v=p:=by exact zGQ C (J v j) b k
   rw[<-this];exact j
  .intro h;exact⟨_,Wg.2 ⟨p,h,rfl⟩,by simp⟩
 have g:zDa (sel.map λp=>[.int .i64 p.2]) ((enL ps).map cm)=(enL (ps.filter λp=> !decide (p∈sel))).map cm:=by
  unfold zDa enL;simp only[List.map_map];rw[List.filter_map];congr 1;refine WA λp b=>?_
  simp only[Function.comp,cm,List.getD_cons_succ,List.getD_cons_zero];rw[n p b]
 unfold zJz zq2;simp only;rw[I];simp only;rw[F,zd];simp only;refine⟨⟨trivial,trivial,trivial,trivial,w,λe m=>?_,λs o=>?_⟩,λu=>A λp b=>?_,λe m=>?_⟩
 .obtain⟨x,t,rfl⟩:=Wg.1 m;obtain⟨p,b,rfl⟩:=Wg.1 t;exact⟨p.2,rfl,y p b⟩
 .obtain⟨p,b,rfl⟩:=Wg.1 o;exact⟨p.2,rfl⟩
 .rw[g]at u;have D:ps.filter (λp=> !decide (p∈sel))=[]:=by simpa [enL]using u
  have:=WB.1 D p b;simpa using this
 .rw[g]at m;obtain⟨x,t,rfl⟩:=Wg.1 m;obtain⟨p,b,rfl⟩:=Wg.1 t;rw[Wp]at b;have:=B p b.1 (by simpa using b.2);simpa [cm,zIx]using this
theorem zD5{b}:∀ {c:List (Int×Int)}{p:Int×Int},p∈c->p.2=b->(c.map (·.2)).Nodup->zDo b ((enL c).map cm)=some (.int .i64 p.1,.bool true)
 |[],_,h,_,_=>by cases h
 |
  x::c,p,h,g,hn=>by
  rw[Wo,List.nodup_cons]at hn;show zDo b (cm (.en x.1 x.2)::(enL c).map cm)=_;simp only[cm,zDo];by_cases d:x.2=b
  .rw[if_pos d];by_cases j:p∈c
   .exact absurd (show x.2∈c.map (λx=>x.2)from Wg.2 ⟨p,j,g.trans d.symm⟩) hn.1
   .have e:p=x:=by simpa [j]using h
    rw[e]
  .rw[if_neg d];refine zD5 ?_ g hn.2;rcases Ws.1 h with rfl|h
   .exact absurd g d
   .exact h
theorem zEH{H}{nx r rm qm}{c since}{ps sel}{p}(g:H.get r 0=some (.row 1 ([.mp rm qm]::[.int .i64 since]::[.int .i64 c]::(sel++[p]).map λp=>[.int .i64 p.2]) 0))(d:H.get rm qm=some (.row 3 ((setM c ps).map cm) 0))(b:(ps.map (·.2)).Nodup)(e:p∈ps):xopR .ment [.it r] H nx=⟨True,True,.tup [.int .i64 p.1,.bool true],H,nx⟩:=by
 show zzF (.it r) H nx=_;unfold zzF;simp only;rw[g];simp only[List.map_append,Wo,List.map_nil,List.getLast?_append,List.getLast?_singleton,Option.some_or];rw[d,zd];simp only[zD5 e rfl b];simp
theorem evM:type_of% @zBP/\type_of% @zwi:=⟨@zBP,@zwi⟩
theorem zB1{r q d g}{c}{u u'}{es}{H}{b}:zM5 r q (some (.row d ([.int .i64 c,u,u']::es) g)) H b=⟨d=3/\g=0,True,.it b,H.set b 0 (.row 1 [[.mp r q],[.int .i64 c],[.int .i64 c]] 0),b+1⟩:=rfl
theorem zAl{str}{r q sz g}{k}{hd}{es}{H}{nx}:zMs str r q k (some (.row sz (hd::es) g)) H nx=mdTo str r q k sz g hd es (zdj k es 0) H nx:=rfl
abbrev Fds:=List (Nat×Nat×Nat)
def fat:Fds->Nat->Nat->Option Nat
 |[],_,_=>none
 |(F,q,N)::t,c,b=>bif Wa F c&&Wa q b then some N else fat t c b
def fsig(t:Tab)(d:Fds):Nat->Nat->Option (Nat×Nat×Nat):=λc b=>match fat d c b with
 |some N=>some (N,0,0)
 |none=>t.sig c b
def fOk(n:Nat)(t:Tab):Fds->Bool
 |[]=>true
 |(F,_,N)::u=>Wi F n && !(memN (t.map (·.2.1)) N) && !(memN (u.map (·.2.2)) N)&&fOk n t u
def noQ:Nat->Nat->Prop:=λ_ _=>False
theorem zyK{n}{t}:∀{e:Fds},fOk n t e=true->∀{b d N},fat e b d=some N->b<n/\memN (t.map (·.2.1)) N=false/\N∈e.map (·.2.2)
 |[],_,b,d,N,h=>by cases h
 |
  (F,q,M)::u,hk,b,d,N,h=>by
  simp only[fOk,Wd,Wt]at hk;obtain⟨⟨⟨k,m⟩,h3⟩,h4⟩:=hk;simp only[fat]at h
  cases c:Wa F b&&Wa q d with
  |true=>rw[c]at h;cases h;rw[Wd]at c;have:=zH c.1;subst this;exact⟨by simpa [Nat.blt_eq]using k,m,by simp⟩
  |false=>rw[c]at h;obtain⟨g,j,a3⟩:=zyK h4 h;exact⟨g,j,by simp only[Wo,Ws];exact .inr a3⟩
theorem zH6{n}{t}:∀{k:Fds},fOk n t k=true->∀{r q g e N},fat k r q=some N->fat k g e=some N->r=g/\q=e
 |[],_,r,q,g,e,N,h,_=>by cases h
 |
  (F,p,M)::u,hk,r,q,g,e,N,h,b=>by
  have j:=hk;simp only[fOk,Wd,Wt]at j;obtain⟨⟨⟨m,o⟩,h3⟩,h4⟩:=j;simp only[fat]at h b
  cases d:Wa F r&&Wa p q with
  |true=>
   cases c:Wa F g&&Wa p e with
   |true=>rw[Wd]at d c;exact⟨(zH d.1).symm.trans (zH c.1),(zH d.2).symm.trans (zH c.2)⟩
   |false=>rw[d]at h;rw[c]at b;cases h;exact absurd ((zaq _ _).2 (zyK h4 b).2.2) (by rw[h3];exact Wu)
  |false=>
   cases c:Wa F g&&Wa p e with
   |true=>rw[d]at h;rw[c]at b;cases b;exact absurd ((zaq _ _).2 (zyK h4 h).2.2) (by rw[h3];exact Wu)
   |false=>rw[d]at h;rw[c]at b;exact zH6 h4 h b
def zCv(H g:AH)(σ:Nat->Nat->Option (Nat×Nat×Nat))(n:Nat):AH->Prop
 |[]=>True
 |(e,.row j c k)::u=>Wi e n=true/\(match σ e 0 with
   |some (r,q,d)=>∃b,H.get r q=some (.row j b (k+d))/\RowV H g σ noQ b c
   |none=>c=[]/\k=0)/\zCv H g σ n u
 |(e,.fam j h)::u=>Wi e n=true/\(∀(i:Nat) (p:List (List AV)×Nat),h[i]?=some p->match σ e (i+1)with
   |some (r,q,d)=>∃b,H.get r q=some (.row j b (p.2+d))/\RowV H g σ noQ b p.1
   |none=>p=([],0))/\zCv H g σ n u
def zv6(H b:AH)(σ:Nat->Nat->Option (Nat×Nat×Nat)):Kn->Kn->Prop
 |[],_=>True
 |(j,v)::u,K=>Vw H b σ noQ true (K.get j) v/\zv6 H b σ u K
theorem zxW{H HH}{σ}{K}:∀{b:Kn},zv6 H HH σ b K->∀i,Vw H HH σ noQ true (K.get i) (b.get i)
 |[],_,i=>.undef _ _
 |
  (j,v)::u,h,i=>by
  simp only[Xc]
  cases c:Wa j i with
  |true=>rw[<-zH c];exact h.1
  |false=>exact zxW h.2 i
theorem zAv{H HH}{σ}{n}:∀{b:AH},zCv H HH σ n b->∀r o,b.look r=some o->r<n
 |[],_,r,o,h=>by cases h
 |
  (r',e)::u,h,r,o,hl=>by
  have d:Wi r' n=true/\zCv H HH σ n u:=by cases e<;>exact⟨h.1,h.2.2⟩
  simp only[AH.look]at hl
  cases c:Wa r' r with
  |true=>rw[<-zH c];simpa [Nat.blt_eq]using d.1
  |false=>rw[c]at hl;exact zAv d.2 r o hl
theorem zAY{H HH}{σ}{n}:∀{x:AH},zCv H HH σ n x->∀k j s b m,x.get k j=some (.row s b m) ->
  (∃r q d c,σ k j=some (r,q,d)/\H.get r q=some (.row s c (m+d))/\RowV H HH σ noQ c b)\/(σ k j=none/\b=[]/\m=0)
 |[],_,k,j,s,b,m,h=>by cases h
 |
  (r0,y)::u,h,k,j,s,b,m,e=>by
  have B:zCv H HH σ n u:=by cases y<;>exact h.2.2
  unfold AH.get at e;simp only[AH.look]at e
  cases w:Wa r0 k with
  |false=>rw[w]at e;exact zAY B k j s b m e
  |true=>
   rw[w]at e;have:=zH w;subst this;simp only[cond_true,Option.bind_some]at e
   cases y with
   |row sz0 els0 g0=>
    cases j with
    |succ q=>cases e
    |zero=>
     simp only[AObj.part,Wq,AObj.row.injEq]at e;obtain⟨rfl,rfl,rfl⟩:=e;have g:=h.2.1
     cases o:σ r0 0 with
     |none=>rw[o]at g;exact .inr ⟨rfl,g⟩
     |some p=>obtain⟨r,q,d⟩:=p;rw[o]at g;obtain⟨c,t,v⟩:=g;exact .inl ⟨r,q,d,c,rfl,t,v⟩
   |fam sz0 ins=>
    cases j with
    |zero=>cases e
    |succ i=>
     simp only[AObj.part]at e;obtain⟨p,C,A⟩:=WH.1 e;cases A;have g:=h.2.1 i p C
     cases o:σ r0 (i+1)with
     |none=>rw[o]at g;simp only at g;rw[g];exact .inr ⟨rfl,rfl,rfl⟩
     |some p'=>obtain⟨r,q,d⟩:=p';rw[o]at g;obtain⟨c,t,v⟩:=g;exact .inl ⟨r,q,d,c,rfl,t,v⟩
theorem zLU{H HH}{σ}{D}{r q r' q'}{tl}(k:σ r' q'=some (r,q,0))(h:zA tl):RowV H HH σ D ([.mp r q]::tl) ([.mp r' q']::tl):=by
 obtain⟨_,c⟩:=RowV.of_flat (H:=H) (HH:=HH) (σ:=σ) (D:=D) h;refine⟨by simp,λi g e=>?_⟩
 cases i with
 |zero=>
  cases e;refine⟨_,rfl,rfl,λj a b d c=>?_⟩
  cases j with
  |zero=>cases d;cases c;exact .mp _ _ _ _ k
  |succ j=>cases d
 |succ i=>exact c i g e
section
variable {σ:Type}{P:Program}
variable {w0 w w':World}{L0 L L':Nat->Prop}{ι0 ι ι':Inj}{H0 H H':AH}{nx nx' B:Nat}
theorem StY.refl(h:RelH w L ι H nx):StY w L ι H w L ι H nx:=⟨rfl,rfl,rfl,Wh _,λ_ _ _ _=>rfl,λ_ _ _ _ h=>h,h,λ_ h=>.inl h,λ_ h=>.inl h,λ_ h=>h⟩
theorem StY.step(h:StY w0 L0 ι0 H0 w L ι H nx)(s:Step w L ι H nx w' ι' H' nx'):StY w0 L0 ι0 H0 w' L ι' H' nx':=by
 refine⟨s.ext.os.trans h.os,s.ext.tape.trans h.tape,s.ext.output.trans h.output,Wl h.size s.ext.size,λb d c k=>?_,λr q g l e=>s.inj _ _ _ _ (h.inj _ _ _ _ e),s.rel,λb d=>?_,h.lg,h.ll⟩
 .rw[s.ext.block b (WC d h.size) (λe=>by rcases h.lv b e with j|j;exact c j;omega)];exact h.block b d c k
 .rcases s.lv b d with c|c
  .exact h.lv b c
  .exact .inr (Wl h.size c)
theorem StY.yield(h:StY w0 L0 ι0 H0 w L ι H nx)(e:Ext L w w'):StY w0 L0 ι0 H0 w' (zn4 L w w') ι H nx:=by
 refine⟨e.os.trans h.os,e.tape.trans h.tape,e.output.trans h.output,Wl h.size e.size,λb c j d=>?_,h.inj,h.rel.yield e,h.lv,λb c=>?_,λb c=>.inl (h.ll b c)⟩
 .rw[e.block b (WC c h.size) (λk=>by rcases h.lg b k with g|g;exact d g;omega)];exact h.block b c j d
 .rcases c with c|c
  .exact h.lg b c
  .exact .inr (Wl h.size c.1)
variable {nt n0:Nat}{J:σ->(Nat->Prop)->(Nat->Prop)->World->Prop}{Jx:(Nat->Prop)->(Nat->Prop)->World->Prop}
def jst(J:σ->(Nat->Prop)->(Nat->Prop)->World->Prop)(Jx:(Nat->Prop)->(Nat->Prop)->World->Prop):Option σ->(Nat->Prop)->(Nat->Prop)->World->Prop
 |some s=>J s
 |none=>Jx
def Oset(w0:World)(L:Nat->Prop)(w:World)(ι:Inj)(H:AH):Nat->Prop:=λb=>live ι H b\/(w0.heap.size<=b/\¬L b/\∃d,w.heap[b]?=some (.deferred d))
theorem Oset.lt(rel:RelH w L ι H nx){b}(h:Oset w0 L w ι H b):b<w.heap.size:=by
 rcases h with h|⟨_,_,d,h⟩
 .exact rel.live_lt h
 .exact(Wv.1 h).1
structure InY(nt n0:Nat)(w0:World)(L0:Nat->Prop)(ι0:Inj)(H0:AH)(B:Nat)(J:σ->(Nat->Prop)->(Nat->Prop)->World->Prop)(Jx:(Nat->Prop)->(Nat->Prop)->World->Prop)(w:World)(L:Nat->Prop)(ι:Inj)(ρ:Nat->AV)(H:AH)(nx:Nat)(a:Act)(s:Option σ):Prop where
 size:a.tmps.size=nt
 hn0:n0<=w0.heap.size
 defers:zqk n0 w (Lt L ι H) a.defers
 st:StY w0 L0 ι0 H0 w L ι H nx
 le:B<=nx
 kn:KOk w (Lt L ι H) ι a.tmps ρ
 js:jst J Jx s L (Oset w0 L w ι H) w
abbrev QTY(σ:Type):=AExit->Kn->AH->Nat->Option σ->Prop
def QQY(nt n0:Nat)(w0:World)(L0:Nat->Prop)(ι0:Inj)(H0:AH)(B:Nat)(J:σ->(Nat->Prop)->(Nat->Prop)->World->Prop)(Jx:(Nat->Prop)->(Nat->Prop)->World->Prop)(Q:QTY σ):Exit->Act->World->Prop:=λe a w=>
 ∃L ι K H nx s,InY nt n0 w0 L0 ι0 H0 B J Jx w L ι (Xc K) H nx a s/\match e with
  |.normal=>Q .normal K H nx s
  |.exit id=>Q (.exit id) K H nx s
  |.ret=>Q .ret K H nx s
  |.goto l=>Q (.goto l) K H nx s
  |_=>False
theorem InY.seg(u:∀s,Stab (J s))(g:Stab Jx){ρ ρ'}{a p:Act}{s}(h:InY nt n0 w0 L0 ι0 H0 B J Jx w L ι ρ H nx a s)(i:In nt n0 w L ι H nx w' ι' ρ' H' nx' p):InY nt n0 w0 L0 ι0 H0 B J Jx w' L ι' ρ' H' nx' p s:=by
 refine⟨i.size,h.hn0,i.defers,h.st.step i.st,Wl h.le i.le,i.kn,?_⟩;have q:∀b,b<w.heap.size->¬Oset w0 L w ι H b->w'.heap[b]?=w.heap[b]? := λb c v=>i.st.ext.block b c (λe=>v (.inl e))
 have t:∀b,Oset w0 L w' ι' H' b->Oset w0 L w ι H b\/w.heap.size<=b:=λb c=>by
  rcases c with c|⟨j,k,d,m⟩
  .exact(i.st.lv b c).imp .inl id
  .rcases WD b w.heap.size with o|n
   .by_cases e:live ι H b
    .exact .inl (.inl e)
    .exact .inl (.inr ⟨j,k,d,by rw[<-i.st.ext.block b o e];exact m⟩)
   .exact .inr n
 cases s with
 |some s=>exact u s L _ _ w w' h.js q t (λb c=>c.lt i.st.rel) i.st.ext.size i.st.ext.os i.st.ext.tape i.st.ext.output
 |none=>exact g L _ _ w w' h.js q t (λb c=>c.lt i.st.rel) i.st.ext.size i.st.ext.os i.st.ext.tape i.st.ext.output
theorem InY.here{ρ}{a:Act}{s}(h:InY nt n0 w0 L0 ι0 H0 B J Jx w L ι ρ H nx a s):In nt n0 w L ι H nx w ι ρ H nx a:=⟨h.size,h.defers,.refl h.st.rel,Wh _,h.kn⟩
theorem InY.ent(u:∀s,Stab (J s))(k:Stab Jx)(base:∀r q g l,ι0 r q g=some l->r<B){K K2}{H2}{nx2}{a:Act}{s}(h:InY nt n0 w0 L0 ι0 H0 B J Jx w L ι K.get H nx a s)(v:Ent B K H nx K2 H2 nx2):
  ∃d,InY nt n0 w0 L0 ι0 H0 B J Jx w L d K2.get H2 nx2 a s:=by
 obtain⟨n,o⟩:=v;obtain⟨d,j,p,e,t⟩:=o w L ι a.tmps h.st.rel h.kn;refine⟨d,h.size,h.hn0,h.defers.less (λb c=>c.imp id (e b)),⟨h.st.os,h.st.tape,h.st.output,h.st.size,h.st.block,λr q g l m=>t r q g l (base _ _ _ _ m) (h.st.inj _ _ _ _ m),j,λb c=>h.st.lv b (e b c),h.st.lg,h.st.ll⟩,n,p,?_⟩
 cases s with
 |some s=>exact u s L _ _ w w h.js (λ_ _ _=>rfl) (λb c=>.inl (c.imp (e b) id)) (λb c=>c.lt j) (Wh _) rfl rfl rfl
 |none=>exact k L _ _ w w h.js (λ_ _ _=>rfl) (λb c=>.inl (c.imp (e b) id)) (λb c=>c.lt j) (Wh _) rfl rfl rfl
theorem InY.wfK{K}{a:Act}{s}(h:InY nt n0 w0 L0 ι0 H0 B J Jx w L ι K.get H nx a s):WfK K:=λi=>(h.kn i).wf
theorem InY.drop{K:Kn}{a:Act}{s:Option σ}(h:InY nt n0 w0 L0 ι0 H0 B J Jx w L ι K.get H nx a s)(l):InY nt n0 w0 L0 ι0 H0 B J Jx w L ι (K.drop l).get H nx a s:=by
 refine⟨h.size,h.hn0,h.defers,h.st,h.le,λi=>?_,h.js⟩;rcases Kn.get_drop K l i with b|b
 .rw[b];exact .undef _ _
 .rw[b];exact h.kn i
def WpY(P:Program)(nt n0:Nat)(w0:World)(L0:Nat->Prop)(ι0:Inj)(H0:AH)(B:Nat)(J:σ->(Nat->Prop)->(Nat->Prop)->World->Prop)(Jx:(Nat->Prop)->(Nat->Prop)->World->Prop)(c:Code)(Q:QTY σ)(K:Kn)(H:AH)(nx:Nat)(s:Option σ):Prop :=
 ∀(w:World)(L:Nat->Prop)(ι:Inj)(a:Act),InY nt n0 w0 L0 ι0 H0 B J Jx w L ι K.get H nx a s->c.wp P (QQY nt n0 w0 L0 ι0 H0 B J Jx Q) a w
variable {K:Kn}{s:Option σ}{Q:QTY σ}
theorem WpY.pure(k:∀s,Stab (J s))(g:Stab Jx){q}{c}(ac)(m:comp P nt q c=some ac.strip)(h:awp P nx ac (λe K H nx=>Q e K H nx s) K H nx):WpY P nt n0 w0 L0 ι0 H0 B J Jx c Q K H nx s:=by
 intro w L ι a b;refine wp_mono (zAt zyp b.st.rel (Wl b.hn0 b.st.size) ac c m _ w ι K H nx a b.here h) λe o w' ⟨ι',j,H',nx',d,n⟩=>?_
 refine⟨L,ι',j,H',nx',s,b.seg k g d,?_⟩;cases e<;>exact n
theorem WpY.seq{k m:Code}(h:WpY P nt n0 w0 L0 ι0 H0 B J Jx k (λe K H nx s=>match e with |.normal=>WpY P nt n0 w0 L0 ι0 H0 B J Jx m Q K H nx s|e=>Q e K H nx s) K H nx s):WpY P nt n0 w0 L0 ι0 H0 B J Jx (.seq k m) Q K H nx s:=by
 intro w L ι a g;refine wp_seq (wp_mono (h w L ι a g) λe n w' ⟨L',ι',d,H',nx',j,b,c⟩=>?_)
 cases e with
 |normal=>exact c w' L' ι' n b
 |exit id=>exact⟨L',ι',d,H',nx',j,b,c⟩
 |ret=>exact⟨L',ι',d,H',nx',j,b,c⟩
 |goto l=>exact⟨L',ι',d,H',nx',j,b,c⟩
 |_=>exact c.elim
theorem WpY.cond{x}{y}{t}{c1 c2}(j:copd x=some y)(c:ev K.get y=.bool t)(g:t=true->WpY P nt n0 w0 L0 ι0 H0 B J Jx c1 Q K H nx s)(h:t=false->WpY P nt n0 w0 L0 ι0 H0 B J Jx c2 Q K H nx s):
  WpY P nt n0 w0 L0 ι0 H0 B J Jx (.cond x c1 c2) Q K H nx s:=by
 intro w L ι a b;have d:=zB b.kn j;rw[c]at d;generalize e:a.eval x=u at d;cases d
 cases t with
 |true=>exact wp_cond_true e (g rfl w L ι a b)
 |false=>exact wp_cond_false e (h rfl w L ι a b)
theorem WpY.block{id:Nat}{c:Code}(h:WpY P nt n0 w0 L0 ι0 H0 B J Jx c (λe K H nx s=>match e with
   |.exit k=>bif Wa k id then Q .normal K H nx s else Q (.exit k) K H nx s
   |e=>Q e K H nx s) K H nx s):WpY P nt n0 w0 L0 ι0 H0 B J Jx (.block id c) Q K H nx s:=by
 intro w L ι a n;refine wp_block (wp_mono (h w L ι a n) λe p w' ⟨L',ι',g,H',nx',m,b,d⟩=>?_)
 cases e with
 |normal=>exact⟨L',ι',g,H',nx',m,b,d⟩
 |exit j=>
  simp only[Exit.inBlock];simp only at d;by_cases o:j=id
  .subst o;rw[if_pos rfl];rw[zcA]at d;exact⟨L',ι',g,H',nx',m,b,d⟩
  .rw[if_neg o];rw[zfm o]at d;exact⟨L',ι',g,H',nx',m,b,d⟩
 |ret=>exact⟨L',ι',g,H',nx',m,b,d⟩
 |goto l=>exact⟨L',ι',g,H',nx',m,b,d⟩
 |_=>exact d.elim
theorem WpY.loop(U:∀s,Stab (J s))(p:Stab Jx)(base:∀r q g l,ι0 r q g=some l->r<B){c:Code}{α:Type}(S:α->Kn×AH×Option σ)(N:Nat)(d:α->Prop)(μ:α->Nat)(o:α)(W:d o)(D:Ent B K H nx (S o).1 (S o).2.1 N)(Y:s=(S o).2.2)(X:∀x,d x->WfK (S x).1->WpY P nt n0 w0 L0 ι0 H0 B J Jx c (λe K H nx s=>match e with
   |.normal=>∃k,d k/\μ k<μ x/\Ent B K H nx (S k).1 (S k).2.1 N/\s=(S k).2.2
   |e=>Q e K H nx s) (S x).1 (S x).2.1 N (S x).2.2):WpY P nt n0 w0 L0 ι0 H0 B J Jx (.loop c) Q K H nx s:=by
 intro w L ι a F;obtain⟨R,t⟩:=F.ent U p base D;subst Y;refine wp_loop_ghost (λn a w=>∃x L ι,d x/\μ x=n/\InY nt n0 w0 L0 ι0 H0 B J Jx w L ι (Xc (S x).1) (S x).2.1 N a (S x).2.2) (μ o) ⟨o,L,R,W,rfl,t⟩ ?_;rintro n V w' ⟨x,L',ι',Z,rfl,h⟩;refine wp_mono (X x Z h.wfK w' L' ι' V h) λe a2 w2 ⟨y,m,C,A,j,O,b,v⟩=>?_
 cases e with
 |normal=>obtain⟨k,M,I,D,rfl⟩:=v;obtain⟨T,u⟩:=b.ent U p base D;exact⟨_,I,k,y,T,M,rfl,u⟩
 |exit id=>exact⟨y,m,C,A,j,O,b,v⟩
 |ret=>exact⟨y,m,C,A,j,O,b,v⟩
 |goto l=>exact⟨y,m,C,A,j,O,b,v⟩
 |_=>exact v.elim
end
section
variable {σ:Type}{P:Program}{w0 w w':World}{L0 L:Nat->Prop}{ι0 ι:Inj}{H0 H:AH}{nx B nt n0:Nat}{J:σ->(Nat->Prop)->(Nat->Prop)->World->Prop}{Jx:(Nat->Prop)->(Nat->Prop)->World->Prop}{K:Kn}{s:Option σ}{Q:QTY σ}
theorem zxn{a:Act}{o}{c:Call}{x}{l}(d:o.op=.call c)(b:c.callee=.value x)(e:a.eval x=.func (.yield l) #[] #[]):
  (execOp a.eval o).run P w=(Instr.yield l (c.args.map a.eval)).run P w:=by
 simp[execOp,d,resolve,b,e,Deferred.ofValue,Sem.run_bind,invoke]
def WpYL(P:Program)(nt n0:Nat)(w0:World)(L0:Nat->Prop)(ι0:Inj)(H0:AH)(B:Nat)(J:σ->(Nat->Prop)->(Nat->Prop)->World->Prop)(Jx:(Nat->Prop)->(Nat->Prop)->World->Prop)(ops:Array Oper)(l:List Oper)(Q:QTY σ)(K:Kn)(H:AH)(nx:Nat)(s:Option σ):Prop :=
 ∀(w:World)(L:Nat->Prop)(ι:Inj)(a:Act),InY nt n0 w0 L0 ι0 H0 B J Jx w L ι K.get H nx a s->wpListIn Fence.wide 1 P ops (QQY nt n0 w0 L0 ι0 H0 B J Jx Q) l a w
theorem WpY.region{id}{ops}(h:WpYL P nt n0 w0 L0 ι0 H0 B J Jx ops ops.toList Q K H nx s):WpY P nt n0 w0 L0 ι0 H0 B J Jx (.region id ops false) Q K H nx s :=
 λw L ι a b=>wpIn_wide.1 (wpIn_region_list (h w L ι a b))
theorem WpYL.nil{ops}(drop)(h:Q .normal (K.drop drop) H nx s):WpYL P nt n0 w0 L0 ι0 H0 B J Jx ops [] Q K H nx s :=
 λw L ι a b=>⟨L,ι,K.drop drop,H,nx,s,b.drop drop,h⟩
theorem WpYL.op(u:∀s,Stab (J s))(g:Stab Jx){ops}{o}{l}(ao)(v:OpRel P nt ops o ao)(h:ExK P true ao K H nx (λb q e=>WpYL P nt n0 w0 L0 ι0 H0 B J Jx ops l Q b q e s)):WpYL P nt n0 w0 L0 ι0 H0 B J Jx ops (o::l) Q K H nx s:=by
 intro w L ι a c;have k:=ztp (k':=λρ H nx=>∃b,Xc b=ρ/\WpYL P nt n0 w0 L0 ι0 H0 B J Jx ops l Q b H nx s) (λK H nx m=>⟨K,rfl,m⟩) h
 have:=zwU v c.here k (Kc:=wpListIn Fence.wide 1 P ops (QQY nt n0 w0 L0 ι0 H0 B J Jx Q) l) (Qc:=QQY nt n0 w0 L0 ι0 H0 B J Jx Q) (λw' p x q e t d ⟨b,j,m⟩=>by
  subst j
  exact m w' L p t (c.seg u g d))
 unfold wpListIn;split
 .rename_i n;rw[if_pos n]at this;exact zCq (.inl rfl) (.inl rfl) this
 .rename_i n;rw[if_neg n]at this;exact⟨λ_ _=>trivial,this⟩
theorem InY.put{ρ}{a:Act}{s s'}{d}(hd:zAr nt d=true)(h:InY nt n0 w0 L0 ι0 H0 B J Jx w L ι ρ H nx a s)(e:Ext L w w')(y:∀s,Stab (J s))(q:Stab Jx)(m:jst J Jx s' (zn4 L w w') (Oset w0 L w ι H) w')(b):
  InY nt n0 w0 L0 ι0 H0 B J Jx w' (zn4 L w w') ι (upd ρ d (.bool b)) H nx (a.put d (.bool b)) s':=by
 have x:∀b,Oset w0 (zn4 L w w') w' ι H b->Oset w0 L w ι H b:=λb c=>by
  rcases c with c|⟨t,j,d,k⟩
  .exact .inl c
  .have n:=(Wv.1 k).1
   have v:b<w.heap.size:=by
    rcases WD b w.heap.size with p|p
    .exact p
    .exact absurd (.inr ⟨p,n⟩) j
   have o:¬L b:=λA=>j (.inl A)
   exact .inr ⟨t,o,d,by rw[<-e.block b v o];exact k⟩
 replace m:jst J Jx s' (zn4 L w w') (Oset w0 (zn4 L w w') w' ι H) w':=by
  have g:=h.st.rel.yield e
  cases s' with
  |some s'=>exact y s' _ _ _ w' w' m (λ_ _ _=>rfl) (λb c=>.inl (x b c)) (λb c=>c.lt g) (Wh _) rfl rfl rfl
  |none=>exact q _ _ _ w' w' m (λ_ _ _=>rfl) (λb c=>.inl (x b c)) (λb c=>c.lt g) (Wh _) rfl rfl rfl
 cases d with
 |none=>exact⟨h.size,h.hn0,h.defers.yield h.st.rel e,h.st.yield e,h.le,λi=>zrT h.st.rel e (h.kn i),m⟩
 |some d=>
  have u:d<a.tmps.size:=by rw[h.size];simpa [zAr]using hd
  refine⟨by simp[Act.put,h.size],h.hn0,h.defers.yield h.st.rel e,h.st.yield e,h.le,λi=>?_,m⟩;show VR w' (Lt (zn4 L w w') ι H) ι ((a.tmps.setIfInBounds d (.bool b)).getD i undef) (if i=d then .bool b else ρ i);rw[zy1 u];split
  .exact .bool _ _
  .exact zrT h.st.rel e (h.kn i)
theorem VRs.plain{L'}(j:∀b,L' b->L b\/zpB w b):∀{d:List Value}{c:List AV},VRs w L ι d c->(∀x∈c,AV.Below 0 x)->VRs w L' noI d c
 |[],[],_,_=>.nil
 |v::d,x::c,.cons m n,k=>.cons (by
   have h:=(m.more j).upto (k x (by simp));have e:ι.upto 0=noI:=by funext r q g;simp[Inj.upto,Ab.noI]
   rw[e]at h
   exact h) (VRs.plain j n (λy o=>k y (WE _ o)))
theorem WpYL.yield(M:∀s,Stab (J s))(m:Stab Jx){I:Nat}{next:σ->Option (List AV×σ)}(S:YOk P I next J Jx){ok:σ->Prop}(C:∀s L O w,J s L O w->ok s){ops:Array Oper}{o:Oper}{l:List Oper}{c:Call}{t:Nat}{A:List AOpd}{s s':σ}(X:o.op=.call c)(u:c.callee=.value (.tmp t))(V:o.guard=none)(hd:zAr nt o.dst=true)(Z:c.args.toList.mapM copd=some A)(U:K.get t=.fn (.yield I) [])(W:next s=some (evs K.get A,s'))(h:∀x∈evs K.get A,AV.Below 0 x)(N:ok s'->WpYL P nt n0 w0 L0 ι0 H0 B J Jx ops l Q (setO K o.dst (.bool true)) H nx (some s'))(R:WpYL P nt n0 w0 L0 ι0 H0 B J Jx ops l Q (setO K o.dst (.bool false)) H nx none) :
  WpYL P nt n0 w0 L0 ι0 H0 B J Jx ops (o::l) Q K H nx (some s):=by
 intro w L ι a g;have D:VR w (Lt L ι H) ι (a.eval (.tmp t)) (K.get t):=g.kn t;rw[U]at D
 have q:a.eval (.tmp t)=.func (.yield I) #[] #[]:=by
  generalize a.eval (.tmp t)=v at D
  cases D with
  |fn _ _ cs _ hs _=>
   have:cs=#[]:=by simpa using hs
   rw[this]
 have F:=(zpQ g.kn Z)
 have hy:=S s (evs K.get A) s' L (Oset w0 L w ι H) w (c.args.map a.eval) W g.js g.st.rel.Lsz (λb h=>⟨h.lt g.st.rel,by rcases h with h|h;exact g.st.rel.out b h;exact h.2.1⟩) (by
  rw[Array.toList_map]
  exact VRs.plain (λb h=>by
   rcases h with h|h|⟨_,_,d,h⟩
   .exact .inl (.inl h)
   .exact .inl (.inr h)
   .exact .inr (λc e f u=>by rw[h]at u;cases u)) F h)
 obtain⟨fn,tmps,assign,body,p,j⟩:=hy;unfold wpListIn;have Y:Region.wanted o (yielded ops a.tmps)=true:=by simp[Region.wanted,V]
 rw[if_pos Y];refine⟨λ_ _=>trivial,?_⟩;have T:o.semAt Fence.wide.round a.eval=execOp a.eval o:=rfl;rw[T,zxn X u q,p];refine⟨λ_=>Wh _,j.mono λe w' ⟨k,n⟩=>?_⟩;rcases n with ⟨rfl,y⟩|⟨rfl,y⟩
 .have:=N (C _ _ _ _ y) w' (zn4 L w w') ι (a.put o.dst (.bool true)) (by
   rw[zr8]
   exact g.put hd k (s':=some s') M m y true)
  exact this
 .have:=R w' (zn4 L w w') ι (a.put o.dst (.bool false)) (by
   rw[zr8]
   exact g.put hd k (s':=none) M m y false)
  exact this
theorem it_ok{f:FuncId}{fn:Func}{c:Code}{j:List AV}{next:σ->Option (List AV×σ)}{ok:σ->Prop}{X:σ}{I:Option σ->AH->Nat->Prop}(hf:P.funcs[f]?=some fn)(k:fn.body=some c)(hr:fn.results.toList.mapM (cret P)=some [])(hn:j.length+1<=fn.ntmps)(h:∀(l:Nat) (w0:World) (L0:Nat->Prop) (ι0:Inj) (J:σ->(Nat->Prop)->(Nat->Prop)->World->Prop) (Jx:(Nat->Prop)->(Nat->Prop)->World->Prop),(∀r q g l,ι0 r q g=some l->r<nx)->(∀s,Stab (J s))->Stab Jx->YOk P l next J Jx->(∀s L O w,J s L O w->ok s) ->
   WpY P fn.ntmps w0.heap.size w0 L0 ι0 H nx J Jx c (λe _ y n s=>match e with
    |.exit _=>False
    |.goto _=>False
    |_=>I s y n) (zoH 0 (.fn (.yield l) []::j)) H nx (some X)):ItOk P f j H nx next ok X I:=by
 intro w L ι Y l J Jx hJ N hY hok rel hv hj;have S:Y.size=j.length:=by simpa using hv.length
 refine ztR hf k ?_;have T:VRs w (Lt L ι H) ι (#[Value.func (.yield l) #[] #[]]++Y).toList (.fn (.yield l) []::j):=by rw[Array.toList_append];exact .cons (.fn _ _ _ _ rfl (λi v a h=>by simp at h)) hv
 have hsz:(#[Value.func (.yield l) #[] #[]]++Y).size=j.length+1:=by simp[S,Nat.add_comm]
 generalize #[Value.func (.yield l) #[] #[]]++Y=vs at T hsz
 have hin:InY fn.ntmps w.heap.size w L ι H nx J Jx w L ι (zoH 0 (.fn (.yield l) []::j)).get H nx { tmps:=vs++Array.replicate (fn.ntmps-vs.size) undef,defers:=[] } (some X):=by
  refine⟨by simp;omega,Wh _,.nil,.refl rel,Wh _,λi=>?_,hJ X L _ _ w w hj (λ_ _ _=>rfl) (λb k=>.inl (by
   rcases k with k|⟨k,_,d,h⟩
   .exact k
   .have:=(Wv.1 h).1;omega)) (λb k=>k.lt rel) (Wh _) rfl rfl rfl⟩
  rw[zwL,if_pos (Nat.zero_le _),Nat.sub_zero];rcases WD i (j.length+1)with hi|hi
  .have Z:i<vs.size:=by omega
   refine T.get i _ _ ?_ (by simp[List.getD,WI (show i<(AV.fn (.yield l) []::j).length by simpa using hi)]);simp[Array.getD_eq_getD_getElem?,Array.getElem?_append,Z]
  .rw[show(AV.fn (.yield l) []::j).getD i .undef=.undef by simp[List.getD,WJ (show(AV.fn (.yield l) []::j).length<=i by simpa using hi)]];exact .undef _ _
 refine wp_mono (h l w L ι J Jx rel.idx hJ N hY hok w L ι _ hin) λe a' w' ⟨C,p,K,y,n,s,o,W⟩=>?_
 have M:I s y n->∃x,a'.defers=x.map zxc/\x.Nodup/\(∀m∈x,w'.heap[m]?=some (.deferred (some [])))/\∃v,(results fn a'.tmps).run P (shut x w')=.ok v (shut x w') /\
   ∃v_1 C p y n,Ending.returned v=.returned v_1/\StY w L ι H (shut x w') C p y n/\nx<=n/\((∃s,J s C (live p y) (shut x w')/\I (some s) y n)\/(Jx C (live p y) (shut x w')/\I none y n)):=by
  intro U;obtain⟨x,m1,m2,F⟩:=o.defers;refine⟨x,m1,m2,λm D=>(F m D).2.1,?_⟩;have hD:∀b,b∈x->zpB w' b/\b<w'.heap.size/\¬live p y b:=λb k=>by obtain⟨h4,V,h6⟩:=F b k;exact⟨λc e f hc=>(by rw[V]at hc;cases hc),(Wv.1 V).1,λhl=>h6 (.inr hl)⟩
  have t:=zza x w';obtain⟨u,hvr⟩:=o.st.rel.turn hD t;have A:=o.st;have st2:StY w L ι H (shut x w') C p y n:=by refine⟨t.os.trans A.os,t.tape.trans A.tape,t.output.trans A.output,Wl A.size t.size,λb k Z U=>?_,A.inj,u,A.lv,A.lg,A.ll⟩;rw[t.block b (WC k A.size) (λD=>by have:=(F b D).1;omega)];exact A.block b k Z U
  have k1:∀b,b<w'.heap.size->¬Oset w C w' p y b->(shut x w').heap[b]?=w'.heap[b]? := λb k hn=>t.block b k (λD=>hn (.inr ⟨(F b D).1,λhl=>(F b D).2.2 (.inl hl),_,(F b D).2.1⟩))
  obtain⟨us,h3,h4⟩:=zEU u (λi=>hvr _ _ (o.kn i)) _ _ hr trivial;obtain⟨v,V,_⟩:=zym h3 h4;refine⟨v,V,v,C,p,y,n,rfl,st2,o.le,?_⟩;have R:=o.js
  cases s with
  |some s=>exact .inl ⟨s,hJ s C _ _ w' _ R k1 (λb k=>.inl (.inl k)) (λb k=>u.live_lt k) t.size t.os t.tape t.output,U⟩
  |none=>exact .inr ⟨N C _ _ w' _ R k1 (λb k=>.inl (.inl k)) (λb k=>u.live_lt k) t.size t.os t.tape t.output,U⟩
 cases e with
 |normal=>exact⟨.inl rfl,M W⟩
 |ret=>exact⟨.inr rfl,M W⟩
 |exit id=>exact W.elim
 |_=>exact W.elim
end
structure YE(P:Program)(nt:Nat)(q:Nat->List Nat){σ:Type}(next:σ->Option (List AV×σ))(ok:σ->Prop) where
 n0:Nat
 w0:World
 L0:Nat->Prop
 ι0:Inj
 H0:AH
 B:Nat
 J:σ->(Nat->Prop)->(Nat->Prop)->World->Prop
 Jx:(Nat->Prop)->(Nat->Prop)->World->Prop
 lp:Nat
 hJ:∀s,Stab (J s)
 hJx:Stab Jx
 base:∀r q g l,ι0 r q g=some l->r<B
 hY:YOk P lp next J Jx
 hok:∀s L O w,J s L O w->ok s
section
variable {σ:Type}{P:Program}{nt:Nat}{q:Nat->List Nat}{next:σ->Option (List AV×σ)}{ok:σ->Prop} (E:YE P nt q next ok)
def WpA(b:ACode)(Q:QTY σ)(K:Kn)(H:AH)(d:Nat)(s:Option σ):Prop:=∀c,comp P nt q c=some b.strip->WpY P nt E.n0 E.w0 E.L0 E.ι0 E.H0 E.B E.J E.Jx c Q K H d s
def WpAL(b:List AOper)(drop:List Nat)(Q:QTY σ)(K:Kn)(H:AH)(d:Nat)(s:Option σ):Prop :=
 ∀(ops:Array Oper)(l:List Oper),b.length=l.length->(∀(i:Nat)(o:Oper)(c:AOper),l[i]?=some o->b[i]?=some c->OpRel P nt ops o c)->WpYL P nt E.n0 E.w0 E.L0 E.ι0 E.H0 E.B E.J E.Jx ops l Q K H d s
variable {E}{K:Kn}{H:AH}{nx:Nat}{s:Option σ}{Q:QTY σ}
theorem WpA.pure{ac}(h:wpX P nx ac (λe K H nx=>Q e K H nx s) K H nx):WpA E ac Q K H nx s:=λ_ b=>WpY.pure E.hJ E.hJx ac b h
def seqY(E:YE P nt q next ok)(b:ACode)(Q:QTY σ):QTY σ:=λe K H nx s=>match e with
 |.normal=>WpA E b Q K H nx s
 |e=>Q e K H nx s
def zLt(id:Nat)(Q:QTY σ):QTY σ:=λe K H nx s=>match e with
 |.exit b=>bif Wa b id then Q .normal K H nx s else Q (.exit b) K H nx s
 |e=>Q e K H nx s
def loopY{α:Type}(B:Nat)(S:α->Kn×AH×Option σ)(N:Nat)(c:α->Prop)(μ:α->Nat)(x:α)(Q:QTY σ):QTY σ:=λe K H nx s=>match e with
 |.normal=>∃b,c b/\μ b<μ x/\Ent B K H nx (S b).1 (S b).2.1 N/\s=(S b).2.2
 |e=>Q e K H nx s
theorem WpA.seq{a b}(h:WpA E a (seqY E b Q) K H nx s):WpA E (.seq a b) Q K H nx s:=by
 intro c d
 cases c with
 |seq c1 c2=>
  simp only[comp,Xa,Ww,Wc,Wq]at d;obtain⟨C,p,M,y,k⟩:=d;cases k;refine WpY.seq λw L ι x m=>wp_mono (h c1 p w L ι x m) λe D J ⟨v,o,u,t,n,B,g,j⟩=>⟨v,o,u,t,n,B,g,?_⟩
  cases e with
  |normal=>exact j c2 y
  |exit id=>exact j
  |ret=>exact j
  |goto l=>exact j
  |_=>exact j
 |scope c1=>exfalso;simp only[comp,Xa,Wc]at d;obtain⟨C,p,k⟩:=d;exact(zaX k).elim
 |region id ops draw=>simp only[comp,Xa]at d;(repeat' split at d)<;>simp at d
 |rangeFunc I A F cB=>simp only[comp,Xa]at d;split at d<;>simp[Wc]at d
 |_=>simp[comp,Xa,Wc]at d
theorem WpA.cond{x}{t}{a b}(h:ev K.get x=.bool t)(k:t=true->WpA E a Q K H nx s)(m:t=false->WpA E b Q K H nx s):WpA E (.cond x a b) Q K H nx s:=by
 intro c d
 cases c with
 |cond x1 c1 c2=>simp only[comp,Xa,Ww,Wc,Wq]at d;obtain⟨u,j,y,n,A,o,g⟩:=d;cases g;exact WpY.cond j h (λe=>k e c1 n) (λe=>m e c2 o)
 |scope c1=>exfalso;simp only[comp,Xa,Wc]at d;obtain⟨u,j,g⟩:=d;exact(zaX g).elim
 |region id ops draw=>simp only[comp,Xa]at d;(repeat' split at d)<;>simp at d
 |rangeFunc w p v cB=>simp only[comp,Xa]at d;split at d<;>simp[Wc]at d
 |_=>simp[comp,Xa,Wc]at d
theorem WpA.block{id}{a}(h:WpA E a (zLt id Q) K H nx s):WpA E (.block id a) Q K H nx s:=by
 intro c b
 cases c with
 |block id1 c1=>
  simp only[comp,Xa,Ww,Wc,Wq]at b;obtain⟨A,n,g⟩:=b;cases g;refine WpY.block λw L ι u j=>wp_mono (h c1 n w L ι u j) λe B F ⟨t,m,p,o,k,y,d,v⟩=>⟨t,m,p,o,k,y,d,?_⟩
  cases e<;>exact v
 |scope c1=>exfalso;simp only[comp,Xa,Wc]at b;obtain⟨A,n,g⟩:=b;exact(zaX g).elim
 |region id ops draw=>simp only[comp,Xa]at b;(repeat' split at b)<;>simp at b
 |rangeFunc D x C cB=>simp only[comp,Xa]at b;split at b<;>simp[Wc]at b
 |_=>simp[comp,Xa,Wc]at b
theorem WpA.loop{a}{α:Type}(S:α->Kn×AH×Option σ)(N:Nat)(d:α->Prop)(μ:α->Nat)(h:α)(A:d h)(j:Ent E.B K H nx (S h).1 (S h).2.1 N)(I:s=(S h).2.2)(F:∀x,d x->WfK (S x).1->WpA E a (loopY E.B S N d μ x Q) (S x).1 (S x).2.1 N (S x).2.2):WpA E (.loop a) Q K H nx s:=by
 intro c b
 cases c with
 |loop c1=>
  simp only[comp,Xa,Ww,Wc,Wq]at b;obtain⟨R,p,k⟩:=b;cases k;refine WpY.loop E.hJ E.hJx E.base S N d μ h A j I λx C J w L ι y m=>wp_mono (F x C J c1 p w L ι y m) λe T W ⟨v,o,u,t,n,O,g,D⟩=>⟨v,o,u,t,n,O,g,?_⟩
  cases e<;>exact D
 |scope c1=>exfalso;simp only[comp,Xa,Wc]at b;obtain⟨R,p,j⟩:=b;exact(zaX j).elim
 |region id ops draw=>simp only[comp,Xa]at b;(repeat' split at b)<;>simp at b
 |rangeFunc V M U cB=>simp only[comp,Xa]at b;split at b<;>simp[Wc]at b
 |_=>simp[comp,Xa,Wc]at b
theorem WpA.region{os}{drop}(h:WpAL E os drop Q K H nx s):WpA E (.region os drop) Q K H nx s:=by
 intro c b
 cases c with
 |region id ops draw=>
  simp only[comp,Xa]at b;split at b
  .rename_i g p
   cases draw with
   |false=>simp only[Bool.false_eq_true,if_false,Wq,ACode.region.injEq,and_true]at b;subst b;obtain⟨j,k⟩:=zzu p;refine WpY.region (h ops ops.toList (by rw[List.length_map,j]) λi o u m e=>?_);rw[List.getElem?_map]at e;obtain⟨v,d,rfl⟩:=WH.1 e;exact(k i o _ m d).ro
   |true=>simp only[if_true]at b;split at b<;>cases b
  .cases b
 |scope c1=>exfalso;simp only[comp,Xa,Wc]at b;obtain⟨A,y,n⟩:=b;exact(zaX n).elim
 |rangeFunc x t w cB=>simp only[comp,Xa]at b;split at b<;>simp[Wc]at b
 |_=>simp[comp,Xa,Wc]at b
theorem WpAL.nil{drop}(h:Q .normal (K.drop drop) H nx s):WpAL E [] drop Q K H nx s:=by intro ops l b _;have:l=[]:=List.eq_nil_of_length_eq_zero b.symm;subst this;exact WpYL.nil drop h
theorem WpAL.op{b}{asv}{drop}(h:ExK P true b K H nx (λe d c=>WpAL E asv drop Q e d c s)):WpAL E (b::asv) drop Q K H nx s:=by
 intro ops l g j
 cases l with
 |nil=>cases g
 |cons o l=>refine WpYL.op E.hJ E.hJx b (j 0 o b rfl rfl) ?_;refine zj7 ?_ h;exact λe d c n=>n ops l (by simpa using g) λi o b k m=>j (i+1) o b (by simpa using k) (by simpa using m)
theorem OpRel.callv{ops}{o}{d}{x}{g}(h:OpRel P nt ops o ⟨d,.callv x g,none⟩):
  ∃c t,o.op=.call c/\c.callee=.value (.tmp t)/\c.args.toList.mapM copd=some g/\x=.t t/\o.guard=none/\o.dst=d/\zAr nt d=true:=by
 obtain⟨e,m,b⟩:=h.op
 have n:e=.callv x g:=by
  rcases b with b|⟨_,_,_,b⟩|⟨_,_,b⟩|⟨_,_,_,_,_,b⟩|⟨_,_,_,_,_,b⟩
  .exact b.symm
  .cases b
  .cases b
  .cases b
  .cases b
 subst n;obtain⟨c,t,p,u,v,w⟩:=zBA m;refine⟨c,t,p,u,v,w,?_,h.dst.symm,by have k:=h.dst;have j:=h.ok;rw[<-k]at j;exact j⟩;have:=h.guard;split at this
 .assumption
 .obtain⟨_,_,y⟩:=this;cases y
theorem WpAL.yield{asv}{drop}{d}{t}{k}{s s'}(D:K.get t=.fn (.yield E.lp) [])(I:next s=some (evs K.get k,s'))(C:∀x∈evs K.get k,AV.Below 0 x)(h:ok s'->WpAL E asv drop Q (setO K d (.bool true)) H nx (some s'))(j:WpAL E asv drop Q (setO K d (.bool false)) H nx none):WpAL E (⟨d,.callv (.t t) k,none⟩::asv) drop Q K H nx (some s):=by
 intro ops l m n
 cases l with
 |nil=>cases m
 |cons o l=>
  obtain⟨c,J,p,u,v,w,y,A,B⟩:=(n 0 o _ rfl rfl).callv;cases w;subst A;have b:asv.length=l.length:=by simpa using m
  have e:∀(i:Nat)(o:Oper)(g:AOper),l[i]?=some o->asv[i]?=some g->OpRel P nt ops o g:=λi o g h j=>n (i+1) o g (by simpa using h) (by simpa using j)
  exact WpYL.yield E.hJ E.hJx E.hY E.hok p u y B v D I C (λF=>h F ops l b e) (j ops l b e)
def retY(b:Option σ->AH->Nat->Prop):QTY σ:=λe _ H nx s=>match e with
 |.exit _=>False
 |.goto _=>False
 |_=>b s H nx
theorem zix{b}:seqY E b Q .normal K H nx s=WpA E b Q K H nx s:=rfl
theorem zyV{id}:zLt id Q .normal K H nx s=Q .normal K H nx s:=rfl
theorem zA2{α:Type}{B:Nat}{S:α->Kn×AH×Option σ}{N:Nat}{b:α->Prop}{μ:α->Nat}{x:α}:loopY B S N b μ x Q .normal K H nx s=∃c,b c/\μ c<μ x/\Ent B K H nx (S c).1 (S c).2.1 N/\s=(S c).2.2:=rfl
theorem zKn{f:FuncId}{v:ACode}{x:List ARet}(d:zL P f q=some (v.strip,x,nt))(n:x=[]){b:List AV}{y:σ}{u:Option σ->AH->Nat->Prop}(W:Wk (b.length+1) nt=true)(h:∀E:YE P nt q next ok,E.B=nx->WpA E v (retY u) (zoH 0 (.fn (.yield E.lp) []::b)) H nx (some y)):ItOk P f b H nx next ok y u:=by
 subst n;unfold zL at d;split at d
 .rename_i fn V;split at d
  .rename_i c U;split at d
   .rename_i a r O R;cases d;refine it_ok V U R (Wj W) λl A M t J D base S j T m w L ι N k=>?_
    let E:YE P fn.ntmps q next ok:=⟨A.heap.size,A,M,t,H,nx,J,D,l,S,j,base,T,m⟩
    refine wp_mono (h E rfl c O w L ι N k) λe Z w2 ⟨I,p,F,C,o,Y,g,X⟩=>⟨I,p,F,C,o,Y,g,?_⟩
    cases e<;>exact X
   .cases d
  .cases d
 .cases d
end
section
variable {σ:Type}{P:Program}{nt:Nat}{q:Nat->List Nat}{next:σ->Option (List AV×σ)}{ok:σ->Prop}{E:YE P nt q next ok}{K:Kn}{H:AH}{nx:Nat}{s:Option σ}{Q:QTY σ}
def preQ(E:YE P nt q next ok)(post:List AOper)(drop:List Nat)(Q:QTY σ)(s:Option σ):QT:=λe K H nx=>match e with
 |.normal=>WpAL E post drop Q K H nx s
 |_=>False
theorem zrm{post}{drop}:preQ E post drop Q s .normal K H nx=WpAL E post drop Q K H nx s:=rfl
theorem zAA:∀K:Kn,Xd K []=K
 |[]=>rfl
 |
  (j,v)::t=>by
  simp only[Xd,memN,cond_false];rw[zAA t]
theorem WpAL.pre0{post}{drop}:∀(pre:List AOper){K:Kn}{H:AH}{nx:Nat},aops P pre [] (preQ E post drop Q s) K H nx->WpAL E (pre++post) drop Q K H nx s
 |
  [],K,H,nx,h=>by
  have h:WpAL E post drop Q (K.drop []) H nx s:=h;rw[zAA]at h;exact h
 |
  o::os,K,H,nx,h=>by
  rw[List.cons_append];refine WpAL.op (zj7 ?_ h);exact λe d c b=>WpAL.pre0 os b
theorem WpAL.pre{post:List AOper}{drop:List Nat}{pre:List AOper}{b:List AOper}(c:b=pre++post)(h:wpX P 0 (.region pre []) (preQ E post drop Q s) K H nx):WpAL E b drop Q K H nx s:=by subst c;exact WpAL.pre0 pre h
end
variable {P:Program}{H:AH}{nx:Nat}{D:Nat->Nat->Prop}
section
variable {P:Program}
structure DrawOk2(rk:Nat->Nat)(ops:List AOper)(deps:List (List Nat))(Ls:List Nat)(A:List (List Nat))(St:List (List Nat))(plan:Plan)(ks:List Nat):Prop where
 low:∀(i:Nat),i<ops.length->∀j∈deps.getD i [],j<ops.length/\rk j<rk i
 clo:∀(i:Nat),i<ops.length->∀j∈A.getD i [],j∈deps.getD i []\/∃d∈deps.getD i [],j∈A.getD d []
 one:∀(i j d:Nat),i<ops.length->j<ops.length->(ops.getD i default).dst=some d->(ops.getD j default).dst=some d->i=j
 keys:∀k∈ks,∃o∈ops,o.dst=some k
 look:∀(i:Nat),i<ops.length->∀t∈(ops.getD i default).looks,(∃j∈A.getD i [],(ops.getD j default).dst=some t)\/∀o∈ops,o.dst≠some t
 lin:∀i∈Ls,i<ops.length
 st0:[]∈St
 stc:∀S∈St,∀i∈Ls,zhX Ls A i S=true->zr2 Ls i S∈St
 plan:∀(i:Nat),i<ops.length->((ops.getD i default).fixed=true/\(ops.getD i default).sees=false/\i∉Ls/\anyP plan i=true) \/
  (i∉Ls/\∀S∈St,zhX Ls A i S=true->memP plan i S S=true)\/(i∈Ls/\∀S∈St,zhX Ls A i S=true->memP plan i S (zr2 Ls i S)=true)
def zzR(h:Nat->Nat)(ops:List AOper)(b:List (List Nat))(g:List Nat)(A:List (List Nat))(St:List (List Nat))(c:Plan)(m:List Nat):Bool :=
 allB ops.length (λi=>(b.getD i []).all λj=>Wi j ops.length&&Wi (h j) (h i)) &&
 allB ops.length (λi=>(A.getD i []).all λj=>memN (b.getD i []) j||(b.getD i []).any λd=>memN (A.getD d []) j) &&
 allB ops.length (λi=>allB i λj=>match (ops.getD i default).dst,(ops.getD j default).dst with|some d,some e=> !Nat.beq d e|_,_=>true) &&
 m.all (λk=>ops.any λo=>match o.dst with|some d=>Wa d k|none=>false) &&
 allB ops.length (λi=>(ops.getD i default).looks.all λt=>((A.getD i []).any λj=>match (ops.getD j default).dst with|some d=>Wa d t|none=>false)||ops.all λo=>match o.dst with|some d=> !Nat.beq d t|none=>true) &&
 g.all (λi=>Wi i ops.length) &&
 memS St [] &&
 St.all (λS=>g.all λi=> !zhX g A i S||memS St (zr2 g i S)) &&
 allB ops.length (λi=>bif memN g i then St.all λS=> !zhX g A i S||memP c i S (zr2 g i S)
  else((ops.getD i default).fixed&&(!(ops.getD i default).sees&&anyP c i))||St.all λS=> !zhX g A i S||memP c i S S)
theorem zyd{rk}{ops}{deps}{Ls}{A}{St}{plan}{ks}(h:zzR rk ops deps Ls A St plan ks=true):DrawOk2 rk ops deps Ls A St plan ks:=by
 unfold zzR at h;simp only[Wd]at h;obtain⟨⟨⟨⟨⟨⟨⟨⟨w,x⟩,h3⟩,h4⟩,h5⟩,h6⟩,h7⟩,h8⟩,h9⟩:=h;have g:∀i j d,i<ops.length->j<i->(ops.getD i default).dst=some d->(ops.getD j default).dst=some d->False:=λi j d b c s u=>by have:=zbW (zbW h3 b) c;rw[s,u]at this;simp[zcA]at this
 constructor
 .intro i b j c;have:=We.1 (zbW w b) j c;rw[Wd]at this;exact⟨Wj this.1,Wj this.2⟩
 .intro i b j c;have:=We.1 (zbW x b) j c;rcases Wm.1 this with this|this
  .exact .inl ((zaq _ _).1 this)
  .obtain⟨d,hd,m⟩:=Wr.1 this;exact .inr ⟨d,hd,(zaq _ _).1 m⟩
 .intro i j d b c s u;rcases Nat.lt_trichotomy i j with h|h|h
  .exact(g j i d c h u s).elim
  .exact h
  .exact(g i j d b h s u).elim
 .intro k y;obtain⟨o,v,hd⟩:=Wr.1 (We.1 h4 k y);refine⟨o,v,?_⟩
  cases e:o.dst with
  |none=>rw[e]at hd;cases hd
  |some d=>rw[e]at hd;rw[zH hd]
 .intro i b t B;have:=We.1 (zbW h5 b) t B;rcases Wm.1 this with this|this
  .obtain⟨j,c,hd⟩:=Wr.1 this;refine .inl ⟨j,c,?_⟩
   cases e:(ops.getD j default).dst with
   |none=>rw[e]at hd;cases hd
   |some d=>rw[e]at hd;rw[zH hd]
  .refine .inr λo v e=>?_
   have:=We.1 this o v;rw[e]at this;simp[zcA]at this
 .intro i b;exact Wj (We.1 h6 i b)
 .exact zsN h7
 .intro S n i b p;exact zsN (impB (We.1 (We.1 h8 S n) i b) p)
 .intro i b;have:=zbW h9 b
  cases m:memN Ls i with
  |true=>rw[m]at this;exact .inr (.inr ⟨(zaq _ _).1 m,λS n p=>impB (We.1 this S n) p⟩)
  |false=>
   rw[m]at this;have q:=zpS m;rcases Wm.1 this with this|this
   .simp only[Wd,Wt]at this;exact .inl ⟨this.1,this.2.1,q,this.2.2⟩
   .exact .inr (.inl ⟨q,λS n p=>impB (We.1 this S n) p⟩)
theorem zvV{rk}{ops}{b}{Ls}{A}{St}{plan}{ks}(ok:DrawOk2 rk ops b Ls A St plan ks){l}(m:∀i,i<ops.length->getB l i=true->∀j∈b.getD i [],getB l j=true):∀(i:Nat),i<ops.length->(∀j∈b.getD i [],getB l j=true)->∀j∈A.getD i [],getB l j=true:=by
 intro i;generalize o:rk i=r
 induction r using Nat.strongRecOn generalizing i with
 |_ r ih=>
  intro e hd j n;rcases ok.clo i e j n with h|⟨d,c,k⟩
  .exact hd j h
  .obtain⟨g,p⟩:=ok.low i e d c;exact ih (rk d) (by omega) d rfl g (m d g (hd d c)) j k
theorem zJY{rk}{ops}{deps}{Ls}{A St}{plan}{ks}{Kf}{hs}(ok:DrawOk2 rk ops deps Ls A St plan ks)(Y:zxw P ops Kf hs plan){l}{K}{H}{nx i}(hl:l.length=ops.length)(c:DInv ops deps Ls St Kf hs l K H nx)(C:i<ops.length)(hr:zbD deps l i=true) :
  ExK P false (ops.getD i default) K H nx (DInv ops deps Ls St Kf hs (l.set i true)):=by
 obtain⟨I,u⟩:=zbp.1 hr;have hA:=zvV ok c.clo i C u
 have V:∀t∈(ops.getD i default).looks,K.get t=Kf.get t:=λt M=>by
  rcases ok.look i C t M with ⟨j,y,hd⟩|h
  .have g:=hA j y;have T:j<ops.length:=by apply Classical.byContradiction;intro hcon;unfold getB at g;rw[Wf,WJ (by omega)]at g;cases g
   exact c.done j t T g hd
  .exact c.rest t h
 have n:zhX Ls A i (Ls.filter (getB l))=true:=by
  unfold zhX;simp only[Wd,Wt,We,Bool.or_eq_true];refine⟨?_,λm w=>?_,λm w=>?_⟩
  .cases p:memN (Ls.filter (getB l)) i with
   |false=>rfl
   |true=>have:=(Wp.1 ((zaq _ _).1 p)).2;rw[I]at this;cases this
  .cases p:memN (A.getD i []) m with
   |false=>exact .inl rfl
   |true=>exact .inr ((zaq _ _).2 (Wp.2 ⟨w,hA m ((zaq _ _).1 p)⟩))
  .obtain⟨F,W⟩:=Wp.1 w
   cases p:memN (A.getD m []) i with
   |false=>rfl
   |true=>have:=zvV ok c.clo m (ok.lin m F) (c.clo m (ok.lin m F) W) i ((zaq _ _).1 p);rw[I]at this;cases this
 have key:∃b,znI P Kf (ops.getD i default) (H,nx) b/\b=hs (Ls.filter (getB (l.set i true)))/\Ls.filter (getB (l.set i true))∈St:=by
  have k:i∉Ls->Ls.filter (getB (l.set i true))=Ls.filter (getB l):=λo=>by
   refine WA λm w=>?_
   rw[zhq (by omega),if_neg (λe:m=i=>o (by rw[<-e];exact w))]
  rcases ok.plan i C with ⟨hf,Z,o,ha⟩|⟨o,U⟩|⟨S,U⟩
  .obtain⟨b,p⟩:=zwN Y ha;refine⟨(H,nx),?_,by rw[k o];exact c.rows,by rw[k o];exact c.here⟩;unfold znI zbd at p;simp only[awpT]at p
   have x:=ztp (k':=λρ H2 J=>∀d,(ops.getD i default).dst=some d->ρ d=Kf.get d) (λK2 H2 J R d e=>by
    have L:=R.1;rw[e]at L;have h4:Xc _ d=_:=L;rw[zi3]at h4
    exact h4) p
   obtain⟨v,hy,hv⟩:=zrV hf x;exact zur hf (zzS (H':=H) (nx':=nx) Z hy) hv
  .refine⟨(H,nx),?_,by rw[k o];exact c.rows,by rw[k o];exact c.here⟩;have:=zpu Y (U _ c.here n);rw[<-c.rows]at this;exact this
  .have X:zr2 Ls i (Ls.filter (getB l))=Ls.filter (getB (l.set i true)):=by
    unfold zr2;refine WA λm w=>?_
    rw[zhq (by omega)];by_cases s:m=i
    .subst s;simp[zcA]
    .rw[if_neg s,zfm s,Bool.false_or]
     cases p:getB l m with
     |true=>exact(zaq _ _).2 (Wp.2 ⟨w,p⟩)
     |false=>
      cases N:memN (Ls.filter (getB l)) m with
      |false=>rfl
      |true=>have:=(Wp.1 ((zaq _ _).1 N)).2;rw[p]at this;cases this
   have x:=zpu Y (U _ c.here n);have B:=ok.stc _ c.here i S n;rw[X]at x B;rw[<-c.rows]at x;exact⟨_,x,rfl,B⟩
 obtain⟨b,p,O,Q⟩:=key;refine zj7 (λK2 H2 J R=>?_) (zwu V p);obtain⟨x,B,L⟩:=R;refine⟨?_,?_,?_,Q,?_⟩
 .intro j y g m w;rw[zhq (by omega)]at g⊢;by_cases s:m=i
  .rw[if_pos s]
  .rw[if_neg s];by_cases q:j=i
   .subst q;exact u m w
   .rw[if_neg q]at g;exact c.clo j y g m w
 .intro j d y g hd;rw[zhq (by omega)]at g;by_cases q:j=i
  .subst q;rw[hd]at x;exact x
  .rw[if_neg q]at g;rw[B d (λe=>q (ok.one j i d y C hd e))];exact c.done j d y g hd
 .intro t M;rw[B t (M _ (zu9 C))];exact c.rest t M
 .rw[<-O,L]
theorem all2{e}{ops}{deps}{Ls}{A St}{plan}{ks}(ok:DrawOk2 e ops deps Ls A St plan ks){l}(b:∀i,i<ops.length->zbD deps l i=false):∀i,i<ops.length->getB l i=true:=by
 intro i;generalize d:e i=r
 induction r using Nat.strongRecOn generalizing i with
 |_ r k=>
  intro c;have:=b i c
  cases h:getB l i with
  |true=>rfl
  |false=>have d:zbD deps l i=true:=zbp.2 ⟨h,λj g=>k (e j) (by have:=(ok.low i c j g).2;omega) j rfl (ok.low i c j g).1⟩;rw[this]at d;cases d
theorem zA5{deps}{l}{a b i}(e:b<deps.length)(h:zbD (deps.set b (a::deps.getD b [])) l i=true):zbD deps l i=true:=by
 rw[zbp]at h⊢;refine⟨h.1,λj d=>h.2 j ?_⟩;rw[Wf,Wx];by_cases c:b=i
 .subst c;simp only[if_true,e,Wy];exact WE _ d
 .rw[if_neg c,<-Wf];exact d
theorem zsO{deps}{l}{a b i}(e:b<deps.length)(h:zbD deps l i=true)(g:i=b->getB l a=true):zbD (deps.set b (a::deps.getD b [])) l i=true:=by
 rw[zbp]at h⊢;refine⟨h.1,λj c=>?_⟩;rw[Wf,Wx]at c;by_cases d:b=i
 .subst d;simp only[if_true,e,Wy]at c;rcases Ws.1 c with rfl|c
  .exact g rfl
  .exact h.2 j c
 .rw[if_neg d,<-Wf]at c;exact h.2 j c
theorem zKD{c:List (List Nat)}{a b i:Nat}(g:b<c.length){j:Nat}(d:j∈(c.set b (a::c.getD b [])).getD i []):j∈c.getD i []\/(i=b/\j=a):=by
 rw[Wf,Wx]at d;by_cases e:b=i
 .subst e;simp only[if_true,g,Wy]at d;rcases Ws.1 d with rfl|d
  .exact .inr ⟨rfl,rfl⟩
  .exact .inl d
 .rw[if_neg e,<-Wf]at d;exact .inl d
theorem zKT{c:List (List Nat)}{a b i:Nat}(g:b<c.length){j:Nat}(e:j∈c.getD i []):j∈(c.set b (a::c.getD b [])).getD i []:=by
 rw[Wf,Wx];by_cases d:b=i
 .subst d;simp only[if_true,g,Wy];exact WE _ e
 .rw[if_neg d,<-Wf];exact e
theorem zEM{K0}{b}{d1 d2 t}{x y x2 y2}(c:t≠d1)(d:t≠d2):(zaL K0 ((d1,x)::(d2,y)::b)).get t=(zaL K0 ((d1,x2)::(d2,y2)::b)).get t:=by
 rw[zaL,zaL,zaL,zaL,zi,zi]
 cases zux b t with
 |some v=>rfl
 |none=>simp only[zAL];rw[Xb,if_neg d,Xb,if_neg c,Xb,if_neg d,Xb,if_neg c]
theorem zsL{K0}{d}{d1 d2 t}{x y}(h:d1≠d2):(zaL K0 ((d1,x)::(d2,y)::d)).get t=(zaL K0 ((d2,y)::(d1,x)::d)).get t:=by
 rw[zaL,zaL,zaL,zaL,zi,zi]
 cases zux d t with
 |some v=>rfl
 |none=>
  simp only[zAL];rw[Xb,Xb,Xb,Xb];by_cases b:t=d1
  .subst b;rw[if_neg h,if_pos rfl,if_pos rfl]
  .by_cases c:t=d2
   .subst c;rw[if_pos rfl,if_neg b,if_pos rfl]
   .rw[if_neg c,if_neg b,if_neg b,if_neg c]
theorem DInv.swap{ops:List AOper}{c:List (List Nat)}{p:List Nat}{St St2 A:List (List Nat)}{C:Plan}{Y:List Nat}{Z:Nat->Nat}{Q:Kn}{S:List (Nat×AV)}{F I:Nat}{x y x2 y2:AV}{R hs2:List Nat->AH×Nat}{l:List Bool}{K:Kn}{H:AH}{nx a b:Nat}(V:b<c.length)(U:a<c.length)(ok:DrawOk2 Z ops (c.set b (a::c.getD b [])) p A St C Y)(k:DInv ops (c.set b (a::c.getD b [])) p St (zaL Q ((F,x)::(I,y)::S)) R l K H nx)(u:(ops.getD a default).dst=some F)(v:(ops.getD b default).dst=some I)(q:a<ops.length)(s:b<ops.length)(W:ops.length<=c.length)(J:∀m∈p,m=a\/m=b\/a∈A.getD m [])(o:getB l a=false)(B:getB l b=false)(T:hs2 []=R [])(N:[]∈St2) :
  DInv ops (c.set a (b::c.getD a [])) p St2 (zaL Q ((F,x2)::(I,y2)::S)) hs2 l K H nx:=by
 have L:p.filter (getB l)=[]:=by
  rw[WB];intro m M n;rcases J m M with rfl|rfl|h
  .rw[o]at n;cases n
  .rw[B]at n;cases n
  .have:=zvV ok k.clo m (ok.lin m M) (k.clo m (ok.lin m M) n) a h;rw[o]at this;cases this
 refine⟨λi w g j X=>?_,λi d w g hd=>?_,λt O=>?_,by rw[L];exact N,by rw[L,T];have:=k.rows;rw[L]at this;exact this⟩
 .rcases zKD U X with h|⟨h,_⟩
  .exact k.clo i w g j (zKT V h)
  .subst h;rw[o]at g;cases g
 .rw[k.done i d w g hd];refine zEM (λe=>?_) (λe=>?_)
  .have:=ok.one i a d w q hd (by rw[u,e]);subst this;rw[o]at g;cases g
  .have:=ok.one i b d w s hd (by rw[v,e]);subst this;rw[B]at g;cases g
 .rw[k.rest t O];exact zEM (λe=>O _ (zu9 q) (by rw[u,e])) (λe=>O _ (zu9 s) (by rw[v,e]))
theorem DInv.end{ops}{deps}{Ls}{St A}{plan}{ks}{rk}{K0}{vs}{hs}{l}{K}{H}{nx}{drop}{Q}(ok:DrawOk2 rk ops deps Ls A St plan ks)(g:DInv ops deps Ls St (zaL K0 vs) hs l K H nx)(d:∀i,i<ops.length->zbD deps l i=false)(v:QExt Q){kept}(c:zzX drop vs=kept)(k:Q .normal (zaL (K0.drop drop) kept) (hs Ls).1 (hs Ls).2):Q .normal (K.drop drop) H nx:=by
 have b:=all2 ok d
 have s:KEq (zaL K0 vs) K:=λt=>by
  by_cases h:∃o∈ops,o.dst=some t
  .obtain⟨o,p,hd⟩:=h;obtain⟨i,n,k⟩:=List.mem_iff_getElem.1 p;have e:ops.getD i default=o:=by rw[Wf,WI n,k];rfl
   exact(g.done i t n (b i n) (by rw[e];exact hd)).symm
  .exact(g.rest t (λo p e=>h ⟨o,p,e⟩)).symm
 have j:Ls.filter (getB l)=Ls:=List.filter_eq_self.2 (λm u=>b m (ok.lin m u));have q:=g.rows;rw[j]at q;rw[<-q]at k;exact v _ _ _ _ _ (λt=>(zEJ c t).trans (s.drop drop t)) k
def zGI(ops:List AOper)(c:List (List Nat))(g:List Nat)(A B:List (List Nat))(a b h j:Nat):Bool :=
 (Wi a ops.length&&Wi b ops.length)&&(Wk ops.length c.length&&((match (ops.getD a default).dst,(ops.getD b default).dst with|some d,some e=>Wa d h&&Wa e j|_,_=>false) &&
  (g.all (λm=>Wa m a||(Wa m b||memN (A.getD m []) a))&&g.all (λm=>Wa m b||(Wa m a||memN (B.getD m []) b)))))
def rkTwo(a b i:Nat):Nat:=bif Wa i a then 2*b+1 else 2*i
theorem zJo{ops:List AOper}{c:List (List Nat)}{drop:List Nat}{Q:QT}{V:Kn}{H0:AH}{nx0 n:Nat}(a b u N:Nat)(F:List Nat)(A B X Y:List (List Nat))(T U:Plan)(W:List (Nat×AV))(x y x2 y2:AV)(v w:List Nat->AH×Nat)(hA:zzR (λi=>i) ops (c.set b (a::c.getD b [])) F A X T (u::N::W.map (·.1))=true)(hB:zzR (rkTwo a b) ops (c.set a (b::c.getD a [])) F B Y U (u::N::W.map (·.1))=true)(hab:Wa a b=false)(C:zGI ops c F A B a b u N=true)(hn:n=ops.length)(h0A:v []=(H0,nx0))(h0B:w []=(H0,nx0))(hq:QExt Q)(Z:∀(Kf:Kn)(R:List Nat->AH×Nat),Kf=zaL V ((u,x)::(N,y)::W)->R=v->zxw P ops Kf R T)(hpB:∀(Kf:Kn)(R:List Nat->AH×Nat),Kf=zaL V ((u,x2)::(N,y2)::W)->R=w->zxw P ops Kf R U)(S zKt:List (Nat×AV))(hkA:zzX drop ((u,x)::(N,y)::W)=S)(hkB:zzX drop ((u,x2)::(N,y2)::W)=zKt)(heA:Q .normal (zaL (V.drop drop) S) (v F).1 (v F).2)(heB:Q .normal (zaL (V.drop drop) zKt) (w F).1 (w F).2) :
  zbd P (.tree (zgb ops c n (Wz n false))) drop Q V H0 nx0:=by
 have q:=zyd hA;have okB:=zyd hB;have Z:=Z _ _ rfl rfl;have hpB:=hpB _ _ rfl rfl;subst hn;have M:a≠b:=λe=>by rw[e,zcA]at hab;cases hab
 unfold zGI at C;simp only[Wd]at C;obtain⟨⟨s1,s2⟩,s3,s4,s5,s6⟩:=C;have I:a<ops.length:=Wj s1;have J:b<ops.length:=Wj s2;have hdl:ops.length<=c.length:=Wj s3
 have s:(ops.getD a default).dst=some u/\(ops.getD b default).dst=some N:=by
  cases e1:(ops.getD a default).dst with
  |none=>rw[e1]at s4;cases s4
  |some d=>
   cases e2:(ops.getD b default).dst with
   |none=>rw[e1,e2]at s4;cases s4
   |some e=>rw[e1,e2]at s4;simp only[Wd]at s4;rw[zH s4.1,zH s4.2];exact⟨rfl,rfl⟩
 obtain⟨s,L⟩:=s
 have hL1:∀m∈F,m=a\/m=b\/a∈A.getD m []:=λm hm=>by
  have:=We.1 s5 m hm;rcases Wm.1 this with h|h
  .exact .inl (zH h)
  .rcases Wm.1 h with h|h
   .exact .inr (.inl (zH h))
   .exact .inr (.inr ((zaq _ _).1 h))
 have hL2:∀m∈F,m=b\/m=a\/b∈B.getD m []:=λm hm=>by
  have:=We.1 s6 m hm;rcases Wm.1 this with h|h
  .exact .inl (zH h)
  .rcases Wm.1 h with h|h
   .exact .inr (.inl (zH h))
   .exact .inr (.inr ((zaq _ _).1 h))
 have getR:∀i,getB (Wz ops.length false) i=false:=λi=>by unfold getB;rw[Wf,List.getElem?_replicate];split<;>rfl
 have noR:F.filter (getB (Wz ops.length false))=[]:=by rw[WB];intro i _;rw[getR];simp
 have hcome:∀m,zk0 (Wz m false)=m:=by
  intro m
  induction m with
  |zero=>rfl
  |succ m ih=>rw[List.replicate_succ,zk0,ih];simp;omega
 refine zzW (λl K H nx=>DInv ops (c.set b (a::c.getD b [])) F X (zaL V ((u,x)::(N,y)::W)) v l K H nx\/DInv ops (c.set a (b::c.getD a [])) F Y (zaL V ((u,x2)::(N,y2)::W)) w l K H nx) ?_ ?_ ops.length _ V H0 nx0 (by simp) (by rw[hcome];omega) (.inl ⟨λi _ h=>(by rw[getR]at h;cases h),λi d _ h=>(by rw[getR]at h;cases h),λt ht=>?_,?_,?_⟩)
 .intro l K H nx i hl g hi hr;have hun:=(zbp.1 hr).1;rcases g with g|g
  .by_cases k:i=b/\getB l a=false
   .obtain⟨rfl,hna⟩:=k;have p:=g.swap (St2:=Y) (x2:=x2) (y2:=y2) (hs2:=w) (by omega) (by omega) q s L I J hdl hL1 hna hun (h0B.trans h0A.symm) okB.st0;exact zj7 (λ_ _ _ h=>.inr h) (zJY okB hpB hl p hi (zsO (by omega) hr λe=>absurd e.symm M))
   .exact zj7 (λ_ _ _ h=>.inl h) (zJY q Z hl g hi (zsO (by omega) hr λe=>by
    cases h:getB l a with
    |true=>rfl
    |false=>exact absurd ⟨e,h⟩ k))
  .by_cases k:i=a/\getB l b=false
   .obtain⟨rfl,hnb⟩:=k
    have hperm:DInv ops (c.set i (b::c.getD i [])) F Y (zaL V ((N,y2)::(u,x2)::W)) w l K H nx:=by
     refine⟨g.clo,λj d hj hjl hd=>?_,λt ht=>?_,g.here,g.rows⟩
     .rw[g.done j d hj hjl hd];refine zsL ?_;intro e;exact M (q.one i b u I J s (by rw[L,<-e]))
     .rw[g.rest t ht];refine zsL ?_;intro e;exact M (q.one i b u I J s (by rw[L,<-e]))
    have p:=hperm.swap (St2:=X) (x2:=y) (y2:=x) (hs2:=v) (by omega) (by omega) okB L s J I hdl hL2 hnb hun (h0A.trans h0B.symm) q.st0
    have inv3:DInv ops (c.set b (i::c.getD b [])) F X (zaL V ((u,x)::(N,y)::W)) v l K H nx:=by
     refine⟨p.clo,λj d hj hjl hd=>?_,λt ht=>?_,p.here,p.rows⟩
     .rw[p.done j d hj hjl hd];refine zsL ?_;intro e;exact M (q.one i b u I J s (by rw[L,e]))
     .rw[p.rest t ht];refine zsL ?_;intro e;exact M (q.one i b u I J s (by rw[L,e]))
    exact zj7 (λ_ _ _ h=>.inl h) (zJY q Z hl inv3 hi (zsO (by omega) hr λe=>absurd e M))
   .exact zj7 (λ_ _ _ h=>.inr h) (zJY okB hpB hl g hi (zsO (by omega) hr λe=>by
    cases h:getB l b with
    |true=>rfl
    |false=>exact absurd ⟨e,h⟩ k))
 .intro l K H nx hl g O
  have nA:∀i,i<ops.length->zbD (c.set b (a::c.getD b [])) l i=false:=λi hi=>by
   cases h:zbD (c.set b (a::c.getD b [])) l i with
   |false=>rfl
   |true=>exact absurd (O i hi) (by simp[zA5 (show b<c.length by omega) h])
  have nB:∀i,i<ops.length->zbD (c.set a (b::c.getD a [])) l i=false:=λi hi=>by
   cases h:zbD (c.set a (b::c.getD a [])) l i with
   |false=>rfl
   |true=>exact absurd (O i hi) (by simp[zA5 (show a<c.length by omega) h])
  rcases g with g|g
  .exact g.end q nA hq hkA heA
  .exact g.end okB nB hq hkB heB
 .rw[ztP];intro hm;obtain⟨o,ho,hd⟩:=q.keys t (by simpa using hm);exact ht o ho hd
 .rw[noR];exact q.st0
 .rw[noR];exact h0A.symm
end
inductive Ad(M:Option Nat)(r q g:Nat):AV->AV->Prop
 |same (a):Ad M r q g a a
 |own (m off n) (h:M=some m):Ad M r q g (.own m 0 0 off n) (.own r q g off n)
 |ptr (m i f) (h:M=some m):Ad M r q g (.ptr m 0 0 i f) (.ptr r q g i f)
 |nil (h:M=none):Ad M r q g .nilsl (.own r q g 0 0)
 |agg (asv bs) (hl:asv.length=bs.length) (h:∀(i:Nat)(a b:AV),asv[i]?=some a->bs[i]?=some b->Ad M r q g a b):Ad M r q g (.agg asv) (.agg bs)
 |fn (f asv bs) (hl:asv.length=bs.length) (h:∀(i:Nat)(a b:AV),asv[i]?=some a->bs[i]?=some b->Ad M r q g a b):Ad M r q g (.fn f asv) (.fn f bs)
def RowA(M:Option Nat)(r q g:Nat)(e d:List (List AV)):Prop :=
 d.length=e.length/\∀(i:Nat)(h:List AV),d[i]?=some h->∃c,e[i]?=some c/\h.length=c.length/\∀(j:Nat)(a b:AV),c[j]?=some a->h[j]?=some b->Ad M r q g a b
inductive ObjA(M:Option Nat)(r q g:Nat):AObj->AObj->Prop
 |same (o):ObjA M r q g o o
 |row (sz els els2 g1) (h:RowA M r q g els els2):ObjA M r q g (.row sz els g1) (.row sz els2 g1)
 |fam (sz ins ins2) (h:∀(i:Nat) (p2:List (List AV)×Nat),ins2[i]?=some p2->∃p,ins[i]?=some p/\p2.2=p.2/\RowA M r q g p.1 p2.1):ObjA M r q g (.fam sz ins) (.fam sz ins2)
def zKt(N:Nat):Kn->Kn->Prop
 |[],_=>True
 |(j,v)::t,K=>(K.get j=v/\AV.Below N v)/\zKt N t K
theorem zAM{B}:∀{b:Fds},(b.all λf=>Wk B f.1)=true->∀{r q},r<B->fat b r q=none
 |[],_,r,q,_=>rfl
 |
  (F,q',N)::u,h,r,q,hr=>by
  simp only[List.all_cons,Wd]at h;have d:=Wj h.1;have c:Wa F r=false:=zfm (by omega);simp only[fat,c,Bool.false_and,cond_false];exact zAM h.2 hr
theorem Ent.foldB{B}{K K2}{H H2}{nx nx2}(t)(c:Fds)(Q:Wk B nx2=true)(v:t.idB B=true)(u:(c.all λf=>Wk B f.1)=true)(g:t.ok nx2 []=true)(s:fOk nx2 t c=true)(y:zCv H H2 (fsig t c) nx2 H2)(R:zv6 H H2 (fsig t c) K2 K):Ent B K H nx K2 H2 nx2:=by
 have tab:∀{m o x},t.sig m o=some x->∃r d,t.at m=some (r,d)/\x=(r,o,d):=by
  intro m o x h;unfold Tab.sig at h
  cases b:t.at m with
  |none=>rw[b]at h;cases h
  |some A=>rw[b]at h;cases h;exact⟨A.1,A.2,rfl,rfl⟩
 refine Ent.view (fsig t c) noQ ⟨Wj Q,λr q h=>?_,?_,λ_ _ _ _ _ _ h=>h,?_,zAv y,zAY y⟩ (zxW R)
 .unfold fsig;rw[zAM u h];unfold Tab.sig;simp only;rw[Tab.idB_at v r h]
 .intro U S I C r q V W n e;unfold fsig at n e
  cases b:fat c U S with
  |some N=>
   rw[b]at n;cases n
   cases j:fat c I C with
   |some M=>rw[j]at e;cases e;exact zH6 s b j
   |none=>rw[j]at e;obtain⟨F,w,k,p⟩:=tab e;cases p;have:=(Tab.ok_at g k).2.2;exact absurd ((zaq _ _).2 this) (by rw[(zyK s b).2.1];exact Wu)
  |none=>
   rw[b]at n;obtain⟨F,w,k,p⟩:=tab n;cases p
   cases j:fat c I C with
   |some M=>rw[j]at e;cases e;have:=(Tab.ok_at g k).2.2;exact absurd ((zaq _ _).2 this) (by rw[(zyK s j).2.1];exact Wu)
   |none=>rw[j]at e;obtain⟨T,J,L,O⟩:=tab e;cases O;exact⟨Tab.ok_inj g k L,rfl⟩
 .intro m o x h;unfold fsig at h
  cases b:fat c m o with
  |some N=>exact(zyK s b).1
  |none=>rw[b]at h;obtain⟨F,w,k,p⟩:=tab h;exact(Tab.ok_at g k).1
end Go.Ab
namespace Go.Ab.Dm
abbrev Adj:=List (List Nat)
def suc(E:Adj)(k:Nat):List Nat:=E.getD k []
def Adj.ok(E:Adj):Prop:=∀k,∀n∈suc E k,n<E.length
def dfs(E:Adj):Nat->Nat->List Nat×List Nat->List Nat×List Nat
 |0,_,s=>s
 |
  f+1,k,s=>
  let b:=(suc E k).foldl (λs n=>if n∈s.1 then s else dfs E f n s) (s.1++[k],s.2)
  (b.1,b.2++[k])
def orderL(E:Adj):List Nat:=if E.length=0 then[]else(dfs E E.length 0 ([],[])).2.reverse
inductive RA(E:Adj)(X:Nat->Prop)(a:Nat):Nat->Prop
 |refl:¬X a->RA E X a a
 |step {b c:Nat}:RA E X a b->c∈suc E b->¬X c->RA E X a c
end Go.Ab.Dm
namespace Go.Proofs
open Go.RowKit Go.Maps Go.Sort Go.Shelf
def zCB:Go.Shelf.Ren:=⟨λ|5=>184|8=>122|7=>202|19=>168|20=>169|10=>209|11=>210|12=>211|13=>212|14=>213|15=>214|16=>215|17=>216|18=>217|30=>224|31=>190|32=>191|33=>225|34=>226|35=>227|40=>230|n=>n,λ|23=>35|25=>3|3=>3|32=>194|22=>35|0=>0|44=>24|46=>233|4=>4|36=>224|35=>223|41=>229|5=>5|9=>9|53=>245|57=>249|63=>260|64=>109|n=>n,λ|n=>n⟩
theorem zH7:Go.Proofs.SlLaysM.n5 Tryz.prog zCB:={
 mixed:=by kernel_rfl,
 f5:=⟨Tryz.f184.name,by decide,Tryz.func184.trans (congrArg some (by kernel_rfl))⟩,
 f7:=⟨Tryz.f202.name,by decide,Tryz.func202.trans (congrArg some (by kernel_rfl))⟩,
 f8:=Tryz.func122.trans (congrArg some (by kernel_rfl)),
 f10:=⟨Tryz.f209.name,by decide,Tryz.func209.trans (congrArg some (by kernel_rfl))⟩,
 f11:=⟨Tryz.f210.name,by decide,Tryz.func210.trans (congrArg some (by kernel_rfl))⟩,
 f12:=⟨Tryz.f211.name,by decide,Tryz.func211.trans (congrArg some (by kernel_rfl))⟩,
 f13:=⟨Tryz.f212.name,by decide,Tryz.func212.trans (congrArg some (by kernel_rfl))⟩,
 f14:=⟨Tryz.f213.name,by decide,Tryz.func213.trans (congrArg some (by kernel_rfl))⟩,
 f15:=⟨Tryz.f214.name,by decide,Tryz.func214.trans (congrArg some (by kernel_rfl))⟩,
 f16:=⟨Tryz.f215.name,by decide,Tryz.func215.trans (congrArg some (by kernel_rfl))⟩,
 f17:=⟨Tryz.f216.name,by decide,Tryz.func216.trans (congrArg some (by kernel_rfl))⟩,
 f18:=⟨Tryz.f217.name,by decide,Tryz.func217.trans (congrArg some (by kernel_rfl))⟩,
 f19:=Tryz.func168.trans (congrArg some (by kernel_rfl)),
 f20:=Tryz.func169.trans (congrArg some (by kernel_rfl)),
 f30:=⟨Tryz.f224.name,by decide,Tryz.func224.trans (congrArg some (by kernel_rfl))⟩,
 f31:=Tryz.func190.trans (congrArg some (by kernel_rfl)),
 f32:=Tryz.func191.trans (congrArg some (by kernel_rfl)),
 f33:=⟨Tryz.f225.name,by decide,Tryz.func225.trans (congrArg some (by kernel_rfl))⟩,
 f34:=⟨Tryz.f226.name,by decide,Tryz.func226.trans (congrArg some (by kernel_rfl))⟩,
 f35:=⟨Tryz.f227.name,by decide,Tryz.func227.trans (congrArg some (by kernel_rfl))⟩,
 f40:=⟨Tryz.f230.name,by decide,Tryz.func230.trans (congrArg some (by kernel_rfl))⟩,
 t0:=Tryz.underlying0,
 a0:=Tryz.isAgg0,
 z0:=Tryz.sizeOf0,
 v0:=Tryz.zeroValue0,
 t3:=Tryz.underlying3,
 a3:=Tryz.isAgg3,
 z3:=Tryz.sizeOf3,
 v3:=Tryz.zeroValue3,
 t4:=Tryz.underlying4,
 a4:=Tryz.isAgg4,
 z4:=Tryz.sizeOf4,
 v4:=Tryz.zeroValue4,
 t5:=Tryz.underlying5,
 a5:=Tryz.isAgg5,
 z5:=Tryz.sizeOf5,
 v5:=Tryz.zeroValue5,
 t9:=Tryz.underlying9,
 a9:=Tryz.isAgg9,
 z9:=Tryz.sizeOf9,
 v9:=Tryz.zeroValue9,
 t22:=Tryz.underlying35,
 a22:=Tryz.isAgg35,
 z22:=Tryz.sizeOf35,
 v22:=Tryz.zeroValue35,
 t23:=Tryz.underlying35,
 a23:=Tryz.isAgg35,
 z23:=Tryz.sizeOf35,
 v23:=Tryz.zeroValue35,
 t25:=Tryz.underlying3,
 a25:=Tryz.isAgg3,
 z25:=Tryz.sizeOf3,
 v25:=Tryz.zeroValue3,
 t32:=Tryz.underlying194,
 a32:=Tryz.isAgg194,
 z32:=Tryz.sizeOf194,
 v32:=Tryz.zeroValue194,
 t35:=Tryz.underlying223,
 a35:=Tryz.isAgg223,
 z35:=Tryz.sizeOf223,
 v35:=Tryz.zeroValue223,
 t36:=Tryz.underlying224,
 a36:=Tryz.isAgg224,
 z36:=Tryz.sizeOf224,
 v36:=Tryz.zeroValue224,
 t41:=Tryz.underlying229,
 a41:=Tryz.isAgg229,
 z41:=Tryz.sizeOf229,
 v41:=Tryz.zeroValue229,
 t44:=Tryz.underlying24,
 a44:=Tryz.isAgg24,
 z44:=Tryz.sizeOf24,
 v44:=Tryz.zeroValue24,
 t46:=Tryz.underlying233,
 a46:=Tryz.isAgg233,
 z46:=Tryz.sizeOf233,
 v46:=Tryz.zeroValue233,
 t53:=Tryz.underlying245,
 a53:=Tryz.isAgg245,
 z53:=Tryz.sizeOf245,
 v53:=Tryz.zeroValue245,
 t57:=Tryz.underlying249,
 a57:=Tryz.isAgg249,
 z57:=Tryz.sizeOf249,
 v57:=Tryz.zeroValue249,
 t63:=Tryz.underlying260,
 a63:=Tryz.isAgg260,
 z63:=Tryz.sizeOf260,
 v63:=Tryz.zeroValue260,
 t64:=Tryz.underlying109,
 a64:=Tryz.isAgg109,
 z64:=Tryz.sizeOf109,
 v64:=Tryz.zeroValue109 }
end Go.Proofs
