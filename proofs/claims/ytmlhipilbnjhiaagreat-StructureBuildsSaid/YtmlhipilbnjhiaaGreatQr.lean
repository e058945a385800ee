/-
  Part 18 of the proof: how the calls of this program run, over values instead of memory, and what each function computes.
-/
import Derived.KernelRfl
import Derived.Test.YtmlhipilbnjhiaaGreatQq
set_option maxRecDepth 100000
set_option linter.unusedVariables false
set_option linter.unusedSimpArgs false
set_option linter.unnecessarySimpa false
set_option linter.unusedSectionVars false
open Go.DataW renaming trod->Xa,trod_struct->Xc
open Go.Ab.Ent renaming keep->Xb
open Go.Proofs.Tryz renaming prog->Z9
open List renaming getD_eq_getElem?_getD→Wa,drop_of_length_le→Wd,drop_eq_getElem_cons→We,getElem?_eq_getElem→Wg
open And renaming intro→Wc
open Nat renaming zero_le→Wf
open Array renaming getElem?_eq_none→Wh,getElem?_toList→Wi
namespace Go.Ab
open Go.RowKit Go.Proofs
def zab(op:Int):Int:=if op=2 then 2 else if op=1\/op=4\/op=7\/op=8 then 1 else if op=3\/op=5\/op=6\/op=9\/op=10 then 0 else -1
def zD(op var b next c d:Int)(k:Nat):Bool:=decide (((op=1\/op=3)\/var=0)/\(op=2\/b=0)/\((op=6\/op=7)\/next=0)/\(op=7\/c=0)/\(op=5\/d=0)/\(op=8\/k=0))
def zx(op var b next c d:Int)(k:Nat):Bool:=decide ((((op=1\/op=3)\/var=0)/\(op=2\/b=0)/\((op=6\/op=7)\/next=0)/\(op=7\/c=0)/\(op=5\/d=0)/\(op=8\/k=0))/\(0<=var/\var<65536)/\(op=2->b=1\/b=2\/b=4)/\(op=8->1<=k/\k<=64))
theorem uv:type_of% @z8.eq_1:=@z8.eq_1
theorem zqL(op):zn Z9 zeZ [.int .i64 op] (·=.int .i64 (zab op)):=by
 refine fn_x zqq rfl ?_;refine dcU zkf.eq_1 ?_;by_cases d:op=1
 .have b:zab op=1:=by unfold zab;subst d;rfl
  rw[b];refine Gw3 @dT @dF @uv ?_;intros;exact izO
 by_cases h:op=4
 .have b:zab op=1:=by unfold zab;subst h;rfl
  rw[b];refine Gw3 @dT @dF @uv ?_;intros;exact izO
 by_cases m:op=7
 .have b:zab op=1:=by unfold zab;subst m;rfl
  rw[b];refine Gw3 @dT @dF @uv ?_;intros;exact izO
 by_cases n:op=8
 .have b:zab op=1:=by unfold zab;subst n;rfl
  rw[b];refine Gw3 @dT @dF @uv ?_;intros;exact izO
 by_cases e:op=2
 .have b:zab op=2:=by unfold zab;subst e;rfl
  rw[b];refine Gw3 @dT @dF @uv ?_;intros;exact izO
 by_cases g:op=3
 .have b:zab op=0:=by unfold zab;subst g;rfl
  rw[b];refine Gw3 @dT @dF @uv ?_;intros;exact izO
 by_cases j:op=5
 .have b:zab op=0:=by unfold zab;subst j;rfl
  rw[b];refine Gw3 @dT @dF @uv ?_;intros;exact izO
 by_cases k:op=6
 .have b:zab op=0:=by unfold zab;subst k;rfl
  rw[b];refine Gw3 @dT @dF @uv ?_;intros;exact izO
 by_cases o:op=9
 .have b:zab op=0:=by unfold zab;subst o;rfl
  rw[b];refine Gw3 @dT @dF @uv ?_;intros;exact izO
 by_cases c:op=10
 .have b:zab op=0:=by unfold zab;subst c;rfl
  rw[b];refine Gw3 @dT @dF @uv ?_;intros;exact izO
 have b:zab op = -1:=by unfold zab;rw[if_neg (by omega),if_neg (by omega),if_neg (by omega)]
 rw[b];refine Gw3 @dT @dF @uv ?_;intros;exact izO
theorem zx0(op)(c:1<=op)(d:op<=10):zn Z9 zlC [.int .i64 op] (·=.int .i64 (zab op)):=by
 refine fn_x zyI rfl ?_;refine dcU zq9.eq_1 ?_;by_cases d:op=2
 .have b:zab op=2:=by unfold zab;subst d;rfl
  rw[b];refine Gw3 @dT @dF @zdQ.eq_1 ?_;intros;exact izO
 by_cases c:op=1
 .have b:zab op=1:=by unfold zab;subst c;rfl
  rw[b];refine Gw3 @dT @dF @zdQ.eq_1 ?_;intros;exact izO
 by_cases e:op=4
 .have b:zab op=1:=by unfold zab;subst e;rfl
  rw[b];refine Gw3 @dT @dF @zdQ.eq_1 ?_;intros;exact izO
 by_cases g:op=7
 .have b:zab op=1:=by unfold zab;subst g;rfl
  rw[b];refine Gw3 @dT @dF @zdQ.eq_1 ?_;intros;exact izO
 by_cases h:op=8
 .have b:zab op=1:=by unfold zab;subst h;rfl
  rw[b];refine Gw3 @dT @dF @zdQ.eq_1 ?_;intros;exact izO
 have b:zab op=0:=by unfold zab;rw[if_neg (by omega),if_neg (by omega),if_pos (by omega)]
 rw[b];refine Gw3 @dT @dF @zdQ.eq_1 ?_;intros;exact izO
theorem Qb{p q:Prop}(k:q)(h:Im q p:=by(repeat first|simp(disch:=try exact dis1) only[evD,Nat.reduceBEq,Nat.reduceAdd,Nat.reduceLeDiff,dT,dF,fldP,za,zk]|((with_reducible apply Im.i);intro _)|((with_reducible apply Im.a);omega));exact Im.r):p:=h k
theorem zxh(op var width next b c)(e)(d)(h:op=1):zn Z9 zaM [.agg [.int .i64 op,.int .i64 var,.int .i64 width,.int .i64 next,.int .i64 b,.int .u32 c,encL 5 encX e,za d]] (·=.bool (zD op var width next b c d.length)):=by
 refine fn_x zbt rfl ?_;refine dcU zaX.eq_1 ?_;have g:=hBig;refine Qb ?_;intros;by_cases j:width=0<;>(refine Qb ?_;intros)
 case neg=>exact bxO (by unfold zD;exact lb)
 by_cases k:next=0<;>(refine Qb ?_;intros)
 case neg=>exact bxO (by unfold zD;exact lb)
 by_cases m:b=0<;>(refine Qb ?_;intros)
 case neg=>exact bxO (by unfold zD;exact lb)
 by_cases n:c=0<;>(refine Qb ?_;intros)
 case neg=>exact bxO (by unfold zD;exact lb)
 exact bxO (by unfold zD;exact lb)
theorem zyr(op var width next b c)(e)(d)(h:op=2):zn Z9 zaM [.agg [.int .i64 op,.int .i64 var,.int .i64 width,.int .i64 next,.int .i64 b,.int .u32 c,encL 5 encX e,za d]] (·=.bool (zD op var width next b c d.length)):=by
 refine fn_x zbt rfl ?_;refine dcU zaX.eq_1 ?_;have g:=hBig;refine Qb ?_;intros;by_cases j:var=0<;>(refine Qb ?_;intros)
 case neg=>exact bxO (by unfold zD;exact lb)
 by_cases k:next=0<;>(refine Qb ?_;intros)
 case neg=>exact bxO (by unfold zD;exact lb)
 by_cases m:b=0<;>(refine Qb ?_;intros)
 case neg=>exact bxO (by unfold zD;exact lb)
 by_cases n:c=0<;>(refine Qb ?_;intros)
 case neg=>exact bxO (by unfold zD;exact lb)
 exact bxO (by unfold zD;exact lb)
theorem zw5(op var width next b c)(e)(d)(h:op=3):zn Z9 zaM [.agg [.int .i64 op,.int .i64 var,.int .i64 width,.int .i64 next,.int .i64 b,.int .u32 c,encL 5 encX e,za d]] (·=.bool (zD op var width next b c d.length)):=by
 refine fn_x zbt rfl ?_;refine dcU zaX.eq_1 ?_;have g:=hBig;refine Qb ?_;intros;by_cases j:width=0<;>(refine Qb ?_;intros)
 case neg=>exact bxO (by unfold zD;exact lb)
 by_cases k:next=0<;>(refine Qb ?_;intros)
 case neg=>exact bxO (by unfold zD;exact lb)
 by_cases m:b=0<;>(refine Qb ?_;intros)
 case neg=>exact bxO (by unfold zD;exact lb)
 by_cases n:c=0<;>(refine Qb ?_;intros)
 case neg=>exact bxO (by unfold zD;exact lb)
 exact bxO (by unfold zD;exact lb)
theorem zyG(op var width next b c)(e)(d)(h:op=4):zn Z9 zaM [.agg [.int .i64 op,.int .i64 var,.int .i64 width,.int .i64 next,.int .i64 b,.int .u32 c,encL 5 encX e,za d]] (·=.bool (zD op var width next b c d.length)):=by
 refine fn_x zbt rfl ?_;refine dcU zaX.eq_1 ?_;have g:=hBig;refine Qb ?_;intros;by_cases j:var=0<;>(refine Qb ?_;intros)
 case neg=>exact bxO (by unfold zD;exact lb)
 by_cases k:width=0<;>(refine Qb ?_;intros)
 case neg=>exact bxO (by unfold zD;exact lb)
 by_cases m:next=0<;>(refine Qb ?_;intros)
 case neg=>exact bxO (by unfold zD;exact lb)
 by_cases n:b=0<;>(refine Qb ?_;intros)
 case neg=>exact bxO (by unfold zD;exact lb)
 by_cases o:c=0<;>(refine Qb ?_;intros)
 case neg=>exact bxO (by unfold zD;exact lb)
 exact bxO (by unfold zD;exact lb)
theorem zxy(op var width next b c)(e)(d)(h:op=5):zn Z9 zaM [.agg [.int .i64 op,.int .i64 var,.int .i64 width,.int .i64 next,.int .i64 b,.int .u32 c,encL 5 encX e,za d]] (·=.bool (zD op var width next b c d.length)):=by
 refine fn_x zbt rfl ?_;refine dcU zaX.eq_1 ?_;have g:=hBig;refine Qb ?_;intros;by_cases j:var=0<;>(refine Qb ?_;intros)
 case neg=>exact bxO (by unfold zD;exact lb)
 by_cases k:width=0<;>(refine Qb ?_;intros)
 case neg=>exact bxO (by unfold zD;exact lb)
 by_cases m:next=0<;>(refine Qb ?_;intros)
 case neg=>exact bxO (by unfold zD;exact lb)
 by_cases n:b=0<;>(refine Qb ?_;intros)
 case neg=>exact bxO (by unfold zD;exact lb)
 exact bxO (by unfold zD;exact lb)
theorem zwU(op var width next b c)(e)(d)(h:op=6):zn Z9 zaM [.agg [.int .i64 op,.int .i64 var,.int .i64 width,.int .i64 next,.int .i64 b,.int .u32 c,encL 5 encX e,za d]] (·=.bool (zD op var width next b c d.length)):=by
 refine fn_x zbt rfl ?_;refine dcU zaX.eq_1 ?_;have g:=hBig;refine Qb ?_;intros;by_cases j:var=0<;>(refine Qb ?_;intros)
 case neg=>exact bxO (by unfold zD;exact lb)
 by_cases k:width=0<;>(refine Qb ?_;intros)
 case neg=>exact bxO (by unfold zD;exact lb)
 by_cases m:b=0<;>(refine Qb ?_;intros)
 case neg=>exact bxO (by unfold zD;exact lb)
 by_cases n:c=0<;>(refine Qb ?_;intros)
 case neg=>exact bxO (by unfold zD;exact lb)
 exact bxO (by unfold zD;exact lb)
theorem zxi(op var width next c b)(e)(d)(h:op=7):zn Z9 zaM [.agg [.int .i64 op,.int .i64 var,.int .i64 width,.int .i64 next,.int .i64 c,.int .u32 b,encL 5 encX e,za d]] (·=.bool (zD op var width next c b d.length)):=by
 refine fn_x zbt rfl ?_;refine dcU zaX.eq_1 ?_;have g:=hBig;refine Qb ?_;intros;by_cases j:var=0<;>(refine Qb ?_;intros)
 case neg=>exact bxO (by unfold zD;exact lb)
 by_cases k:width=0<;>(refine Qb ?_;intros)
 case neg=>exact bxO (by unfold zD;exact lb)
 by_cases m:b=0<;>(refine Qb ?_;intros)
 case neg=>exact bxO (by unfold zD;exact lb)
 exact bxO (by unfold zD;exact lb)
theorem zyi(op var width next b c)(e)(d)(h:op=8):zn Z9 zaM [.agg [.int .i64 op,.int .i64 var,.int .i64 width,.int .i64 next,.int .i64 b,.int .u32 c,encL 5 encX e,za d]] (·=.bool (zD op var width next b c d.length)):=by
 refine fn_x zbt rfl ?_;refine dcU zaX.eq_1 ?_;have g:=hBig;refine Qb ?_;intros;by_cases j:var=0<;>(refine Qb ?_;intros)
 case neg=>exact bxO (by unfold zD;exact lb)
 by_cases k:width=0<;>(refine Qb ?_;intros)
 case neg=>exact bxO (by unfold zD;exact lb)
 by_cases m:next=0<;>(refine Qb ?_;intros)
 case neg=>exact bxO (by unfold zD;exact lb)
 by_cases n:b=0<;>(refine Qb ?_;intros)
 case neg=>exact bxO (by unfold zD;exact lb)
 by_cases o:c=0<;>(refine Qb ?_;intros)
 case neg=>exact bxO (by unfold zD;exact lb)
 exact bxO (by unfold zD;exact lb)
theorem zw9(op var width next b c)(e)(d)(h:op=9):zn Z9 zaM [.agg [.int .i64 op,.int .i64 var,.int .i64 width,.int .i64 next,.int .i64 b,.int .u32 c,encL 5 encX e,za d]] (·=.bool (zD op var width next b c d.length)):=by
 refine fn_x zbt rfl ?_;refine dcU zaX.eq_1 ?_;have g:=hBig;refine Qb ?_;intros;by_cases j:var=0<;>(refine Qb ?_;intros)
 case neg=>exact bxO (by unfold zD;exact lb)
 by_cases k:width=0<;>(refine Qb ?_;intros)
 case neg=>exact bxO (by unfold zD;exact lb)
 by_cases m:next=0<;>(refine Qb ?_;intros)
 case neg=>exact bxO (by unfold zD;exact lb)
 by_cases n:b=0<;>(refine Qb ?_;intros)
 case neg=>exact bxO (by unfold zD;exact lb)
 by_cases o:c=0<;>(refine Qb ?_;intros)
 case neg=>exact bxO (by unfold zD;exact lb)
 exact bxO (by unfold zD;exact lb)
theorem zvv(op var width next b c)(e)(d)(h:op=10):zn Z9 zaM [.agg [.int .i64 op,.int .i64 var,.int .i64 width,.int .i64 next,.int .i64 b,.int .u32 c,encL 5 encX e,za d]] (·=.bool (zD op var width next b c d.length)):=by
 refine fn_x zbt rfl ?_;refine dcU zaX.eq_1 ?_;have g:=hBig;refine Qb ?_;intros;by_cases j:var=0<;>(refine Qb ?_;intros)
 case neg=>exact bxO (by unfold zD;exact lb)
 by_cases k:width=0<;>(refine Qb ?_;intros)
 case neg=>exact bxO (by unfold zD;exact lb)
 by_cases m:next=0<;>(refine Qb ?_;intros)
 case neg=>exact bxO (by unfold zD;exact lb)
 by_cases n:b=0<;>(refine Qb ?_;intros)
 case neg=>exact bxO (by unfold zD;exact lb)
 by_cases o:c=0<;>(refine Qb ?_;intros)
 case neg=>exact bxO (by unfold zD;exact lb)
 exact bxO (by unfold zD;exact lb)
theorem zwj(op var width next b c)(e)(d)(t:1<=op)(u:op<=10):zn Z9 zaM [.agg [.int .i64 op,.int .i64 var,.int .i64 width,.int .i64 next,.int .i64 b,.int .u32 c,encL 5 encX e,za d]] (·=.bool (zD op var width next b c d.length)):=by
 by_cases h:op=1
 .exact zxh op var width next b c e d h
 by_cases j:op=2
 .exact zyr op var width next b c e d j
 by_cases k:op=3
 .exact zw5 op var width next b c e d k
 by_cases m:op=4
 .exact zyG op var width next b c e d m
 by_cases n:op=5
 .exact zxy op var width next b c e d n
 by_cases o:op=6
 .exact zwU op var width next b c e d o
 by_cases p:op=7
 .exact zxi op var width next b c e d p
 by_cases q:op=8
 .exact zyi op var width next b c e d q
 by_cases s:op=9
 .exact zw9 op var width next b c e d s
 by_cases g:op=10
 .exact zvv op var width next b c e d g
 omega
theorem Qa{p q:Prop}(k:q)(h:Im q p:=by(repeat first|simp(disch:=try exact dis1) only[evD,Nat.reduceBEq,Nat.reduceAdd,Nat.reduceLeDiff,dT,dF,fldP,za,zh]|((with_reducible apply Im.i);intro _)|((with_reducible apply Im.a);omega));exact Im.r):p:=h k
theorem zzJ(op var width next b c)(e)(d)(h:op=1):zn Z9 za1 [.agg [.int .i64 op,.int .i64 var,.int .i64 width,.int .i64 next,.int .i64 b,.int .u32 c,encL 5 encX e,za d]] (·=.bool (zx op var width next b c d.length)):=by
 refine fn_x zb6 rfl ?_;refine dcU zbx.eq_1 ?_;have g:=hBig;refine Qa ?_;intros;refine ze (zc (zj1 var) rfl) ?_;unfold zvL;by_cases j:0<=var/\var<65536<;>(refine Qa ?_;intros)
 case neg=>exact bxO (by unfold zx;exact lb)
 by_cases k:width=0<;>(refine Qa ?_;intros)
 case neg=>exact bxO (by unfold zx;exact lb)
 by_cases m:c=0<;>(refine Qa ?_;intros)
 case neg=>exact bxO (by unfold zx;exact lb)
 by_cases n:next=0<;>(refine Qa ?_;intros)
 case neg=>exact bxO (by unfold zx;exact lb)
 by_cases o:b=0<;>(refine Qa ?_;intros)
 case neg=>exact bxO (by unfold zx;exact lb)
 exact bxO (by unfold zx;exact lb)
theorem zy2(op var width next b c)(e)(d)(h:op=2):zn Z9 za1 [.agg [.int .i64 op,.int .i64 var,.int .i64 width,.int .i64 next,.int .i64 b,.int .u32 c,encL 5 encX e,za d]] (·=.bool (zx op var width next b c d.length)):=by
 refine fn_x zb6 rfl ?_;refine dcU zbx.eq_1 ?_;have g:=hBig;refine Qa ?_;intros;refine ze (zc (zrp width) rfl) ?_;unfold zwe;by_cases j:width=1\/width=2\/width=4<;>(refine Qa ?_;intros)
 case neg=>exact bxO (by unfold zx;exact lb)
 by_cases k:var=0<;>(refine Qa ?_;intros)
 case neg=>exact bxO (by unfold zx;exact lb)
 by_cases m:c=0<;>(refine Qa ?_;intros)
 case neg=>exact bxO (by unfold zx;exact lb)
 by_cases n:next=0<;>(refine Qa ?_;intros)
 case neg=>exact bxO (by unfold zx;exact lb)
 by_cases o:b=0<;>(refine Qa ?_;intros)
 case neg=>exact bxO (by unfold zx;exact lb)
 exact bxO (by unfold zx;exact lb)
theorem zAs(op var width next b c)(e)(d)(h:op=3):zn Z9 za1 [.agg [.int .i64 op,.int .i64 var,.int .i64 width,.int .i64 next,.int .i64 b,.int .u32 c,encL 5 encX e,za d]] (·=.bool (zx op var width next b c d.length)):=by
 refine fn_x zb6 rfl ?_;refine dcU zbx.eq_1 ?_;have g:=hBig;refine Qa ?_;intros;refine ze (zc (zj1 var) rfl) ?_;unfold zvL;by_cases j:0<=var/\var<65536<;>(refine Qa ?_;intros)
 case neg=>exact bxO (by unfold zx;exact lb)
 by_cases k:width=0<;>(refine Qa ?_;intros)
 case neg=>exact bxO (by unfold zx;exact lb)
 by_cases m:c=0<;>(refine Qa ?_;intros)
 case neg=>exact bxO (by unfold zx;exact lb)
 by_cases n:next=0<;>(refine Qa ?_;intros)
 case neg=>exact bxO (by unfold zx;exact lb)
 by_cases o:b=0<;>(refine Qa ?_;intros)
 case neg=>exact bxO (by unfold zx;exact lb)
 exact bxO (by unfold zx;exact lb)
theorem zzg(op var width next b c)(e)(d)(h:op=4):zn Z9 za1 [.agg [.int .i64 op,.int .i64 var,.int .i64 width,.int .i64 next,.int .i64 b,.int .u32 c,encL 5 encX e,za d]] (·=.bool (zx op var width next b c d.length)):=by
 refine fn_x zb6 rfl ?_;refine dcU zbx.eq_1 ?_;have g:=hBig;refine Qa ?_;intros;by_cases j:var=0<;>(refine Qa ?_;intros)
 case neg=>exact bxO (by unfold zx;exact lb)
 by_cases k:width=0<;>(refine Qa ?_;intros)
 case neg=>exact bxO (by unfold zx;exact lb)
 by_cases m:c=0<;>(refine Qa ?_;intros)
 case neg=>exact bxO (by unfold zx;exact lb)
 by_cases n:next=0<;>(refine Qa ?_;intros)
 case neg=>exact bxO (by unfold zx;exact lb)
 by_cases o:b=0<;>(refine Qa ?_;intros)
 case neg=>exact bxO (by unfold zx;exact lb)
 exact bxO (by unfold zx;exact lb)
theorem zyX(op var width next b c)(e)(d)(h:op=5):zn Z9 za1 [.agg [.int .i64 op,.int .i64 var,.int .i64 width,.int .i64 next,.int .i64 b,.int .u32 c,encL 5 encX e,za d]] (·=.bool (zx op var width next b c d.length)):=by
 refine fn_x zb6 rfl ?_;refine dcU zbx.eq_1 ?_;have g:=hBig;refine Qa ?_;intros;by_cases j:var=0<;>(refine Qa ?_;intros)
 case neg=>exact bxO (by unfold zx;exact lb)
 by_cases k:width=0<;>(refine Qa ?_;intros)
 case neg=>exact bxO (by unfold zx;exact lb)
 by_cases m:next=0<;>(refine Qa ?_;intros)
 case neg=>exact bxO (by unfold zx;exact lb)
 by_cases n:b=0<;>(refine Qa ?_;intros)
 case neg=>exact bxO (by unfold zx;exact lb)
 exact bxO (by unfold zx;exact lb)
theorem zAD(op var width next b c)(e)(d)(h:op=6):zn Z9 za1 [.agg [.int .i64 op,.int .i64 var,.int .i64 width,.int .i64 next,.int .i64 b,.int .u32 c,encL 5 encX e,za d]] (·=.bool (zx op var width next b c d.length)):=by
 refine fn_x zb6 rfl ?_;refine dcU zbx.eq_1 ?_;have g:=hBig;refine Qa ?_;intros;by_cases j:var=0<;>(refine Qa ?_;intros)
 case neg=>exact bxO (by unfold zx;exact lb)
 by_cases k:width=0<;>(refine Qa ?_;intros)
 case neg=>exact bxO (by unfold zx;exact lb)
 by_cases m:c=0<;>(refine Qa ?_;intros)
 case neg=>exact bxO (by unfold zx;exact lb)
 by_cases n:b=0<;>(refine Qa ?_;intros)
 case neg=>exact bxO (by unfold zx;exact lb)
 exact bxO (by unfold zx;exact lb)
theorem zAc(op var width next c b)(e)(d)(h:op=7):zn Z9 za1 [.agg [.int .i64 op,.int .i64 var,.int .i64 width,.int .i64 next,.int .i64 c,.int .u32 b,encL 5 encX e,za d]] (·=.bool (zx op var width next c b d.length)):=by
 refine fn_x zb6 rfl ?_;refine dcU zbx.eq_1 ?_;have g:=hBig;by_cases j:var=0
 case neg=>
  ((refine Qa ?_;intros);(repeat' with_reducible apply Wc)<;>(refine Qa ?_;intros);all_goals(exact bxO (by unfold zx;exact lb)))
 by_cases k:width=0
 case neg=>
  ((refine Qa ?_;intros);(repeat' with_reducible apply Wc)<;>(refine Qa ?_;intros);all_goals(exact bxO (by unfold zx;exact lb)))
 by_cases m:b=0
 case neg=>
  ((refine Qa ?_;intros);(repeat' with_reducible apply Wc)<;>(refine Qa ?_;intros);all_goals(exact bxO (by unfold zx;exact lb)))
 by_cases n:d.length=0
 case neg=>
  ((refine Qa ?_;intros);(repeat' with_reducible apply Wc)<;>(refine Qa ?_;intros);all_goals(exact bxO (by unfold zx;exact lb)))
 ((refine Qa ?_;intros);(repeat' with_reducible apply Wc)<;>(refine Qa ?_;intros);all_goals(exact bxO (by unfold zx;exact lb)))
theorem zzA(op var width next b c)(e)(d)(h:op=8):zn Z9 za1 [.agg [.int .i64 op,.int .i64 var,.int .i64 width,.int .i64 next,.int .i64 b,.int .u32 c,encL 5 encX e,za d]] (·=.bool (zx op var width next b c d.length)):=by
 refine fn_x zb6 rfl ?_;refine dcU zbx.eq_1 ?_;have k:=hBig;refine Qa ?_;intros;by_cases g:1<=d.length<;>(refine Qa ?_;intros)
 case neg=>exact bxO (by unfold zx;exact lb)
 by_cases j:d.length<=64<;>(refine Qa ?_;intros)
 case neg=>exact bxO (by unfold zx;exact lb)
 by_cases m:var=0<;>(refine Qa ?_;intros)
 case neg=>exact bxO (by unfold zx;exact lb)
 by_cases n:width=0<;>(refine Qa ?_;intros)
 case neg=>exact bxO (by unfold zx;exact lb)
 by_cases o:c=0<;>(refine Qa ?_;intros)
 case neg=>exact bxO (by unfold zx;exact lb)
 by_cases p:next=0<;>(refine Qa ?_;intros)
 case neg=>exact bxO (by unfold zx;exact lb)
 by_cases q:b=0<;>(refine Qa ?_;intros)
 case neg=>exact bxO (by unfold zx;exact lb)
 exact bxO (by unfold zx;exact lb)
theorem zz8(op var width next b c)(e)(d)(h:op=9):zn Z9 za1 [.agg [.int .i64 op,.int .i64 var,.int .i64 width,.int .i64 next,.int .i64 b,.int .u32 c,encL 5 encX e,za d]] (·=.bool (zx op var width next b c d.length)):=by
 refine fn_x zb6 rfl ?_;refine dcU zbx.eq_1 ?_;have g:=hBig;refine Qa ?_;intros;by_cases j:var=0<;>(refine Qa ?_;intros)
 case neg=>exact bxO (by unfold zx;exact lb)
 by_cases k:width=0<;>(refine Qa ?_;intros)
 case neg=>exact bxO (by unfold zx;exact lb)
 by_cases m:c=0<;>(refine Qa ?_;intros)
 case neg=>exact bxO (by unfold zx;exact lb)
 by_cases n:next=0<;>(refine Qa ?_;intros)
 case neg=>exact bxO (by unfold zx;exact lb)
 by_cases o:b=0<;>(refine Qa ?_;intros)
 case neg=>exact bxO (by unfold zx;exact lb)
 exact bxO (by unfold zx;exact lb)
theorem zyO(op var width next b c)(e)(d)(h:op=10):zn Z9 za1 [.agg [.int .i64 op,.int .i64 var,.int .i64 width,.int .i64 next,.int .i64 b,.int .u32 c,encL 5 encX e,za d]] (·=.bool (zx op var width next b c d.length)):=by
 refine fn_x zb6 rfl ?_;refine dcU zbx.eq_1 ?_;have g:=hBig;refine Qa ?_;intros;by_cases j:var=0<;>(refine Qa ?_;intros)
 case neg=>exact bxO (by unfold zx;exact lb)
 by_cases k:width=0<;>(refine Qa ?_;intros)
 case neg=>exact bxO (by unfold zx;exact lb)
 by_cases m:c=0<;>(refine Qa ?_;intros)
 case neg=>exact bxO (by unfold zx;exact lb)
 by_cases n:next=0<;>(refine Qa ?_;intros)
 case neg=>exact bxO (by unfold zx;exact lb)
 by_cases o:b=0<;>(refine Qa ?_;intros)
 case neg=>exact bxO (by unfold zx;exact lb)
 exact bxO (by unfold zx;exact lb)
theorem zxX(op var width next b c)(e)(d)(t:1<=op)(u:op<=10):zn Z9 za1 [.agg [.int .i64 op,.int .i64 var,.int .i64 width,.int .i64 next,.int .i64 b,.int .u32 c,encL 5 encX e,za d]] (·=.bool (zx op var width next b c d.length)):=by
 by_cases h:op=1
 .exact zzJ op var width next b c e d h
 by_cases j:op=2
 .exact zy2 op var width next b c e d j
 by_cases k:op=3
 .exact zAs op var width next b c e d k
 by_cases m:op=4
 .exact zzg op var width next b c e d m
 by_cases n:op=5
 .exact zyX op var width next b c e d n
 by_cases o:op=6
 .exact zAD op var width next b c e d o
 by_cases p:op=7
 .exact zAc op var width next b c e d p
 by_cases q:op=8
 .exact zzA op var width next b c e d q
 by_cases s:op=9
 .exact zz8 op var width next b c e d s
 by_cases g:op=10
 .exact zyO op var width next b c e d g
 omega
def zlU:List Ex->Int
 |[]=>0
 |x::l=>if znQ x≠0 then znQ x else zlU l
theorem ztr{l:List Ex}{i:Nat}(h:i<l.length):zlU (l.drop i)=if znQ l[i]≠0 then znQ l[i]else zlU (l.drop (i+1)):=by rw[We h,zlU]
def zvk(op var b next c d:Int)(e:List Ex)(g:List Int):Int :=
 if (op<1\/10<op)\/zab op≠e.length then 2 else if zlU e≠0 then zlU e else if zx op var b next c d g.length=true then 0 else 2
theorem Qg{p q:Prop}(k:q)(h:Im q p:=by(repeat first|simp(disch:=try exact dis1) only[evD,Nat.reduceBEq,Nat.reduceAdd,Nat.reduceLeDiff,dT,dF,fldP,za,zA]|((with_reducible apply Im.i);intro _)|((with_reducible apply Im.a);omega));exact Im.r):p:=h k
theorem Qk{p q:Prop}(k:q)(h:Im q p:=by(repeat first|simp(disch:=try exact dis1) only[evD,Nat.reduceBEq,Nat.reduceAdd,Nat.reduceLeDiff,fldP,zKs,tab,List.getD_cons_zero,List.getD_cons_succ,za]|((with_reducible apply Im.i);intro _)|((with_reducible apply Im.a);omega));exact Im.r):p:=h k
theorem ud:type_of% @za.eq_1:=@za.eq_1
theorem zr7(op var width next d g)(e)(j):zn Z9 zdU [.agg [.int .i64 op,.int .i64 var,.int .i64 width,.int .i64 next,.int .i64 d,.int .u32 g,encL 5 encX e,za j]] (·=.int .i64 (zvk op var width next d g e j)):=by
 refine fn_x zr0 rfl ?_;unfold zl2 zvk;(conv in Z8 _ _=>reduce);have y:=hBig;by_cases o:1<=op;case neg=>rw[if_pos (by omega)];refine Qg ?_;intros;exact izO
 by_cases p:op<=10;case neg=>rw[if_pos (by omega)];refine Qg ?_;intros;exact izO
 refine Gw3 @dF @uf @ud ?_;intros;refine zC (zc (zx0 op o p) rfl) ?_;generalize zab op=n;by_cases x:n=e.length;case neg=>rw[if_pos (by omega)];refine Qg ?_;intros;exact izO
 rw[if_neg (by omega)];refine Gw4 @dT @dF @uf @ud ?_;intros;refine zd (λi:Nat=>([(1,encP 8 [.int .i64 op,.int .i64 var,.int .i64 width,.int .i64 next,.int .i64 d,.int .u32 g,encL 5 encX e,za j]),(3,.int .i64 i)],[])) 0 (λi=>i<=e.length/\zlU (e.drop i)=zlU e) (λi=>e.length-i) 0 ⟨Wf _,rfl⟩ (Xb rfl fin5) ?_;rintro i ⟨z,b⟩ wf;refine dcU ziH.eq_1 ?_;by_cases q:i<e.length
 .rw[ztr q]at b;refine Gw5 @uf @dT (gmp q) @zbI @zaY ?_;intros;refine ze (zc (zrJ e[i]) (flX rfl)) ?_;by_cases s:znQ e[i]=0
  .rw[if_neg (by omega)]at b;refine Gw1 @dF ?_;intros;exact⟨i+1,⟨by omega,b⟩,by omega,Xb rfl fin5⟩
  .rw[if_pos s]at b;rw[<-b,if_pos s];refine Gw2 @dT @zA.eq_1 ?_;intros;exact izO
 rw[Wd (by omega),zlU]at b;rw[<-b,if_neg (by omega)];refine Qf ?_;intros;refine dcU ziT.eq_1 ?_;refine Qk ?_;intros;refine ze (zc (zwj op var width next d g e j o p) rfl) ?_
 cases m:zD op var width next d g j.length with
 |false=>unfold zD at m;have c:=of_decide_eq_false m;rw[if_neg (by unfold zx;rw[dF (λh=>c h.1)];simp)];refine Qg ?_;intros;exact izO
 |true=>
  unfold zD at m;have c:=of_decide_eq_true m;refine Qg ?_;intros;refine ze (zc (zrx var) rfl) ?_;unfold zvL;by_cases k:0<=var/\var<65536;case neg=>rw[if_neg (by unfold zx;rw[dF (λh=>k h.2.1)];simp)];refine Qg ?_;intros;exact izO
  refine Qg ?_;intros;by_cases u:op=2
  ·(refine Qg ?_;intros);by_cases A:width=1
   .rw[if_pos (by unfold zx;exact dT ⟨c,k,by omega,by omega⟩)];refine Qg ?_;intros;exact izO
   refine Qg ?_;intros;by_cases B:width=2
   .rw[if_pos (by unfold zx;exact dT ⟨c,k,by omega,by omega⟩)];refine Qg ?_;intros;exact izO
   refine Qg ?_;intros;by_cases C:width=4
   .rw[if_pos (by unfold zx;exact dT ⟨c,k,by omega,by omega⟩)];refine Qg ?_;intros;exact izO
   rw[if_neg (by unfold zx;rw[dF (λh=>by have:=h.2.2.1 u;omega)];simp)];refine Qg ?_;intros;exact izO
  refine Qg ?_;intros;by_cases t:op=8
  ·(refine Qg ?_;intros);by_cases v:1<=j.length;case neg=>rw[if_neg (by unfold zx;rw[dF (λh=>by have:=h.2.2.2 t;omega)];simp)];refine Qg ?_;intros;exact izO
   refine Qg ?_;intros;by_cases w:j.length<=64;case neg=>rw[if_neg (by unfold zx;rw[dF (λh=>by have:=h.2.2.2 t;omega)];simp)];refine Qg ?_;intros;exact izO
   rw[if_pos (by unfold zx;exact dT ⟨c,k,by omega,by omega⟩)];refine Qg ?_;intros;exact izO
  rw[if_pos (by unfold zx;exact dT ⟨c,k,by omega,by omega⟩)];refine Qg ?_;intros;exact izO
theorem zzt{op}:zab op<0↔(op<1\/10<op):=by
 unfold zab;constructor
 .intro h
  repeat' split at h
  all_goals omega
 .intro h;rw[if_neg (by omega),if_neg (by omega),if_neg (by omega)];omega
theorem zsB(op var b next d j)(e)(k):zn Z9 zeN [.agg [.int .i64 op,.int .i64 var,.int .i64 b,.int .i64 next,.int .i64 d,.int .u32 j,encL 5 encX e,za k]] (·=.int .i64 (zvk op var b next d j e k)):=by
 refine fn_x zsn rfl ?_;unfold zm4 zvk;(conv in Z8 _ _=>reduce);have t:=hBig;refine Gw5 @dT @dF @uf @ud @za4.eq_1 ?_;intros;refine ze (zc (zqL op) rfl) ?_;have g:=zzt (op:=op);generalize zab op=n at g⊢;by_cases m:n<0
 .rw[if_pos (.inl (g.1 m))];refine Gw5 @dT @dF @uf @ud @za4.eq_1 ?_;intros;exact izO
 have s:¬(op<1\/10<op):=λh=>m (g.2 h)
 refine Gw5 @dT @dF @uf @ud @za4.eq_1 ?_;intros;by_cases q:n=e.length;case neg=>rw[if_pos (.inr q)];refine Gw5 @dT @dF @uf @ud @za4.eq_1 ?_;intros;exact izO
 rw[if_neg (by omega)];refine Gw5 @dT @dF @uf @ud @za4.eq_1 ?_;intros;refine zd (λi:Nat=>([(1,encP 8 [.int .i64 op,.int .i64 var,.int .i64 b,.int .i64 next,.int .i64 d,.int .u32 j,encL 5 encX e,za k]),(20,encL 5 encX e),(21,.int .i64 e.length),(22,.int .i64 i)],[])) 0 (λi=>i<=e.length/\zlU (e.drop i)=zlU e) (λi=>e.length-i) 0 ⟨Wf _,rfl⟩ (Xb rfl fin5) ?_;rintro i ⟨u,c⟩ wf;refine dcU zjB.eq_1 ?_;by_cases o:i<e.length
 .rw[ztr o]at c;refine Gw5 @uf @dT (gmp o) @zbI @zaY ?_;intros;refine ze (zc (ztp e[i]) (flX rfl)) ?_;by_cases p:znQ e[i]=0
  .rw[if_neg (by omega)]at c;refine Gw1 @dF ?_;intros;exact⟨i+1,⟨by omega,c⟩,by omega,(Ent.tab [] [] rfl Ql Ql)⟩
  .rw[if_pos p]at c;rw[<-c,if_pos p];refine Gw2 @dT @za4.eq_1 ?_;intros;exact izO
 rw[Wd (by omega),zlU]at c;rw[<-c,if_neg (by omega)];refine Qf ?_;intros;refine dcU zjx.eq_1 ?_;refine Qk ?_;intros;refine ze (zc (zxX op var b next d j e k (by omega) (by omega)) rfl) ?_
 cases zx op var b next d j k.length with
 |false=>refine Gw5 @dT @dF @uf @ud @za4.eq_1 ?_;intros;exact izO
 |true=>refine Gw5 @dT @dF @uf @ud @za4.eq_1 ?_;intros;exact izO
structure St where
 op:Int
 var:Int
 width:Int
 next:Int
 els:Int
 tgt:Int
 e:List Ex
 cases:List Int
def St.cells(s:St):List AV:=[.int .i64 s.op,.int .i64 s.var,.int .i64 s.width,.int .i64 s.next,.int .i64 s.els,.int .u32 s.tgt,encL 5 encX s.e,za s.cases]
structure Bl where
 addr:Int
 stmts:List St
def Bl.cells(b:Bl):List AV:=[.int .u32 b.addr,encL 8 St.cells b.stmts]
structure G where
 addr:Int
 blocks:List Bl
def G.cells(g:G):List AV:=[.int .u32 g.addr,encL 2 Bl.cells g.blocks]
theorem St.len(s:St):s.cells.length=8:=rfl
theorem St.flat(s:St):zz s.cells=true:=rfl
theorem St.eight(s:St):[s.cells.getD 0 .undef,s.cells.getD 1 .undef,s.cells.getD 2 .undef,s.cells.getD 3 .undef,s.cells.getD 4 .undef,s.cells.getD 5 .undef,s.cells.getD 6 .undef,s.cells.getD 7 .undef]=s.cells:=rfl
theorem Bl.len(b:Bl):b.cells.length=2:=rfl
theorem Bl.two(b:Bl):[b.cells.getD 0 .undef,b.cells.getD 1 .undef]=b.cells:=rfl
theorem G.two(g:G):[g.cells.getD 0 .undef,g.cells.getD 1 .undef]=g.cells:=rfl
def zph(s:St):Bool:=decide (6<=s.op/\s.op<=10)
def ze2(s:St):List Int:=if s.op=6 then[s.next]else if s.op=7 then[s.next,s.els]else if s.op=8 then s.cases else[]
def St.check(s:St):Int:=zvk s.op s.var s.width s.next s.els s.tgt s.e s.cases
theorem zr3(s:St):zn Z9 zdU [.agg s.cells] (·=.int .i64 s.check):=zr7 _ _ _ _ _ _ _ _
theorem zsJ(s:St):zn Z9 zeN [.agg s.cells] (·=.int .i64 s.check):=zsB _ _ _ _ _ _ _ _
theorem uq:type_of% @St.cells.eq_1:=@St.cells.eq_1
theorem zzW(s):zn Z9 znn [.agg s.cells] (·=.bool (zph s)):=by
 refine fn_x zzm rfl ?_;refine dcU ztN.eq_1 ?_;have j:=hBig;obtain⟨op,var,b,next,c,d,e,g⟩:=s;unfold zph;by_cases h:6<=op
 ·(refine Gw5 @dT @uf @ud @uq @zox.eq_1 ?_;intros);exact bxO (decide_eq_decide.2 (by omega))
 ·(refine Gw5 @dF @uf @ud @uq @zox.eq_1 ?_;intros);exact bzO
theorem zlH(s):zn Z9 zc2 [.agg s.cells] (·=.bool (zph s)):=by
 refine fn_x zrS rfl ?_;refine dcU zlE.eq_1 ?_;have j:=hBig;obtain⟨op,var,b,next,c,d,e,g⟩:=s;unfold zph;by_cases h:6<=op
 ·(refine Gw5 @dT @uf @ud @uq @zhv.eq_1 ?_;intros);exact bxO (decide_eq_decide.2 (by omega))
 ·(refine Gw5 @dF @uf @ud @uq @zhv.eq_1 ?_;intros);exact bzO
theorem zuf(s):zn Z9 zib [.agg s.cells] (·=za (ze2 s)):=by
 refine fn_x zuk rfl ?_;refine dcU zn3.eq_1 ?_;have m:=hBig;obtain⟨op,var,c,next,b,j,e,k⟩:=s;unfold ze2;simp only;by_cases d:op=6
 .rw[if_pos d];refine Gw6 @dT @dF @uf @ud @uq @zeX.eq_1 ?_;intros;exact⟨_,zbz (l:=[next]) trivial rfl (by simp only[List.length_singleton];omega),rfl⟩
 rw[if_neg d];by_cases g:op=7
 .rw[if_pos g];refine Gw6 @dT @dF @uf @ud @uq @zeX.eq_1 ?_;intros;exact⟨_,zbz (l:=[next,b]) trivial rfl (by simp only[List.length_cons,List.length_nil];omega),rfl⟩
 rw[if_neg g];by_cases h:op=8
 .rw[if_pos h];refine Gw6 @dT @dF @uf @ud @uq @zeX.eq_1 ?_;intros;exact⟨_,zV rfl,rfl⟩
 rw[if_neg h];refine Gw6 @dT @dF @uf @ud @uq @zeX.eq_1 ?_;intros;exact⟨_,zbz (l:=[]) trivial rfl (by simp only[List.length_nil];omega),rfl⟩
end Go.Ab
namespace Go.Ab
open Go.RowKit Go.Proofs Go.Proofs.YtmlhipilbnjhiaaGreat
section
variable {HH:Type}{enc:TypeId×Value->HH}{w:World}{base:Nat}{spare:Nat->Bool}{held:Bool}{L:Nat->Prop} (hL:∀b,¬L b)
include hL
theorem zIZ{p:Nat}{o:List Value}{y:DataW HH×List MemPlace}(h:Xa enc Z9 w base spare held p 54 o=some y):∃s:St,ElOk w L o s.cells:=by
 have C:Tryz.prog.cellsOf 60=5:=by kernel_rfl
 obtain⟨d,n,rfl,rfl,m,D,k⟩:=Xc Tryz.underlying54 h;have P:Tryz.prog.cellsOf 54=8:=by kernel_rfl
 have e:Tryz.prog.cellsOf 3=1:=by kernel_rfl
 have q:Tryz.prog.cellsOf 22=1:=by kernel_rfl
 have t:Tryz.prog.cellsOf 28=1:=by kernel_rfl
 have u:Tryz.prog.cellsOf 36=1:=by kernel_rfl
 rw[P]at m;have c:∀i,i<8->d[i]?=some (d.getD i (.nil,[])):=λi R=>by rw[Wa,Wg (by rw[D];exact R)];rfl
 match o,m with
 |[c0,c1,c2,c3,c4,c5,c6,c7],_=>
  have v:Xa enc Z9 w base spare held n 3 (([c0,c1,c2,c3,c4,c5,c6,c7].drop 0).take (Tryz.prog.cellsOf 3))=some (d.getD 0 (.nil,[])):=(k 0 _ rfl).trans (c 0 (by decide));rw[e]at v;replace v:Xa enc Z9 w base spare held n 3 [c0]=some (d.getD 0 (.nil,[])):=v;have x:Xa enc Z9 w base spare held n 3 (([c0,c1,c2,c3,c4,c5,c6,c7].drop 1).take (Tryz.prog.cellsOf 3))=some (d.getD 1 (.nil,[])):=(k 1 _ rfl).trans (c 1 (by decide));rw[e]at x;replace x:Xa enc Z9 w base spare held n 3 [c1]=some (d.getD 1 (.nil,[])):=x;have z:Xa enc Z9 w base spare held n 3 (([c0,c1,c2,c3,c4,c5,c6,c7].drop 2).take (Tryz.prog.cellsOf 3))=some (d.getD 2 (.nil,[])):=(k 2 _ rfl).trans (c 2 (by decide));rw[e]at z;replace z:Xa enc Z9 w base spare held n 3 [c2]=some (d.getD 2 (.nil,[])):=z;have A:Xa enc Z9 w base spare held n 3 (([c0,c1,c2,c3,c4,c5,c6,c7].drop 3).take (Tryz.prog.cellsOf 3))=some (d.getD 3 (.nil,[])):=(k 3 _ rfl).trans (c 3 (by decide));rw[e]at A;replace A:Xa enc Z9 w base spare held n 3 [c3]=some (d.getD 3 (.nil,[])):=A;have B:Xa enc Z9 w base spare held n 3 (([c0,c1,c2,c3,c4,c5,c6,c7].drop 4).take (Tryz.prog.cellsOf 3))=some (d.getD 4 (.nil,[])):=(k 4 _ rfl).trans (c 4 (by decide));rw[e]at B;replace B:Xa enc Z9 w base spare held n 3 [c4]=some (d.getD 4 (.nil,[])):=B;have f5:Xa enc Z9 w base spare held n 22 (([c0,c1,c2,c3,c4,c5,c6,c7].drop 5).take (Tryz.prog.cellsOf 22))=some (d.getD 5 (.nil,[])):=(k 5 _ rfl).trans (c 5 (by decide));rw[q]at f5;replace f5:Xa enc Z9 w base spare held n 22 [c5]=some (d.getD 5 (.nil,[])):=f5;have f6:Xa enc Z9 w base spare held n 28 (([c0,c1,c2,c3,c4,c5,c6,c7].drop 6).take (Tryz.prog.cellsOf 28))=some (d.getD 6 (.nil,[])):=(k 6 _ rfl).trans (c 6 (by decide));rw[t]at f6;replace f6:Xa enc Z9 w base spare held n 28 [c6]=some (d.getD 6 (.nil,[])):=f6;have f7:Xa enc Z9 w base spare held n 36 (([c0,c1,c2,c3,c4,c5,c6,c7].drop 7).take (Tryz.prog.cellsOf 36))=some (d.getD 7 (.nil,[])):=(k 7 _ rfl).trans (c 7 (by decide));rw[u]at f7;replace f7:Xa enc Z9 w base spare held n 36 [c7]=some (d.getD 7 (.nil,[])):=f7;obtain⟨V,F,w0⟩:=zky Tryz.underlying3 v;obtain⟨W,H,w1⟩:=zky Tryz.underlying3 x;obtain⟨X,I,w2⟩:=zky Tryz.underlying3 z;obtain⟨Y,J,w3⟩:=zky Tryz.underlying3 A;obtain⟨Z,K,w4⟩:=zky Tryz.underlying3 B;obtain⟨n5,M,w5⟩:=zky Tryz.underlying22 f5;obtain⟨T,v6,N,o6,w6⟩:=zxb (L:=L) (α:=Ex) (cells:=encX) hL Tryz.underlying28 C (λg Q o y h _=>zJD hL g g (Nat.le_refl _) o y h) f6;obtain⟨U,v7,O,o7,w7⟩:=zKW Tryz.underlying36 Tryz.underlying3 e hL f7;cases F;cases H;cases I;cases J;cases K;cases M;cases N;cases O;refine⟨⟨V,W,X,Y,Z,n5,T,U⟩,λj S=>?_⟩
  match j with
  |0=>exact⟨.int _ _ _ w0,rfl⟩
  |1=>exact⟨.int _ _ _ w1,rfl⟩
  |2=>exact⟨.int _ _ _ w2,rfl⟩
  |3=>exact⟨.int _ _ _ w3,rfl⟩
  |4=>exact⟨.int _ _ _ w4,rfl⟩
  |5=>exact⟨.int _ _ _ w5,rfl⟩
  |6=>exact⟨w6 _,o6⟩
  |7=>exact⟨w7 _,o7⟩
  |j+8=>exact absurd S (by simp)
theorem zHO{g:Nat}{q:List Value}{y:DataW HH×List MemPlace}(h:Xa enc Z9 w base spare held g 57 q=some y):∃b:Bl,ElOk w L q b.cells:=by
 have s:Tryz.prog.cellsOf 54=8:=by kernel_rfl
 obtain⟨e,n,rfl,rfl,d,t,u⟩:=Xc Tryz.underlying57 h;have z:Tryz.prog.cellsOf 57=2:=by kernel_rfl
 have k:Tryz.prog.cellsOf 22=1:=by kernel_rfl
 have m:Tryz.prog.cellsOf 55=1:=by kernel_rfl
 rw[z]at d;have c:∀i,i<2->e[i]?=some (e.getD i (.nil,[])):=λi A=>by rw[Wa,Wg (by rw[t];exact A)];rfl
 match q,d with
 |[c0,c1],_=>
  have o:Xa enc Z9 w base spare held n 22 (([c0,c1].drop 0).take (Tryz.prog.cellsOf 22))=some (e.getD 0 (.nil,[])):=(u 0 _ rfl).trans (c 0 (by decide));rw[k]at o;replace o:Xa enc Z9 w base spare held n 22 [c0]=some (e.getD 0 (.nil,[])):=o;have p:Xa enc Z9 w base spare held n 55 (([c0,c1].drop 1).take (Tryz.prog.cellsOf 55))=some (e.getD 1 (.nil,[])):=(u 1 _ rfl).trans (c 1 (by decide));rw[m]at p;replace p:Xa enc Z9 w base spare held n 55 [c1]=some (e.getD 1 (.nil,[])):=p;obtain⟨D,v,H⟩:=zky Tryz.underlying22 o;obtain⟨C,v1,x,F,I⟩:=zvA (α:=St) (cells:=St.cells) (L:=L) Tryz.underlying55 s hL (λ_ _ _ h _=>zIZ hL h) p;cases v;cases x;refine⟨⟨D,C⟩,λj B=>?_⟩
  match j with
  |0=>exact⟨.int _ _ _ H,rfl⟩
  |1=>exact⟨I _,F⟩
  |j+2=>exact absurd B (by simp)
theorem zHI{m:Nat}{k:List Value}{y:DataW HH×List MemPlace}(h:Xa enc Z9 w base spare held m 25 k=some y):∃g:G,k.length=2/\ElOk w L k g.cells/\∀j,j<2->∀ι,VR w L ι (k.getD j undef) (g.cells.getD j .undef):=by
 have t:Tryz.prog.cellsOf 57=2:=by kernel_rfl
 obtain⟨e,n,rfl,rfl,d,u,v⟩:=Xc Tryz.underlying25 h;have D:Tryz.prog.cellsOf 25=2:=by kernel_rfl
 have o:Tryz.prog.cellsOf 22=1:=by kernel_rfl
 have p:Tryz.prog.cellsOf 23=1:=by kernel_rfl
 rw[D]at d;have c:∀i,i<2->e[i]?=some (e.getD i (.nil,[])):=λi F=>by rw[Wa,Wg (by rw[u];exact F)];rfl
 match k,d with
 |[c0,c1],_=>
  have q:Xa enc Z9 w base spare held n 22 (([c0,c1].drop 0).take (Tryz.prog.cellsOf 22))=some (e.getD 0 (.nil,[])):=(v 0 _ rfl).trans (c 0 (by decide));rw[o]at q;replace q:Xa enc Z9 w base spare held n 22 [c0]=some (e.getD 0 (.nil,[])):=q;have s:Xa enc Z9 w base spare held n 23 (([c0,c1].drop 1).take (Tryz.prog.cellsOf 23))=some (e.getD 1 (.nil,[])):=(v 1 _ rfl).trans (c 1 (by decide));rw[p]at s;replace s:Xa enc Z9 w base spare held n 23 [c1]=some (e.getD 1 (.nil,[])):=s;obtain⟨I,B,z⟩:=zky Tryz.underlying22 q;obtain⟨H,v1,C,J,A⟩:=zvA (α:=Bl) (cells:=Bl.cells) (L:=L) Tryz.underlying23 t hL (λ_ _ _ h _=>zHO hL h) s;cases B;cases C;refine⟨⟨I,H⟩,rfl,λj x=>?_,λj x ι=>?_⟩
  .match j with
   |0=>exact⟨.int _ _ _ z,rfl⟩
   |1=>exact⟨A _,J⟩
   |j+2=>exact absurd x (by simp)
  .match j with
   |0=>exact .int _ _ _ z
   |1=>exact A _
   |j+2=>omega
theorem open_graph{v:Value}{d:DataW HH}{s:List MemPlace}(m:Value.okWide Z9 w .any base 25 v){p:Nat}(h:DataW.Trod enc Z9 w p spare held 25 v d s):∃g:G,True/\∀ι,VR w L ι v (.agg g.cells):=by
 obtain⟨k,y⟩:=h;unfold Value.okWide at m;rw[Tryz.underlying25]at m;simp only at m;obtain⟨c,rfl,_,_⟩:=m;have n:Xa enc Z9 w p spare held k 25 c.toList=some (d,s):=y;obtain⟨g,q,t,u⟩:=zHI hL n
 refine⟨g,trivial,λι=>.agg ι c _ (by
  have:c.size=2:=by simpa using q
  rw[this];rfl) (λi v e=>?_) (λi v a e x=>?_)⟩
 .have j:i<c.size:=by
   rcases Nat.lt_or_ge i c.size with h|h
   .exact h
   .rw[Wh h]at e;cases e
  have:=(t i (by simpa using j)).2;rw[Wa,Wi,e]at this;exact this
 .have j:i<c.size:=by
   rcases Nat.lt_or_ge i c.size with h|h
   .exact h
   .rw[Wh h]at e;cases e
  have o:i<2:=by rw[<-q];simpa using j
  have:=u i o ι;rw[Wa,Wi,e,Wa,x]at this;exact this
end
end Go.Ab
namespace Go.Ab
open Go.RowKit Go.Proofs
def zkz:ACode:=Z8 0xacc7310ac2100dc0602100000000000cc70c211819d8d1401dd813c0101001115c070011012140a00600a00600b11400000ec610c0122cea070011012140a0060ec271300bc310721102bc1403133532701430ccdc36bc2113 []
def zj9:ACode:=Z8 0x9c003c45103c21006c060e221 []
def zkj:ACode:=Z8 0x19096255100000150108c23130004c4ac008c0421106c4c14020051315307014305c6c364c2113 [zkz,zj9]
def zkd:ACode:=.seq (.region [(oM 45 3),(oM 2 45)] [3,13,14,15,45]) (.ret)
def zoe:ACode:=Z8 0x1909605a1200000150116afa04220c241330008410321141cc1ac015011021138251310216c011c0213 [zkj,zkd]
attribute[irreducible]zkz zj9 zkj zkd
def zn4:List ARet:=[.tmp 2]
theorem zut:zM Z9 zd6 (qRo [1])=some (zoe.strip,zn4,46):=by kernel_rfl
def zg1:ACode:=Z8 0x6ec93101d21004d06fd2210000000ec9810521cd4c23c010100002125c01112102000029c00c009008007114005d3128d369fa09000c00605d2413002d3109211022d14031335327014303d4d362d2113 []
def zdY:ACode:=Z8 0x2c008c65105c21008c060e221 []
def zgZ:ACode:=Z8 0x19096256c7200000150a0031301714000ac410c01101214090070ac251330006c4cc00ac0621108c6c14020051315307014307c8c366c2113 [zg1,zdY]
def zhd:ACode:=.seq (.region [(oM 45 5),(oM 2 45)] [3,4,5,15,16,17,45]) (.ret)
def zjH:ACode:=Z8 0x19096050c12000001501144fa04222c24133026c011300c21042112afa04220c23130a210321118fa0222a231310226c011c0213 [zgZ,zhd]
attribute[irreducible]zg1 zdY zgZ zhd
def zjD:List ARet:=[.tmp 2]
theorem zo7:zM Z9 zd9 (qRo [1])=some (zjH.strip,zjD,46):=by kernel_rfl
def zcv:ACode:=Z8 0x1a0441082100b066c22108070130071042800213140000b5112cbc012201224080030040b261309210522002131530701430ab3692113 []
def zcu:ACode:=.seq (.region [(oK 4 (-1))] [0,1,7,8]) (.ret)
def zc4:ACode:=Z8 0x190960561000001503062313341000042113 [zcv,zcu]
attribute[irreducible]zcv zcu
def zbj:List ARet:=[.tmp 4]
theorem zgC:zM Z9 zaN (qRo [])=some (zc4.strip,zbj,19):=by kernel_rfl
def zcs:ACode:=Z8 0x80003006104200016601226bfa04003005134110042113 []
def zcr:List ARet:=[.tmp 4]
theorem zfn:zM Z9 zaw (qRo [])=some (zcs.strip,zcr,9):=by kernel_rfl
def zm5:ACode:=Z8 0x80001016103212760410110100221274c0513202100017c22213 []
def znc:List ARet:=[.tmp 3]
theorem zub:zM Z9 zgQ (qRo [])=some (zm5.strip,znc,8):=by kernel_rfl
def zlW:ACode:=Z8 0x56c0c310cc2100fc069d2210000006c0c710a217d813c0101001115c01100003c21274c01c006114000d312760400110100121274c0d241300dc32d12810000290c212202dc2404131530701430ecfc36dc2113 []
def zlX:ACode:=Z8 0x0000006e1c710a2107f813c0110121404c00b001c00710001f3201234a4c14c00a0031314000000008e9101fe70113121434c030c035f610010c012210494c04c00a08e2a1300003e510a21106e1cc010011601501c001c03e2613000000cd7101c211010e14010011601501c001c0071335270140ad200015601501c0ad23133 []
def zlK:ACode:=Z8 0x800000ee2c71062112f10f311c4c01505c001505c00100df27130083e200079102c2116cfa0116dfa0a00af2413 []
def zlS:ACode:=.seq (.block 2 (.loop zlX)) (zlK)
def zpq:ACode:=Z8 0x1909605210000015050ac23133016c011304c331092112afa06228c231306c21082116afa06226c2313003c31072200201234a4c1400014c3c251350216c6211c32213 [zlW,zlS]
attribute[irreducible]zlW zlS
def zpU:List ARet:=[.tmp 6]
theorem zv4:zM Z9 zjm (qRo [3])=some (zpq.strip,zpU,79):=by kernel_rfl
def zko:ACode:=Z8 0x46c93109c2100cc065d221000006c96105214d813c0101001115c00c00800511400dc310c0122cea00c0040dc241300ac310921102ac1403133532701430bccc36ac2113 []
def zkm:ACode:=Z8 0x0c007c4100c21003c066d221 []
def zka:ACode:=Z8 0x1909625008740000015011012140a00304c2613001c3107211021c14031315307014302c3c361c2113 [zko,zkm]
def zkI:ACode:=Z8 0x803d53104211eea08003130ac00800711dea0807d2213 []
def znV:ACode:=Z8 0x190960500000015040a23133016c01134116c42113 [zka,zkI]
attribute[irreducible]zko zkm zka zkI
def zog:List ARet:=[.tmp 4]
theorem zuD:zM Z9 zfv (qRo [])=some (znV.strip,zog,39):=by kernel_rfl
def zbT:ACode:=Z8 0x800030510221204f43c030000044004045c524130830246c221131431100ec030021332146c22113 []
def zag:List ARet:=[.tmp 2]
theorem zey:zM Z9 zaj (qRo [])=some (zbT.strip,zag,8):=by kernel_rfl
def zlP:ACode:=Z8 0x1fc6310a21001c068d22100fc631052107d2219d4000000000000000000778c0101ac702120dc7bd6210d3632153211321113321244328032303215321132a1130e6210320001363280bd621002122ceb0240021102a1133c2223000b45ca4813c062004400497214201cb44020061315307014300c1c36b2113 []
def zlJ:ACode:=.seq (.region [(oM 37 5),(oM 4 37)] [0,1,5,8,9,10,37]) (.ret)
def zpn:ACode:=Z8 0x19096050000001503082313309000011341000042113 [zlP,zlJ]
attribute[irreducible]zlP zlJ
def zpZ:List ARet:=[.tmp 4]
theorem zvN:zM Z9 zg6 (qRo [])=some (zpn.strip,zpZ,38):=by kernel_rfl
def zl5:ACode:=.seq (.region [(oB 19 .lss 18 17)] []) (.seq (.cond (.t 19) (.skip) (.exit 0)) (.seq (.block 1 (.seq (.region [(oI 20 1 16 18),(oL 21 20),(oN 7 (.alloc [.int .i64 0])),(oS 1 7 21)] [19,20,21]) (.seq (.region [(oM 22 3),(oN 23 (.mkfn (.func zgQ) [(.t 7)])),(oN 24 (.call zaw [(.t 22),(.t 23)]))] [22,23]) (.cond (.t 24) (.seq (.region [(oA 25 2 1),(oL 26 7),(oM 27 3),(oN 28 (.call zjm [(.t 25),(.t 26),(.t 27)])),(oM 8 28)] [24,25,26,27,28]) (.draw (.step (oM 29 5) (.step (oM 31 8) (.step (oM 32 4) (.step (oM 33 8) (.alt (oL 30 7) (.alt (oN 34 (.call zfv [(.t 32),(.t 33)])) (.step (oN 35 (.build [.int .i64 0,.nilsl,.nilsl,.int .i64 0] [(0,1,(.t 30)),(1,1,(.t 31)),(2,1,(.t 34)),(3,1,(.c (.int .i64 (-1))))])) (.alt (oN 36 (.buildSl 4 1 [.int .i64 0,.nilsl,.nilsl,.int .i64 0] [(0,(.t 35))])) (.alt (oN 37 (.append 4 64 (.t 29) (.t 36))) (.step (oM 5 37) (.done)) (.stop)) (.stop))) (.stop)) (.alt (oN 34 (.call zfv [(.t 32),(.t 33)])) (.alt (oL 30 7) (.step (oN 35 (.build [.int .i64 0,.nilsl,.nilsl,.int .i64 0] [(0,1,(.t 30)),(1,1,(.t 31)),(2,1,(.t 34)),(3,1,(.c (.int .i64 (-1))))])) (.alt (oN 36 (.buildSl 4 1 [.int .i64 0,.nilsl,.nilsl,.int .i64 0] [(0,(.t 35))])) (.alt (oN 37 (.append 4 64 (.t 29) (.t 36))) (.step (oM 5 37) (.done)) (.stop)) (.stop))) (.stop)) (.stop))))))) [7,8,29,30,31,32,33,34,35,36,37])) (.skip))))) (.region [(oC 38 .add 18 1),(oM 18 38)] [7,24,38])))
def zlT:ACode:=Z8 0x01f110dd21000e060210000000000bd091c01f118111330ae9e4401be24afa011011030124400c008001c000c008000c10002e440118111130124400c00102e251300e210a21149fa0800e23130ed210922002133532701430fd0e36ed2113 []
def zl7:ACode:=.seq (.region [(oM 62 5),(oM 2 62)] [5,40,41,62]) (.ret)
def zl0:ACode:=Z8 0x19096258c00b01170000015080bd23133 [zlT,zl7]
def zp1:ACode:=Z8 0x19096053c1000001501119fa04223c24133046c011301c210421144fa04221c23130b210321143fa0222b231310246c011c0213 [zl5,zl0]
attribute[irreducible]zl5 zlT zl7 zl0
def zpp:List ARet:=[.tmp 2]
theorem zv9:zM Z9 zff (qRoL [1] [(9,[0,1,2,3,4,6,7,8,9,10,11,12,13,14,15,16,17,18,19,20,21,22,23,24,25,26,27,28,29,30,31,32,33,34,35,36,37,38,39,40,41,42,43,44,45,46,47,48,49,50,51,52,53,54,55,56,57,58,59,60,61,62,63,64,65,66,67,68,69,70,71,72,73,74,75,76,77,78,79,80,81,82,83,84,85,86,87,88,89,90,91,92,93,94,95,96,97,98,99,100,101,102,103,104,105,106,107,108,109,110,111,112,113,114,115,116,117,118,119,120,121,122,123,124,125,126,127,128,129,130,131,132,133,134,135,136,137,138,139,140,141,142,143,144,145,146,147,148,149])])=some (zp1.strip,zpp,63):=by kernel_rfl
def zjF:List St->Bool
 |[]=>true
 |x::l=>(zph x == l.isEmpty)&&zjF l
def inN(n:Int)(t:Int):Bool:=decide (0<=t/\t<n)
def zat(l:List St):List Int:=match l.getLast? with
 |none=>[]
 |some s=>ze2 s
def zew(l:List St)(n:Int):Bool := !l.isEmpty&&(zjF l&&(zat l).all (inN n))
theorem zzT{l:List St}{i:Nat}(h:i<l.length):zjF (l.drop i)=((zph l[i] == decide ((i:Int)=(l.length:Int)-1))&&zjF (l.drop (i+1))):=by
 rw[We h,zjF];congr 2;by_cases b:i+1<l.length
 .rw[We b,decide_eq_false (by omega)];rfl
 .rw[Wd (by omega),decide_eq_true (by omega)];rfl
theorem zHS{l:List Int}{i:Nat}{p:Int->Bool}(h:i<l.length):(l.drop i).all p=(p l[i]&&(l.drop (i+1)).all p):=by rw[We h,List.all_cons]
theorem zmS{l}(h:l.length-1<l.length):zat l=ze2 l[l.length-1]:=by unfold zat;rw[List.getLast?_eq_getElem?,Wg h]
theorem zs0(b:Bl)(n:Int):zn Z9 zgT [.agg b.cells,.int .i64 n] (·=.bool (zew b.stmts n)):=by
 refine fn_x zsC rfl ?_;refine dcU zmu.eq_1 ?_;have w:=hBig;obtain⟨p,l⟩:=b;simp only[Bl.cells,zew];by_cases j:l.length=0
 .obtain rfl:l=[]:=List.eq_nil_of_length_eq_zero j;refine Gw4 @uf @dT @uh @zcg.eq_1 ?_;intros;exact bzO
 have u:l.isEmpty=false:=by cases l with|nil=>simp at j|cons a l=>rfl
 rw[u];refine Qf ?_;intros;refine zd (λi:Nat=>([(1,.int .i64 n),(2,encP 2 [.int .u32 p,encL 8 St.cells l]),(5,.int .i64 i)],[])) 0 (λi=>i<=l.length/\zjF (l.drop i)=zjF l) (λi=>l.length-i) 0 ⟨Wf _,rfl⟩ (Xb rfl fin5) ?_;rintro i ⟨v,c⟩ wf;refine dcU zjo.eq_1 ?_;by_cases e:i<l.length
 .rw[zzT e]at c;refine Gw5 @uf @dT (gmp e) @St.len @St.eight ?_;intros;refine zC (zc (zzW l[i]) rfl) ?_;generalize zph l[i]=q at c;by_cases k:(i:Int)=(l.length:Int)-1
  .rw[decide_eq_true k]at c
   cases q with
   |true=>refine Gw2 @uf @dT ?_;intros;exact⟨i+1,⟨by omega,by simpa using c⟩,by omega,Xb rfl fin5⟩
   |false=>
    replace c:zjF l=false:=by rw[<-c];rfl
    rw[c];refine Gw3 @uf @dT @zcg.eq_1 ?_;intros;exact bzO
  .rw[decide_eq_false k]at c
   cases q with
   |false=>refine Qf ?_;intros;exact⟨i+1,⟨by omega,by simpa using c⟩,by omega,Xb rfl fin5⟩
   |true=>
    replace c:zjF l=false:=by rw[<-c];rfl
    rw[c];refine Gw3 @uf @dF @zcg.eq_1 ?_;intros;exact bzO
 rw[Wd (by omega),zjF]at c;rw[<-c];have d:l.length-1<l.length:=by omega
 have g:(((l.length:Nat):Int)-1).toNat=l.length-1:=by omega
 rw[zmS d];refine Qf ?_;intros;refine dcU zjj.eq_1 ?_;refine Gw6 @uf @dT g (gmp d) @St.len @St.eight ?_;intros;refine ze (zc (zuf l[l.length-1]) rfl) ?_;generalize ze2 l[l.length-1]=t;generalize s:t.all (inN n)=R;refine Gw0 ?_;intros;refine zd (λi:Nat=>([(1,.int .i64 n),(6,za t),(7,.int .i64 i)],[])) 0 (λi=>i<=t.length/\(t.drop i).all (inN n)=R) (λi=>t.length-i) 0 ⟨Wf _,s⟩ (Xb rfl fin5) ?_;rintro i ⟨v,c⟩ wf;refine dcU zjr.eq_1 ?_;by_cases e:i<t.length
 .rw[zHS e]at c;unfold inN at c;by_cases m:0<=t[i]
  .by_cases o:t[i]<n
   .rw[decide_eq_true ⟨m,o⟩,Bool.true_and]at c;refine Gw5 @uf @dT @dF @ud (gmp e) ?_;intros;exact⟨i+1,⟨by omega,c⟩,by omega,Xb rfl fin5⟩
   .rw[decide_eq_false (λh=>o h.2),Bool.false_and]at c;subst c;refine Gw6 @uf @dT @dF @ud (gmp e) @zcg.eq_1 ?_;intros;exact bzO
  .rw[decide_eq_false (λh=>m h.1),Bool.false_and]at c;subst c;refine Gw6 @uf @dT @dF @ud (gmp e) @zcg.eq_1 ?_;intros;exact bzO
 .rw[Wd (by omega)]at c;replace c:R=true:=by rw[<-c];rfl
  subst c;refine Gw3 @uf @dF @ud ?_;intros;unfold zju;refine Gw1 @zcg.eq_1 ?_;intros;exact bzO
structure PSt where
 kind:Int
 block:Int
 to:Option (List Int)
structure PC where
 st:List PSt
 lp:List (Int×List Int)
 lab:List (Int×Int)
 got:List (Int×Int)
def brkL(l:List (Int×List Int)):List Int:=match l.getLast? with
 |some x=>x.2
 |none=>[]
def p0:PC:=⟨[],[],[],[]⟩
inductive RR where
 |visit (b:Int) (a j:Nat)
 |stop
 |endless
def pickV(b:List Int)(j:Nat)(n:Int):Int×Bool:=if h:j<b.length then(b[j] % n,true)else(0,false)
def pickJ(b:List Int)(j:Nat):Nat:=if j<b.length then j+1 else j
structure OkR(st:List PSt):Prop where
 len:st.length<=1000000
 pos:0<st.length
 kind:∀k (h:k<st.length),st[k].kind=0\/st[k].kind=1\/st[k].kind=2
 last:∀k (h:k<st.length),st[k].kind=0->k+1<st.length
 to:∀k (h:k<st.length),st[k].kind=1->∃l,st[k].to=some l/\0<l.length/\l.length<=1000000/\∀t∈l,0<=t/\t<st.length
mutual
def zJp:Nd->Bool->Bool
 |.mk f _ l,b=>if (f.kind=7\/f.kind=8)/\b=false then true else zFj l (b||decide (f.kind=4)||decide (f.kind=5))
def zFj:List Nd->Bool->Bool
 |[],_=>false
 |e::l,b=>zJp e b||zFj l b
end
def zdg:ACode:=Z8 0x8000305102212813c03000001015c524130830216c221131431100ec030021332116c22113 []
def zan:List ARet:=[.tmp 2]
theorem zfL:zM Z9 z6 (qRo [])=some (zdg.strip,zan,8):=by kernel_rfl
def zpc:ACode:=Z8 0x60ee24106210010609001f2310802f000116100221131400000200f70001360ed007d0013ada0152012540900110816303f271355347014000ce41fe3601501108163090ce25133 []
def zpt:ACode:=Z8 0x00d05410421001060707d231 []
def zpA:ACode:=Z8 0x19096458e22000062113085e001151002211314000000002e91209e703001563153113816328f6100800156015011011732e2a1330000000026da4e1881440300000000008952182012840700110111301224060011041139d2b13353270140000000ec811d36015011011130122406001104113070ec29133 [zpc,zpt]
def zpv:ACode:=Z8 0x0b4310321001060604c231 []
def zo4:ACode:=Z8 0x1909625ac22000042113089c113100221131400000023c88001560150110111301224060011041136c28133153070140000000781013c703c00136360dc61001a3601501104113060729133 [zpA,zpv]
def zls:ACode:=Z8 0x800006f11610221c00146015011041130af2513 []
def zvn:ACode:=Z8 0x19096050000001133102100011c0213 [zo4,zls]
attribute[irreducible]zpc zpt zpA zpv zo4 zls
def zgy:List ARet:=[.tmp 2]
theorem zCV:zM Z9 zpo (qRo [1])=some (zvn.strip,zgy,74):=by kernel_rfl
def zk6:ACode:=Z8 0x505441052100106080a23108b3004200421131400002961276040011012140800300c26131530701400631936015030080624133 []
def zlq:ACode:=.seq (.region [(oN 4 (.mov (.c (.bool false))))] [0,1,5]) (.ret)
def zqJ:ACode:=Z8 0x190960500000011334110042113 [zk6,zlq]
attribute[irreducible]zk6 zlq
def zkG:List ARet:=[.tmp 4]
theorem zuW:zM Z9 zbb (qRo [])=some (zqJ.strip,zkG,18):=by kernel_rfl
def zei:ACode:=Z8 0x80003006104200016601222cfa04003005134110042113 []
def zeq:List ARet:=[.tmp 4]
theorem zjc:zM Z9 zX (qRo [])=some (zei.strip,zeq,9):=by kernel_rfl
def zbY:ACode:=Z8 0x905d310521001060805d231008e2103210010606003100000000e8211815e4e14011012140800700600301e28133e40000000024da01dd860211021ed1402100116028002700211021214028002707d222335327014001d314d360150700801d24133 []
def zb4:ACode:=Z8 0x8009e205102211021cc0600300413004e045100110d101121cc060010ae2413 []
def zbW:ACode:=Z8 0x90b2410321001060602c231 []
def zb5:ACode:=Z8 0x29019096250100001133000dc4104201121cc060030ec24130d40000000021ca01ac760211021bc1402100116026002300211021214026002304c22231530701400a311c36015030060a24133 [zbY,zb4,zbW]
def zb0:ACode:=.seq (.region [(oM 60 0),(oM 2 60)] [0,3,60]) (.ret)
def zcE:ACode:=Z8 0x19096055221000011330807031022300213140622001360150306231332116c22113 [zb5,zb0]
attribute[irreducible]zbY zb4 zbW zb5 zb0
def zae:List ARet:=[.tmp 2]
theorem zeG:zM Z9 zax (qRo [])=some (zcE.strip,zae,61):=by kernel_rfl
def zkv:ACode:=Z8 0x04c210421001060704c231000000023c9103219c813c01108fa015201254070011041430606c29115307014000b412c3601501104143070b25133 []
def zkP:ACode:=.seq (.region [(oM 26 3),(oM 2 26)] [1,3,4,26]) (.ret)
def znY:ACode:=Z8 0x1909605000000113342216c0113080005151022101001115c01104123041314052a001760110210352313310216c011c0213 [zkv,zkP]
attribute[irreducible]zkv zkP
def zj4:List ARet:=[.tmp 2]
theorem zuz:zM Z9 zfX (qRo [1])=some (znY.strip,zj4,27):=by kernel_rfl
def zep:ACode:=Z8 0x1a0441082100b066c22108070130071042800213140000b512c7601101214080030040b261309210522002131530701430ab3692113 []
def zeh:ACode:=.seq (.region [(oK 4 (-1))] [0,1,7,8]) (.ret)
def zfZ:ACode:=Z8 0x190960561000001503062313341000042113 [zep,zeh]
attribute[irreducible]zep zeh
def zdc:List ARet:=[.tmp 4]
theorem zk2:zM Z9 zcp (qRo [])=some (zfZ.strip,zdc,19):=by kernel_rfl
end Go.Ab
