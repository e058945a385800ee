/-
  Part 18 of the proof: how the calls of this program run, over values instead of memory, and what each function computes.
-/
import Derived.KernelRfl
import Derived.Test.YtmlhipilbnjhiaaGreatNq
set_option maxRecDepth 100000
set_option linter.unusedVariables false
set_option linter.unusedSimpArgs false
set_option linter.unnecessarySimpa false
set_option linter.unusedSectionVars false
open Go.DataW renaming trod->Xa,trod_struct->Xc
open Go.Ab.Ent renaming keep->Xb
open Go.Proofs.Tryz renaming prog->Z9
open List renaming getD_eq_getElem?_getD→Wa,drop_of_length_le→Wd,drop_eq_getElem_cons→We,getElem?_eq_getElem→Wg
open And renaming intro→Wc
open Nat renaming zero_le→Wf
open Array renaming getElem?_eq_none→Wh,getElem?_toList→Wi
namespace Go.Ab
open Go.RowKit Go.Proofs
def zal(op:Int):Int:=if op=2 then 2 else if op=1\/op=4\/op=7\/op=8 then 1 else if op=3\/op=5\/op=6\/op=9\/op=10 then 0 else -1
def zL(op var b next c d:Int)(k:Nat):Bool:=decide (((op=1\/op=3)\/var=0)/\(op=2\/b=0)/\((op=6\/op=7)\/next=0)/\(op=7\/c=0)/\(op=5\/d=0)/\(op=8\/k=0))
def zA(op var b next c d:Int)(k:Nat):Bool:=decide ((((op=1\/op=3)\/var=0)/\(op=2\/b=0)/\((op=6\/op=7)\/next=0)/\(op=7\/c=0)/\(op=5\/d=0)/\(op=8\/k=0))/\(0<=var/\var<65536)/\(op=2->b=1\/b=2\/b=4)/\(op=8->1<=k/\k<=64))
theorem uv:type_of% @zar.eq_1:=@zar.eq_1
theorem zrr(op):zo Z9 zfQ [.int .i64 op] (·=.int .i64 (zal op)):=by
 refine fn_x zq4 rfl ?_;refine dcU zlb.eq_1 ?_;by_cases d:op=1
 .have b:zal op=1:=by unfold zal;subst d;rfl
  rw[b];refine Gw3 @dT @dF @uv ?_;intros;exact izO
 by_cases h:op=4
 .have b:zal op=1:=by unfold zal;subst h;rfl
  rw[b];refine Gw3 @dT @dF @uv ?_;intros;exact izO
 by_cases m:op=7
 .have b:zal op=1:=by unfold zal;subst m;rfl
  rw[b];refine Gw3 @dT @dF @uv ?_;intros;exact izO
 by_cases n:op=8
 .have b:zal op=1:=by unfold zal;subst n;rfl
  rw[b];refine Gw3 @dT @dF @uv ?_;intros;exact izO
 by_cases e:op=2
 .have b:zal op=2:=by unfold zal;subst e;rfl
  rw[b];refine Gw3 @dT @dF @uv ?_;intros;exact izO
 by_cases g:op=3
 .have b:zal op=0:=by unfold zal;subst g;rfl
  rw[b];refine Gw3 @dT @dF @uv ?_;intros;exact izO
 by_cases j:op=5
 .have b:zal op=0:=by unfold zal;subst j;rfl
  rw[b];refine Gw3 @dT @dF @uv ?_;intros;exact izO
 by_cases k:op=6
 .have b:zal op=0:=by unfold zal;subst k;rfl
  rw[b];refine Gw3 @dT @dF @uv ?_;intros;exact izO
 by_cases o:op=9
 .have b:zal op=0:=by unfold zal;subst o;rfl
  rw[b];refine Gw3 @dT @dF @uv ?_;intros;exact izO
 by_cases c:op=10
 .have b:zal op=0:=by unfold zal;subst c;rfl
  rw[b];refine Gw3 @dT @dF @uv ?_;intros;exact izO
 have b:zal op = -1:=by unfold zal;rw[if_neg (by omega),if_neg (by omega),if_neg (by omega)]
 rw[b];refine Gw3 @dT @dF @uv ?_;intros;exact izO
theorem zzb(op)(c:1<=op)(d:op<=10):zo Z9 zmp [.int .i64 op] (·=.int .i64 (zal op)):=by
 refine fn_x zz2 rfl ?_;refine dcU zrU.eq_1 ?_;by_cases d:op=2
 .have b:zal op=2:=by unfold zal;subst d;rfl
  rw[b];refine Gw3 @dT @dF @zeL.eq_1 ?_;intros;exact izO
 by_cases c:op=1
 .have b:zal op=1:=by unfold zal;subst c;rfl
  rw[b];refine Gw3 @dT @dF @zeL.eq_1 ?_;intros;exact izO
 by_cases e:op=4
 .have b:zal op=1:=by unfold zal;subst e;rfl
  rw[b];refine Gw3 @dT @dF @zeL.eq_1 ?_;intros;exact izO
 by_cases g:op=7
 .have b:zal op=1:=by unfold zal;subst g;rfl
  rw[b];refine Gw3 @dT @dF @zeL.eq_1 ?_;intros;exact izO
 by_cases h:op=8
 .have b:zal op=1:=by unfold zal;subst h;rfl
  rw[b];refine Gw3 @dT @dF @zeL.eq_1 ?_;intros;exact izO
 have b:zal op=0:=by unfold zal;rw[if_neg (by omega),if_neg (by omega),if_pos (by omega)]
 rw[b];refine Gw3 @dT @dF @zeL.eq_1 ?_;intros;exact izO
theorem Qb{p q:Prop}(k:q)(h:Im q p:=by(repeat first|simp(disch:=try exact dis1) only[evD,Nat.reduceBEq,Nat.reduceAdd,Nat.reduceLeDiff,dT,dF,fldP,za,zk]|((with_reducible apply Im.i);intro _)|((with_reducible apply Im.a);omega));exact Im.r):p:=h k
theorem zyo(op var width next b c)(e)(d)(h:op=1):zo Z9 za5 [.agg [.int .i64 op,.int .i64 var,.int .i64 width,.int .i64 next,.int .i64 b,.int .u32 c,encL 5 encX e,za d]] (·=.bool (zL op var width next b c d.length)):=by
 refine fn_x zbX rfl ?_;refine dcU zbk.eq_1 ?_;have g:=hBig;refine Qb ?_;intros;by_cases j:width=0<;>(refine Qb ?_;intros)
 case neg=>exact bxO (by unfold zL;exact lb)
 by_cases k:next=0<;>(refine Qb ?_;intros)
 case neg=>exact bxO (by unfold zL;exact lb)
 by_cases m:b=0<;>(refine Qb ?_;intros)
 case neg=>exact bxO (by unfold zL;exact lb)
 by_cases n:c=0<;>(refine Qb ?_;intros)
 case neg=>exact bxO (by unfold zL;exact lb)
 exact bxO (by unfold zL;exact lb)
theorem zzH(op var width next b c)(e)(d)(h:op=2):zo Z9 za5 [.agg [.int .i64 op,.int .i64 var,.int .i64 width,.int .i64 next,.int .i64 b,.int .u32 c,encL 5 encX e,za d]] (·=.bool (zL op var width next b c d.length)):=by
 refine fn_x zbX rfl ?_;refine dcU zbk.eq_1 ?_;have g:=hBig;refine Qb ?_;intros;by_cases j:var=0<;>(refine Qb ?_;intros)
 case neg=>exact bxO (by unfold zL;exact lb)
 by_cases k:next=0<;>(refine Qb ?_;intros)
 case neg=>exact bxO (by unfold zL;exact lb)
 by_cases m:b=0<;>(refine Qb ?_;intros)
 case neg=>exact bxO (by unfold zL;exact lb)
 by_cases n:c=0<;>(refine Qb ?_;intros)
 case neg=>exact bxO (by unfold zL;exact lb)
 exact bxO (by unfold zL;exact lb)
theorem zx9(op var width next b c)(e)(d)(h:op=3):zo Z9 za5 [.agg [.int .i64 op,.int .i64 var,.int .i64 width,.int .i64 next,.int .i64 b,.int .u32 c,encL 5 encX e,za d]] (·=.bool (zL op var width next b c d.length)):=by
 refine fn_x zbX rfl ?_;refine dcU zbk.eq_1 ?_;have g:=hBig;refine Qb ?_;intros;by_cases j:width=0<;>(refine Qb ?_;intros)
 case neg=>exact bxO (by unfold zL;exact lb)
 by_cases k:next=0<;>(refine Qb ?_;intros)
 case neg=>exact bxO (by unfold zL;exact lb)
 by_cases m:b=0<;>(refine Qb ?_;intros)
 case neg=>exact bxO (by unfold zL;exact lb)
 by_cases n:c=0<;>(refine Qb ?_;intros)
 case neg=>exact bxO (by unfold zL;exact lb)
 exact bxO (by unfold zL;exact lb)
theorem zzZ(op var width next b c)(e)(d)(h:op=4):zo Z9 za5 [.agg [.int .i64 op,.int .i64 var,.int .i64 width,.int .i64 next,.int .i64 b,.int .u32 c,encL 5 encX e,za d]] (·=.bool (zL op var width next b c d.length)):=by
 refine fn_x zbX rfl ?_;refine dcU zbk.eq_1 ?_;have g:=hBig;refine Qb ?_;intros;by_cases j:var=0<;>(refine Qb ?_;intros)
 case neg=>exact bxO (by unfold zL;exact lb)
 by_cases k:width=0<;>(refine Qb ?_;intros)
 case neg=>exact bxO (by unfold zL;exact lb)
 by_cases m:next=0<;>(refine Qb ?_;intros)
 case neg=>exact bxO (by unfold zL;exact lb)
 by_cases n:b=0<;>(refine Qb ?_;intros)
 case neg=>exact bxO (by unfold zL;exact lb)
 by_cases o:c=0<;>(refine Qb ?_;intros)
 case neg=>exact bxO (by unfold zL;exact lb)
 exact bxO (by unfold zL;exact lb)
theorem zyH(op var width next b c)(e)(d)(h:op=5):zo Z9 za5 [.agg [.int .i64 op,.int .i64 var,.int .i64 width,.int .i64 next,.int .i64 b,.int .u32 c,encL 5 encX e,za d]] (·=.bool (zL op var width next b c d.length)):=by
 refine fn_x zbX rfl ?_;refine dcU zbk.eq_1 ?_;have g:=hBig;refine Qb ?_;intros;by_cases j:var=0<;>(refine Qb ?_;intros)
 case neg=>exact bxO (by unfold zL;exact lb)
 by_cases k:width=0<;>(refine Qb ?_;intros)
 case neg=>exact bxO (by unfold zL;exact lb)
 by_cases m:next=0<;>(refine Qb ?_;intros)
 case neg=>exact bxO (by unfold zL;exact lb)
 by_cases n:b=0<;>(refine Qb ?_;intros)
 case neg=>exact bxO (by unfold zL;exact lb)
 exact bxO (by unfold zL;exact lb)
theorem zxY(op var width next b c)(e)(d)(h:op=6):zo Z9 za5 [.agg [.int .i64 op,.int .i64 var,.int .i64 width,.int .i64 next,.int .i64 b,.int .u32 c,encL 5 encX e,za d]] (·=.bool (zL op var width next b c d.length)):=by
 refine fn_x zbX rfl ?_;refine dcU zbk.eq_1 ?_;have g:=hBig;refine Qb ?_;intros;by_cases j:var=0<;>(refine Qb ?_;intros)
 case neg=>exact bxO (by unfold zL;exact lb)
 by_cases k:width=0<;>(refine Qb ?_;intros)
 case neg=>exact bxO (by unfold zL;exact lb)
 by_cases m:b=0<;>(refine Qb ?_;intros)
 case neg=>exact bxO (by unfold zL;exact lb)
 by_cases n:c=0<;>(refine Qb ?_;intros)
 case neg=>exact bxO (by unfold zL;exact lb)
 exact bxO (by unfold zL;exact lb)
theorem zyp(op var width next c b)(e)(d)(h:op=7):zo Z9 za5 [.agg [.int .i64 op,.int .i64 var,.int .i64 width,.int .i64 next,.int .i64 c,.int .u32 b,encL 5 encX e,za d]] (·=.bool (zL op var width next c b d.length)):=by
 refine fn_x zbX rfl ?_;refine dcU zbk.eq_1 ?_;have g:=hBig;refine Qb ?_;intros;by_cases j:var=0<;>(refine Qb ?_;intros)
 case neg=>exact bxO (by unfold zL;exact lb)
 by_cases k:width=0<;>(refine Qb ?_;intros)
 case neg=>exact bxO (by unfold zL;exact lb)
 by_cases m:b=0<;>(refine Qb ?_;intros)
 case neg=>exact bxO (by unfold zL;exact lb)
 exact bxO (by unfold zL;exact lb)
theorem zzx(op var width next b c)(e)(d)(h:op=8):zo Z9 za5 [.agg [.int .i64 op,.int .i64 var,.int .i64 width,.int .i64 next,.int .i64 b,.int .u32 c,encL 5 encX e,za d]] (·=.bool (zL op var width next b c d.length)):=by
 refine fn_x zbX rfl ?_;refine dcU zbk.eq_1 ?_;have g:=hBig;refine Qb ?_;intros;by_cases j:var=0<;>(refine Qb ?_;intros)
 case neg=>exact bxO (by unfold zL;exact lb)
 by_cases k:width=0<;>(refine Qb ?_;intros)
 case neg=>exact bxO (by unfold zL;exact lb)
 by_cases m:next=0<;>(refine Qb ?_;intros)
 case neg=>exact bxO (by unfold zL;exact lb)
 by_cases n:b=0<;>(refine Qb ?_;intros)
 case neg=>exact bxO (by unfold zL;exact lb)
 by_cases o:c=0<;>(refine Qb ?_;intros)
 case neg=>exact bxO (by unfold zL;exact lb)
 exact bxO (by unfold zL;exact lb)
theorem zyg(op var width next b c)(e)(d)(h:op=9):zo Z9 za5 [.agg [.int .i64 op,.int .i64 var,.int .i64 width,.int .i64 next,.int .i64 b,.int .u32 c,encL 5 encX e,za d]] (·=.bool (zL op var width next b c d.length)):=by
 refine fn_x zbX rfl ?_;refine dcU zbk.eq_1 ?_;have g:=hBig;refine Qb ?_;intros;by_cases j:var=0<;>(refine Qb ?_;intros)
 case neg=>exact bxO (by unfold zL;exact lb)
 by_cases k:width=0<;>(refine Qb ?_;intros)
 case neg=>exact bxO (by unfold zL;exact lb)
 by_cases m:next=0<;>(refine Qb ?_;intros)
 case neg=>exact bxO (by unfold zL;exact lb)
 by_cases n:b=0<;>(refine Qb ?_;intros)
 case neg=>exact bxO (by unfold zL;exact lb)
 by_cases o:c=0<;>(refine Qb ?_;intros)
 case neg=>exact bxO (by unfold zL;exact lb)
 exact bxO (by unfold zL;exact lb)
theorem zwu(op var width next b c)(e)(d)(h:op=10):zo Z9 za5 [.agg [.int .i64 op,.int .i64 var,.int .i64 width,.int .i64 next,.int .i64 b,.int .u32 c,encL 5 encX e,za d]] (·=.bool (zL op var width next b c d.length)):=by
 refine fn_x zbX rfl ?_;refine dcU zbk.eq_1 ?_;have g:=hBig;refine Qb ?_;intros;by_cases j:var=0<;>(refine Qb ?_;intros)
 case neg=>exact bxO (by unfold zL;exact lb)
 by_cases k:width=0<;>(refine Qb ?_;intros)
 case neg=>exact bxO (by unfold zL;exact lb)
 by_cases m:next=0<;>(refine Qb ?_;intros)
 case neg=>exact bxO (by unfold zL;exact lb)
 by_cases n:b=0<;>(refine Qb ?_;intros)
 case neg=>exact bxO (by unfold zL;exact lb)
 by_cases o:c=0<;>(refine Qb ?_;intros)
 case neg=>exact bxO (by unfold zL;exact lb)
 exact bxO (by unfold zL;exact lb)
theorem zxj(op var width next b c)(e)(d)(t:1<=op)(u:op<=10):zo Z9 za5 [.agg [.int .i64 op,.int .i64 var,.int .i64 width,.int .i64 next,.int .i64 b,.int .u32 c,encL 5 encX e,za d]] (·=.bool (zL op var width next b c d.length)):=by
 by_cases h:op=1
 .exact zyo op var width next b c e d h
 by_cases j:op=2
 .exact zzH op var width next b c e d j
 by_cases k:op=3
 .exact zx9 op var width next b c e d k
 by_cases m:op=4
 .exact zzZ op var width next b c e d m
 by_cases n:op=5
 .exact zyH op var width next b c e d n
 by_cases o:op=6
 .exact zxY op var width next b c e d o
 by_cases p:op=7
 .exact zyp op var width next b c e d p
 by_cases q:op=8
 .exact zzx op var width next b c e d q
 by_cases s:op=9
 .exact zyg op var width next b c e d s
 by_cases g:op=10
 .exact zwu op var width next b c e d g
 omega
theorem Qa{p q:Prop}(k:q)(h:Im q p:=by(repeat first|simp(disch:=try exact dis1) only[evD,Nat.reduceBEq,Nat.reduceAdd,Nat.reduceLeDiff,dT,dF,fldP,za,zh]|((with_reducible apply Im.i);intro _)|((with_reducible apply Im.a);omega));exact Im.r):p:=h k
theorem zBa(op var width next b c)(e)(d)(h:op=1):zo Z9 zbo [.agg [.int .i64 op,.int .i64 var,.int .i64 width,.int .i64 next,.int .i64 b,.int .u32 c,encL 5 encX e,za d]] (·=.bool (zA op var width next b c d.length)):=by
 refine fn_x zcE rfl ?_;refine dcU zb1.eq_1 ?_;have g:=hBig;refine Qa ?_;intros;refine zd (ze (zkW var) rfl) ?_;unfold zwL;by_cases j:0<=var/\var<65536<;>(refine Qa ?_;intros)
 case neg=>exact bxO (by unfold zA;exact lb)
 by_cases k:width=0<;>(refine Qa ?_;intros)
 case neg=>exact bxO (by unfold zA;exact lb)
 by_cases m:c=0<;>(refine Qa ?_;intros)
 case neg=>exact bxO (by unfold zA;exact lb)
 by_cases n:next=0<;>(refine Qa ?_;intros)
 case neg=>exact bxO (by unfold zA;exact lb)
 by_cases o:b=0<;>(refine Qa ?_;intros)
 case neg=>exact bxO (by unfold zA;exact lb)
 exact bxO (by unfold zA;exact lb)
theorem zAo(op var width next b c)(e)(d)(h:op=2):zo Z9 zbo [.agg [.int .i64 op,.int .i64 var,.int .i64 width,.int .i64 next,.int .i64 b,.int .u32 c,encL 5 encX e,za d]] (·=.bool (zA op var width next b c d.length)):=by
 refine fn_x zcE rfl ?_;refine dcU zb1.eq_1 ?_;have g:=hBig;refine Qa ?_;intros;refine zd (ze (zsb width) rfl) ?_;unfold zxe;by_cases j:width=1\/width=2\/width=4<;>(refine Qa ?_;intros)
 case neg=>exact bxO (by unfold zA;exact lb)
 by_cases k:var=0<;>(refine Qa ?_;intros)
 case neg=>exact bxO (by unfold zA;exact lb)
 by_cases m:c=0<;>(refine Qa ?_;intros)
 case neg=>exact bxO (by unfold zA;exact lb)
 by_cases n:next=0<;>(refine Qa ?_;intros)
 case neg=>exact bxO (by unfold zA;exact lb)
 by_cases o:b=0<;>(refine Qa ?_;intros)
 case neg=>exact bxO (by unfold zA;exact lb)
 exact bxO (by unfold zA;exact lb)
theorem zBZ(op var width next b c)(e)(d)(h:op=3):zo Z9 zbo [.agg [.int .i64 op,.int .i64 var,.int .i64 width,.int .i64 next,.int .i64 b,.int .u32 c,encL 5 encX e,za d]] (·=.bool (zA op var width next b c d.length)):=by
 refine fn_x zcE rfl ?_;refine dcU zb1.eq_1 ?_;have g:=hBig;refine Qa ?_;intros;refine zd (ze (zkW var) rfl) ?_;unfold zwL;by_cases j:0<=var/\var<65536<;>(refine Qa ?_;intros)
 case neg=>exact bxO (by unfold zA;exact lb)
 by_cases k:width=0<;>(refine Qa ?_;intros)
 case neg=>exact bxO (by unfold zA;exact lb)
 by_cases m:c=0<;>(refine Qa ?_;intros)
 case neg=>exact bxO (by unfold zA;exact lb)
 by_cases n:next=0<;>(refine Qa ?_;intros)
 case neg=>exact bxO (by unfold zA;exact lb)
 by_cases o:b=0<;>(refine Qa ?_;intros)
 case neg=>exact bxO (by unfold zA;exact lb)
 exact bxO (by unfold zA;exact lb)
theorem zAH(op var width next b c)(e)(d)(h:op=4):zo Z9 zbo [.agg [.int .i64 op,.int .i64 var,.int .i64 width,.int .i64 next,.int .i64 b,.int .u32 c,encL 5 encX e,za d]] (·=.bool (zA op var width next b c d.length)):=by
 refine fn_x zcE rfl ?_;refine dcU zb1.eq_1 ?_;have g:=hBig;refine Qa ?_;intros;by_cases j:var=0<;>(refine Qa ?_;intros)
 case neg=>exact bxO (by unfold zA;exact lb)
 by_cases k:width=0<;>(refine Qa ?_;intros)
 case neg=>exact bxO (by unfold zA;exact lb)
 by_cases m:c=0<;>(refine Qa ?_;intros)
 case neg=>exact bxO (by unfold zA;exact lb)
 by_cases n:next=0<;>(refine Qa ?_;intros)
 case neg=>exact bxO (by unfold zA;exact lb)
 by_cases o:b=0<;>(refine Qa ?_;intros)
 case neg=>exact bxO (by unfold zA;exact lb)
 exact bxO (by unfold zA;exact lb)
theorem zAj(op var width next b c)(e)(d)(h:op=5):zo Z9 zbo [.agg [.int .i64 op,.int .i64 var,.int .i64 width,.int .i64 next,.int .i64 b,.int .u32 c,encL 5 encX e,za d]] (·=.bool (zA op var width next b c d.length)):=by
 refine fn_x zcE rfl ?_;refine dcU zb1.eq_1 ?_;have g:=hBig;refine Qa ?_;intros;by_cases j:var=0<;>(refine Qa ?_;intros)
 case neg=>exact bxO (by unfold zA;exact lb)
 by_cases k:width=0<;>(refine Qa ?_;intros)
 case neg=>exact bxO (by unfold zA;exact lb)
 by_cases m:next=0<;>(refine Qa ?_;intros)
 case neg=>exact bxO (by unfold zA;exact lb)
 by_cases n:b=0<;>(refine Qa ?_;intros)
 case neg=>exact bxO (by unfold zA;exact lb)
 exact bxO (by unfold zA;exact lb)
theorem zCc(op var width next b c)(e)(d)(h:op=6):zo Z9 zbo [.agg [.int .i64 op,.int .i64 var,.int .i64 width,.int .i64 next,.int .i64 b,.int .u32 c,encL 5 encX e,za d]] (·=.bool (zA op var width next b c d.length)):=by
 refine fn_x zcE rfl ?_;refine dcU zb1.eq_1 ?_;have g:=hBig;refine Qa ?_;intros;by_cases j:var=0<;>(refine Qa ?_;intros)
 case neg=>exact bxO (by unfold zA;exact lb)
 by_cases k:width=0<;>(refine Qa ?_;intros)
 case neg=>exact bxO (by unfold zA;exact lb)
 by_cases m:c=0<;>(refine Qa ?_;intros)
 case neg=>exact bxO (by unfold zA;exact lb)
 by_cases n:b=0<;>(refine Qa ?_;intros)
 case neg=>exact bxO (by unfold zA;exact lb)
 exact bxO (by unfold zA;exact lb)
theorem zBD(op var width next c b)(e)(d)(h:op=7):zo Z9 zbo [.agg [.int .i64 op,.int .i64 var,.int .i64 width,.int .i64 next,.int .i64 c,.int .u32 b,encL 5 encX e,za d]] (·=.bool (zA op var width next c b d.length)):=by
 refine fn_x zcE rfl ?_;refine dcU zb1.eq_1 ?_;have g:=hBig;by_cases j:var=0
 case neg=>
  ((refine Qa ?_;intros);(repeat' with_reducible apply Wc)<;>(refine Qa ?_;intros);all_goals(exact bxO (by unfold zA;exact lb)))
 by_cases k:width=0
 case neg=>
  ((refine Qa ?_;intros);(repeat' with_reducible apply Wc)<;>(refine Qa ?_;intros);all_goals(exact bxO (by unfold zA;exact lb)))
 by_cases m:b=0
 case neg=>
  ((refine Qa ?_;intros);(repeat' with_reducible apply Wc)<;>(refine Qa ?_;intros);all_goals(exact bxO (by unfold zA;exact lb)))
 by_cases n:d.length=0
 case neg=>
  ((refine Qa ?_;intros);(repeat' with_reducible apply Wc)<;>(refine Qa ?_;intros);all_goals(exact bxO (by unfold zA;exact lb)))
 ((refine Qa ?_;intros);(repeat' with_reducible apply Wc)<;>(refine Qa ?_;intros);all_goals(exact bxO (by unfold zA;exact lb)))
theorem zA2(op var width next b c)(e)(d)(h:op=8):zo Z9 zbo [.agg [.int .i64 op,.int .i64 var,.int .i64 width,.int .i64 next,.int .i64 b,.int .u32 c,encL 5 encX e,za d]] (·=.bool (zA op var width next b c d.length)):=by
 refine fn_x zcE rfl ?_;refine dcU zb1.eq_1 ?_;have k:=hBig;refine Qa ?_;intros;by_cases g:1<=d.length<;>(refine Qa ?_;intros)
 case neg=>exact bxO (by unfold zA;exact lb)
 by_cases j:d.length<=64<;>(refine Qa ?_;intros)
 case neg=>exact bxO (by unfold zA;exact lb)
 by_cases m:var=0<;>(refine Qa ?_;intros)
 case neg=>exact bxO (by unfold zA;exact lb)
 by_cases n:width=0<;>(refine Qa ?_;intros)
 case neg=>exact bxO (by unfold zA;exact lb)
 by_cases o:c=0<;>(refine Qa ?_;intros)
 case neg=>exact bxO (by unfold zA;exact lb)
 by_cases p:next=0<;>(refine Qa ?_;intros)
 case neg=>exact bxO (by unfold zA;exact lb)
 by_cases q:b=0<;>(refine Qa ?_;intros)
 case neg=>exact bxO (by unfold zA;exact lb)
 exact bxO (by unfold zA;exact lb)
theorem zBz(op var width next b c)(e)(d)(h:op=9):zo Z9 zbo [.agg [.int .i64 op,.int .i64 var,.int .i64 width,.int .i64 next,.int .i64 b,.int .u32 c,encL 5 encX e,za d]] (·=.bool (zA op var width next b c d.length)):=by
 refine fn_x zcE rfl ?_;refine dcU zb1.eq_1 ?_;have g:=hBig;refine Qa ?_;intros;by_cases j:var=0<;>(refine Qa ?_;intros)
 case neg=>exact bxO (by unfold zA;exact lb)
 by_cases k:width=0<;>(refine Qa ?_;intros)
 case neg=>exact bxO (by unfold zA;exact lb)
 by_cases m:c=0<;>(refine Qa ?_;intros)
 case neg=>exact bxO (by unfold zA;exact lb)
 by_cases n:next=0<;>(refine Qa ?_;intros)
 case neg=>exact bxO (by unfold zA;exact lb)
 by_cases o:b=0<;>(refine Qa ?_;intros)
 case neg=>exact bxO (by unfold zA;exact lb)
 exact bxO (by unfold zA;exact lb)
theorem zz8(op var width next b c)(e)(d)(h:op=10):zo Z9 zbo [.agg [.int .i64 op,.int .i64 var,.int .i64 width,.int .i64 next,.int .i64 b,.int .u32 c,encL 5 encX e,za d]] (·=.bool (zA op var width next b c d.length)):=by
 refine fn_x zcE rfl ?_;refine dcU zb1.eq_1 ?_;have g:=hBig;refine Qa ?_;intros;by_cases j:var=0<;>(refine Qa ?_;intros)
 case neg=>exact bxO (by unfold zA;exact lb)
 by_cases k:width=0<;>(refine Qa ?_;intros)
 case neg=>exact bxO (by unfold zA;exact lb)
 by_cases m:c=0<;>(refine Qa ?_;intros)
 case neg=>exact bxO (by unfold zA;exact lb)
 by_cases n:next=0<;>(refine Qa ?_;intros)
 case neg=>exact bxO (by unfold zA;exact lb)
 by_cases o:b=0<;>(refine Qa ?_;intros)
 case neg=>exact bxO (by unfold zA;exact lb)
 exact bxO (by unfold zA;exact lb)
theorem zy7(op var width next b c)(e)(d)(t:1<=op)(u:op<=10):zo Z9 zbo [.agg [.int .i64 op,.int .i64 var,.int .i64 width,.int .i64 next,.int .i64 b,.int .u32 c,encL 5 encX e,za d]] (·=.bool (zA op var width next b c d.length)):=by
 by_cases h:op=1
 .exact zBa op var width next b c e d h
 by_cases j:op=2
 .exact zAo op var width next b c e d j
 by_cases k:op=3
 .exact zBZ op var width next b c e d k
 by_cases m:op=4
 .exact zAH op var width next b c e d m
 by_cases n:op=5
 .exact zAj op var width next b c e d n
 by_cases o:op=6
 .exact zCc op var width next b c e d o
 by_cases p:op=7
 .exact zBD op var width next b c e d p
 by_cases q:op=8
 .exact zA2 op var width next b c e d q
 by_cases s:op=9
 .exact zBz op var width next b c e d s
 by_cases g:op=10
 .exact zz8 op var width next b c e d g
 omega
def zku:List Ex->Int
 |[]=>0
 |x::l=>if zji x≠0 then zji x else zku l
theorem zug{l:List Ex}{i:Nat}(h:i<l.length):zku (l.drop i)=if zji l[i]≠0 then zji l[i]else zku (l.drop (i+1)):=by rw[We h,zku]
def zsv(op var b next c d:Int)(e:List Ex)(g:List Int):Int :=
 if (op<1\/10<op)\/zal op≠e.length then 2 else if zku e≠0 then zku e else if zA op var b next c d g.length=true then 0 else 2
theorem Qg{p q:Prop}(k:q)(h:Im q p:=by(repeat first|simp(disch:=try exact dis1) only[evD,Nat.reduceBEq,Nat.reduceAdd,Nat.reduceLeDiff,dT,dF,fldP,za,zD]|((with_reducible apply Im.i);intro _)|((with_reducible apply Im.a);omega));exact Im.r):p:=h k
theorem Qi{p q:Prop}(k:q)(h:Im q p:=by(repeat first|simp(disch:=try exact dis1) only[evD,Nat.reduceBEq,Nat.reduceAdd,Nat.reduceLeDiff,fldP,zxn,tab,List.getD_cons_zero,List.getD_cons_succ,za]|((with_reducible apply Im.i);intro _)|((with_reducible apply Im.a);omega));exact Im.r):p:=h k
theorem uf:type_of% @za.eq_1:=@za.eq_1
theorem zsV(op var width next d g)(e)(j):zo Z9 zeO [.agg [.int .i64 op,.int .i64 var,.int .i64 width,.int .i64 next,.int .i64 d,.int .u32 g,encL 5 encX e,za j]] (·=.int .i64 (zsv op var width next d g e j)):=by
 refine fn_x zsO rfl ?_;unfold zmQ zsv;conv in Z8 _ _=>reduce
 have y:=hBig;by_cases o:1<=op;case neg=>rw[if_pos (by omega)];refine Qg ?_;intros;exact izO
 by_cases p:op<=10;case neg=>rw[if_pos (by omega)];refine Qg ?_;intros;exact izO
 refine Gw3 @dF @ua @uf ?_;intros;refine zcG (ze (zzb op o p) rfl) ?_;generalize zal op=n;by_cases x:n=e.length;case neg=>rw[if_pos (by omega)];refine Qg ?_;intros;exact izO
 rw[if_neg (by omega)];refine Gw4 @dT @dF @ua @uf ?_;intros;refine zf (λi:Nat=>([(1,encP 8 [.int .i64 op,.int .i64 var,.int .i64 width,.int .i64 next,.int .i64 d,.int .u32 g,encL 5 encX e,za j]),(3,.int .i64 i)],[])) 0 (λi=>i<=e.length/\zku (e.drop i)=zku e) (λi=>e.length-i) 0 ⟨Wf _,rfl⟩ (Xb rfl fin5) ?_;rintro i ⟨z,b⟩ wf;refine dcU zjt.eq_1 ?_;by_cases q:i<e.length
 .rw[zug q]at b;refine Gw5 @ua @dT (gmp q) @zbl @zba ?_;intros;refine zd (ze (zsB e[i]) (flX rfl)) ?_;by_cases s:zji e[i]=0
  .rw[if_neg (by omega)]at b;refine Gw1 @dF ?_;intros;exact⟨i+1,⟨by omega,b⟩,by omega,Xb rfl fin5⟩
  .rw[if_pos s]at b;rw[<-b,if_pos s];refine Gw2 @dT @zD.eq_1 ?_;intros;exact izO
 rw[Wd (by omega),zku]at b;rw[<-b,if_neg (by omega)];refine Gw2 @ua @dF ?_;intros;refine dcU zjM.eq_1 ?_;refine Qi ?_;intros;refine zd (ze (zxj op var width next d g e j o p) rfl) ?_
 cases m:zL op var width next d g j.length with
 |false=>unfold zL at m;have c:=of_decide_eq_false m;rw[if_neg (by unfold zA;rw[dF (λh=>c h.1)];simp)];refine Qg ?_;intros;exact izO
 |true=>
  unfold zL at m;have c:=of_decide_eq_true m;refine Qg ?_;intros;refine zd (ze (zsj var) rfl) ?_;unfold zwL;by_cases k:0<=var/\var<65536;case neg=>rw[if_neg (by unfold zA;rw[dF (λh=>k h.2.1)];simp)];refine Qg ?_;intros;exact izO
  refine Qg ?_;intros;by_cases u:op=2
  ·(refine Qg ?_;intros);by_cases A:width=1
   .rw[if_pos (by unfold zA;exact dT ⟨c,k,by omega,by omega⟩)];refine Qg ?_;intros;exact izO
   refine Qg ?_;intros;by_cases B:width=2
   .rw[if_pos (by unfold zA;exact dT ⟨c,k,by omega,by omega⟩)];refine Qg ?_;intros;exact izO
   refine Qg ?_;intros;by_cases C:width=4
   .rw[if_pos (by unfold zA;exact dT ⟨c,k,by omega,by omega⟩)];refine Qg ?_;intros;exact izO
   rw[if_neg (by unfold zA;rw[dF (λh=>by have:=h.2.2.1 u;omega)];simp)];refine Qg ?_;intros;exact izO
  refine Qg ?_;intros;by_cases t:op=8
  ·(refine Qg ?_;intros);by_cases v:1<=j.length;case neg=>rw[if_neg (by unfold zA;rw[dF (λh=>by have:=h.2.2.2 t;omega)];simp)];refine Qg ?_;intros;exact izO
   refine Qg ?_;intros;by_cases w:j.length<=64;case neg=>rw[if_neg (by unfold zA;rw[dF (λh=>by have:=h.2.2.2 t;omega)];simp)];refine Qg ?_;intros;exact izO
   rw[if_pos (by unfold zA;exact dT ⟨c,k,by omega,by omega⟩)];refine Qg ?_;intros;exact izO
  rw[if_pos (by unfold zA;exact dT ⟨c,k,by omega,by omega⟩)];refine Qg ?_;intros;exact izO
theorem zAV{op}:zal op<0↔(op<1\/10<op):=by
 unfold zal;constructor
 .intro h
  repeat' split at h
  all_goals omega
 .intro h;rw[if_neg (by omega),if_neg (by omega),if_neg (by omega)];omega
theorem zto(op var b next d j)(e)(k):zo Z9 zfC [.agg [.int .i64 op,.int .i64 var,.int .i64 b,.int .i64 next,.int .i64 d,.int .u32 j,encL 5 encX e,za k]] (·=.int .i64 (zsv op var b next d j e k)):=by
 refine fn_x ztc rfl ?_;unfold znL zsv;conv in Z8 _ _=>reduce
 have t:=hBig;refine Gw5 @dT @dF @ua @uf @zbr.eq_1 ?_;intros;refine zd (ze (zrr op) rfl) ?_;have g:=zAV (op:=op);generalize zal op=n at g⊢;by_cases m:n<0
 .rw[if_pos (.inl (g.1 m))];refine Gw5 @dT @dF @ua @uf @zbr.eq_1 ?_;intros;exact izO
 have s:¬(op<1\/10<op):=λh=>m (g.2 h)
 refine Gw5 @dT @dF @ua @uf @zbr.eq_1 ?_;intros;by_cases q:n=e.length;case neg=>rw[if_pos (.inr q)];refine Gw5 @dT @dF @ua @uf @zbr.eq_1 ?_;intros;exact izO
 rw[if_neg (by omega)];refine Gw5 @dT @dF @ua @uf @zbr.eq_1 ?_;intros;refine zf (λi:Nat=>([(1,encP 8 [.int .i64 op,.int .i64 var,.int .i64 b,.int .i64 next,.int .i64 d,.int .u32 j,encL 5 encX e,za k]),(20,encL 5 encX e),(21,.int .i64 e.length),(22,.int .i64 i)],[])) 0 (λi=>i<=e.length/\zku (e.drop i)=zku e) (λi=>e.length-i) 0 ⟨Wf _,rfl⟩ (Xb rfl fin5) ?_;rintro i ⟨u,c⟩ wf;refine dcU zky.eq_1 ?_;by_cases o:i<e.length
 .rw[zug o]at c;refine Gw5 @ua @dT (gmp o) @zbl @zba ?_;intros;refine zd (ze (zgQ e[i]) (flX rfl)) ?_;by_cases p:zji e[i]=0
  .rw[if_neg (by omega)]at c;refine Gw1 @dF ?_;intros;exact⟨i+1,⟨by omega,c⟩,by omega,(Ent.tab [] [] rfl Qk Qk)⟩
  .rw[if_pos p]at c;rw[<-c,if_pos p];refine Gw2 @dT @zbr.eq_1 ?_;intros;exact izO
 rw[Wd (by omega),zku]at c;rw[<-c,if_neg (by omega)];refine Gw2 @ua @dF ?_;intros;refine dcU zkr.eq_1 ?_;refine Qi ?_;intros;refine zd (ze (zy7 op var b next d j e k (by omega) (by omega)) rfl) ?_
 cases zA op var b next d j k.length with
 |false=>refine Gw5 @dT @dF @ua @uf @zbr.eq_1 ?_;intros;exact izO
 |true=>refine Gw5 @dT @dF @ua @uf @zbr.eq_1 ?_;intros;exact izO
structure St where
 op:Int
 var:Int
 width:Int
 next:Int
 els:Int
 tgt:Int
 e:List Ex
 cases:List Int
def St.cells(s:St):List AV:=[.int .i64 s.op,.int .i64 s.var,.int .i64 s.width,.int .i64 s.next,.int .i64 s.els,.int .u32 s.tgt,encL 5 encX s.e,za s.cases]
structure Bl where
 addr:Int
 stmts:List St
def Bl.cells(b:Bl):List AV:=[.int .u32 b.addr,encL 8 St.cells b.stmts]
structure G where
 addr:Int
 blocks:List Bl
def G.cells(g:G):List AV:=[.int .u32 g.addr,encL 2 Bl.cells g.blocks]
theorem St.len(s:St):s.cells.length=8:=rfl
theorem St.flat(s:St):zI s.cells=true:=rfl
theorem St.eight(s:St):[s.cells.getD 0 .undef,s.cells.getD 1 .undef,s.cells.getD 2 .undef,s.cells.getD 3 .undef,s.cells.getD 4 .undef,s.cells.getD 5 .undef,s.cells.getD 6 .undef,s.cells.getD 7 .undef]=s.cells:=rfl
theorem Bl.len(b:Bl):b.cells.length=2:=rfl
theorem Bl.two(b:Bl):[b.cells.getD 0 .undef,b.cells.getD 1 .undef]=b.cells:=rfl
theorem G.two(g:G):[g.cells.getD 0 .undef,g.cells.getD 1 .undef]=g.cells:=rfl
def zp6(s:St):Bool:=decide (6<=s.op/\s.op<=10)
def zfS(s:St):List Int:=if s.op=6 then[s.next]else if s.op=7 then[s.next,s.els]else if s.op=8 then s.cases else[]
def St.check(s:St):Int:=zsv s.op s.var s.width s.next s.els s.tgt s.e s.cases
theorem zsS(s:St):zo Z9 zeO [.agg s.cells] (·=.int .i64 s.check):=zsV _ _ _ _ _ _ _ _
theorem ztz(s:St):zo Z9 zfC [.agg s.cells] (·=.int .i64 s.check):=zto _ _ _ _ _ _ _ _
theorem uu:type_of% @St.cells.eq_1:=@St.cells.eq_1
theorem zBn(s):zo Z9 zob [.agg s.cells] (·=.bool (zp6 s)):=by
 refine fn_x zAO rfl ?_;refine dcU zuD.eq_1 ?_;have j:=hBig;obtain⟨op,var,b,next,c,d,e,g⟩:=s;unfold zp6;by_cases h:6<=op
 ·(refine Gw5 @dT @ua @uf @uu @zo9.eq_1 ?_;intros);exact bxO (decide_eq_decide.2 (by omega))
 ·(refine Gw5 @dF @ua @uf @uu @zo9.eq_1 ?_;intros);exact bzO
theorem zmu(s):zo Z9 zdO [.agg s.cells] (·=.bool (zp6 s)):=by
 refine fn_x zsH rfl ?_;refine dcU zmr.eq_1 ?_;have j:=hBig;obtain⟨op,var,b,next,c,d,e,g⟩:=s;unfold zp6;by_cases h:6<=op
 ·(refine Gw5 @dT @ua @uf @uu @zig.eq_1 ?_;intros);exact bxO (decide_eq_decide.2 (by omega))
 ·(refine Gw5 @dF @ua @uf @uu @zig.eq_1 ?_;intros);exact bzO
theorem zu5(s):zo Z9 zi2 [.agg s.cells] (·=za (zfS s)):=by
 refine fn_x zu9 rfl ?_;refine dcU zoR.eq_1 ?_;have m:=hBig;obtain⟨op,var,c,next,b,j,e,k⟩:=s;unfold zfS;simp only;by_cases d:op=6
 .rw[if_pos d];refine Gw6 @dT @dF @ua @uf @uu @zfN.eq_1 ?_;intros;exact⟨_,zb3 (l:=[next]) trivial rfl (by simp only[List.length_singleton];omega),rfl⟩
 rw[if_neg d];by_cases g:op=7
 .rw[if_pos g];refine Gw6 @dT @dF @ua @uf @uu @zfN.eq_1 ?_;intros;exact⟨_,zb3 (l:=[next,b]) trivial rfl (by simp only[List.length_cons,List.length_nil];omega),rfl⟩
 rw[if_neg g];by_cases h:op=8
 .rw[if_pos h];refine Gw6 @dT @dF @ua @uf @uu @zfN.eq_1 ?_;intros;exact⟨_,zV rfl,rfl⟩
 rw[if_neg h];refine Gw6 @dT @dF @ua @uf @uu @zfN.eq_1 ?_;intros;exact⟨_,zb3 (l:=[]) trivial rfl (by simp only[List.length_nil];omega),rfl⟩
end Go.Ab
namespace Go.Ab
open Go.RowKit Go.Proofs Go.Proofs.YtmlhipilbnjhiaaGreat
section
variable {HH:Type}{enc:TypeId×Value->HH}{w:World}{base:Nat}{spare:Nat->Bool}{held:Bool}{L:Nat->Prop} (hL:∀b,¬L b)
include hL
theorem zLt{p:Nat}{o:List Value}{y:DataW HH×List MemPlace}(h:Xa enc Z9 w base spare held p 54 o=some y):∃s:St,ElOk w L o s.cells:=by
 have C:Tryz.prog.cellsOf 60=5:=by kernel_rfl
 obtain⟨d,n,rfl,rfl,m,D,k⟩:=Xc Tryz.underlying54 h;have P:Tryz.prog.cellsOf 54=8:=by kernel_rfl
 have e:Tryz.prog.cellsOf 3=1:=by kernel_rfl
 have q:Tryz.prog.cellsOf 22=1:=by kernel_rfl
 have t:Tryz.prog.cellsOf 28=1:=by kernel_rfl
 have u:Tryz.prog.cellsOf 36=1:=by kernel_rfl
 rw[P]at m;have c:∀i,i<8->d[i]?=some (d.getD i (.nil,[])):=λi R=>by rw[Wa,Wg (by rw[D];exact R)];rfl
 match o,m with
 |[c0,c1,c2,c3,c4,c5,c6,c7],_=>
  have v:Xa enc Z9 w base spare held n 3 (([c0,c1,c2,c3,c4,c5,c6,c7].drop 0).take (Tryz.prog.cellsOf 3))=some (d.getD 0 (.nil,[])):=(k 0 _ rfl).trans (c 0 (by decide));rw[e]at v;replace v:Xa enc Z9 w base spare held n 3 [c0]=some (d.getD 0 (.nil,[])):=v;have x:Xa enc Z9 w base spare held n 3 (([c0,c1,c2,c3,c4,c5,c6,c7].drop 1).take (Tryz.prog.cellsOf 3))=some (d.getD 1 (.nil,[])):=(k 1 _ rfl).trans (c 1 (by decide));rw[e]at x;replace x:Xa enc Z9 w base spare held n 3 [c1]=some (d.getD 1 (.nil,[])):=x;have z:Xa enc Z9 w base spare held n 3 (([c0,c1,c2,c3,c4,c5,c6,c7].drop 2).take (Tryz.prog.cellsOf 3))=some (d.getD 2 (.nil,[])):=(k 2 _ rfl).trans (c 2 (by decide));rw[e]at z;replace z:Xa enc Z9 w base spare held n 3 [c2]=some (d.getD 2 (.nil,[])):=z;have A:Xa enc Z9 w base spare held n 3 (([c0,c1,c2,c3,c4,c5,c6,c7].drop 3).take (Tryz.prog.cellsOf 3))=some (d.getD 3 (.nil,[])):=(k 3 _ rfl).trans (c 3 (by decide));rw[e]at A;replace A:Xa enc Z9 w base spare held n 3 [c3]=some (d.getD 3 (.nil,[])):=A;have B:Xa enc Z9 w base spare held n 3 (([c0,c1,c2,c3,c4,c5,c6,c7].drop 4).take (Tryz.prog.cellsOf 3))=some (d.getD 4 (.nil,[])):=(k 4 _ rfl).trans (c 4 (by decide));rw[e]at B;replace B:Xa enc Z9 w base spare held n 3 [c4]=some (d.getD 4 (.nil,[])):=B;have f5:Xa enc Z9 w base spare held n 22 (([c0,c1,c2,c3,c4,c5,c6,c7].drop 5).take (Tryz.prog.cellsOf 22))=some (d.getD 5 (.nil,[])):=(k 5 _ rfl).trans (c 5 (by decide));rw[q]at f5;replace f5:Xa enc Z9 w base spare held n 22 [c5]=some (d.getD 5 (.nil,[])):=f5;have f6:Xa enc Z9 w base spare held n 28 (([c0,c1,c2,c3,c4,c5,c6,c7].drop 6).take (Tryz.prog.cellsOf 28))=some (d.getD 6 (.nil,[])):=(k 6 _ rfl).trans (c 6 (by decide));rw[t]at f6;replace f6:Xa enc Z9 w base spare held n 28 [c6]=some (d.getD 6 (.nil,[])):=f6;have f7:Xa enc Z9 w base spare held n 36 (([c0,c1,c2,c3,c4,c5,c6,c7].drop 7).take (Tryz.prog.cellsOf 36))=some (d.getD 7 (.nil,[])):=(k 7 _ rfl).trans (c 7 (by decide));rw[u]at f7;replace f7:Xa enc Z9 w base spare held n 36 [c7]=some (d.getD 7 (.nil,[])):=f7;obtain⟨V,F,w0⟩:=zll Tryz.underlying3 v;obtain⟨W,H,w1⟩:=zll Tryz.underlying3 x;obtain⟨X,I,w2⟩:=zll Tryz.underlying3 z;obtain⟨Y,J,w3⟩:=zll Tryz.underlying3 A;obtain⟨Z,K,w4⟩:=zll Tryz.underlying3 B;obtain⟨n5,M,w5⟩:=zll Tryz.underlying22 f5;obtain⟨T,v6,N,o6,w6⟩:=zyi (L:=L) (α:=Ex) (cells:=encX) hL Tryz.underlying28 C (λg Q o y h _=>zMb hL g g (Nat.le_refl _) o y h) f6;obtain⟨U,v7,O,o7,w7⟩:=zNE Tryz.underlying36 Tryz.underlying3 e hL f7;cases F;cases H;cases I;cases J;cases K;cases M;cases N;cases O;refine⟨⟨V,W,X,Y,Z,n5,T,U⟩,λj S=>?_⟩
  match j with
  |0=>exact⟨.int _ _ _ w0,rfl⟩
  |1=>exact⟨.int _ _ _ w1,rfl⟩
  |2=>exact⟨.int _ _ _ w2,rfl⟩
  |3=>exact⟨.int _ _ _ w3,rfl⟩
  |4=>exact⟨.int _ _ _ w4,rfl⟩
  |5=>exact⟨.int _ _ _ w5,rfl⟩
  |6=>exact⟨w6 _,o6⟩
  |7=>exact⟨w7 _,o7⟩
  |j+8=>exact absurd S (by simp)
theorem zJ5{g:Nat}{q:List Value}{y:DataW HH×List MemPlace}(h:Xa enc Z9 w base spare held g 57 q=some y):∃b:Bl,ElOk w L q b.cells:=by
 have s:Tryz.prog.cellsOf 54=8:=by kernel_rfl
 obtain⟨e,n,rfl,rfl,d,t,u⟩:=Xc Tryz.underlying57 h;have z:Tryz.prog.cellsOf 57=2:=by kernel_rfl
 have k:Tryz.prog.cellsOf 22=1:=by kernel_rfl
 have m:Tryz.prog.cellsOf 55=1:=by kernel_rfl
 rw[z]at d;have c:∀i,i<2->e[i]?=some (e.getD i (.nil,[])):=λi A=>by rw[Wa,Wg (by rw[t];exact A)];rfl
 match q,d with
 |[c0,c1],_=>
  have o:Xa enc Z9 w base spare held n 22 (([c0,c1].drop 0).take (Tryz.prog.cellsOf 22))=some (e.getD 0 (.nil,[])):=(u 0 _ rfl).trans (c 0 (by decide));rw[k]at o;replace o:Xa enc Z9 w base spare held n 22 [c0]=some (e.getD 0 (.nil,[])):=o;have p:Xa enc Z9 w base spare held n 55 (([c0,c1].drop 1).take (Tryz.prog.cellsOf 55))=some (e.getD 1 (.nil,[])):=(u 1 _ rfl).trans (c 1 (by decide));rw[m]at p;replace p:Xa enc Z9 w base spare held n 55 [c1]=some (e.getD 1 (.nil,[])):=p;obtain⟨D,v,H⟩:=zll Tryz.underlying22 o;obtain⟨C,v1,x,F,I⟩:=zwB (α:=St) (cells:=St.cells) (L:=L) Tryz.underlying55 s hL (λ_ _ _ h _=>zLt hL h) p;cases v;cases x;refine⟨⟨D,C⟩,λj B=>?_⟩
  match j with
  |0=>exact⟨.int _ _ _ H,rfl⟩
  |1=>exact⟨I _,F⟩
  |j+2=>exact absurd B (by simp)
theorem zJY{m:Nat}{k:List Value}{y:DataW HH×List MemPlace}(h:Xa enc Z9 w base spare held m 25 k=some y):∃g:G,k.length=2/\ElOk w L k g.cells/\∀j,j<2->∀ι,VR w L ι (k.getD j undef) (g.cells.getD j .undef):=by
 have t:Tryz.prog.cellsOf 57=2:=by kernel_rfl
 obtain⟨e,n,rfl,rfl,d,u,v⟩:=Xc Tryz.underlying25 h;have D:Tryz.prog.cellsOf 25=2:=by kernel_rfl
 have o:Tryz.prog.cellsOf 22=1:=by kernel_rfl
 have p:Tryz.prog.cellsOf 23=1:=by kernel_rfl
 rw[D]at d;have c:∀i,i<2->e[i]?=some (e.getD i (.nil,[])):=λi F=>by rw[Wa,Wg (by rw[u];exact F)];rfl
 match k,d with
 |[c0,c1],_=>
  have q:Xa enc Z9 w base spare held n 22 (([c0,c1].drop 0).take (Tryz.prog.cellsOf 22))=some (e.getD 0 (.nil,[])):=(v 0 _ rfl).trans (c 0 (by decide));rw[o]at q;replace q:Xa enc Z9 w base spare held n 22 [c0]=some (e.getD 0 (.nil,[])):=q;have s:Xa enc Z9 w base spare held n 23 (([c0,c1].drop 1).take (Tryz.prog.cellsOf 23))=some (e.getD 1 (.nil,[])):=(v 1 _ rfl).trans (c 1 (by decide));rw[p]at s;replace s:Xa enc Z9 w base spare held n 23 [c1]=some (e.getD 1 (.nil,[])):=s;obtain⟨I,B,z⟩:=zll Tryz.underlying22 q;obtain⟨H,v1,C,J,A⟩:=zwB (α:=Bl) (cells:=Bl.cells) (L:=L) Tryz.underlying23 t hL (λ_ _ _ h _=>zJ5 hL h) s;cases B;cases C;refine⟨⟨I,H⟩,rfl,λj x=>?_,λj x ι=>?_⟩
  .match j with
   |0=>exact⟨.int _ _ _ z,rfl⟩
   |1=>exact⟨A _,J⟩
   |j+2=>exact absurd x (by simp)
  .match j with
   |0=>exact .int _ _ _ z
   |1=>exact A _
   |j+2=>omega
theorem open_graph{v:Value}{d:DataW HH}{s:List MemPlace}(m:Value.okWide Z9 w .any base 25 v){p:Nat}(h:DataW.Trod enc Z9 w p spare held 25 v d s):∃g:G,True/\∀ι,VR w L ι v (.agg g.cells):=by
 obtain⟨k,y⟩:=h;unfold Value.okWide at m;rw[Tryz.underlying25]at m;simp only at m;obtain⟨c,rfl,_,_⟩:=m;have n:Xa enc Z9 w p spare held k 25 c.toList=some (d,s):=y;obtain⟨g,q,t,u⟩:=zJY hL n
 refine⟨g,trivial,λι=>.agg ι c _ (by
  have:c.size=2:=by simpa using q
  rw[this];rfl) (λi v e=>?_) (λi v a e x=>?_)⟩
 .have j:i<c.size:=by
   rcases Nat.lt_or_ge i c.size with h|h
   .exact h
   .rw[Wh h]at e;cases e
  have:=(t i (by simpa using j)).2;rw[Wa,Wi,e]at this;exact this
 .have j:i<c.size:=by
   rcases Nat.lt_or_ge i c.size with h|h
   .exact h
   .rw[Wh h]at e;cases e
  have o:i<2:=by rw[<-q];simpa using j
  have:=u i o ι;rw[Wa,Wi,e,Wa,x]at this;exact this
end
end Go.Ab
namespace Go.Ab
open Go.RowKit Go.Proofs
def zlm:ACode:=Z8 0xacc7310ac2100dc0602100000000000cc70c211819d8d1401dd813c0101001115c070011012140a00600a00600b11400000ec610c0122cea070011012140a0060ec271300bc310721102bc1403133532701430ccdc36bc2113 []
def zk0:ACode:=Z8 0x9c003c45103c21006c060e221 []
def zle:ACode:=Z8 0x19096255100000150108c23130004c4ac008c0421106c4c14020051315307014305c6c364c2113 [zlm,zk0]
def zk9:ACode:=.seq (.region [(oM 45 3),(oM 2 45)] [3,13,14,15,45]) (.ret)
def zo0:ACode:=Z8 0x1909605a1200000150116afa04220c241330008410321141cc1ac015011021138251310216c011c0213 [zle,zk9]
attribute[irreducible]zlm zk0 zle zk9
def zoT:List ARet:=[.tmp 2]
theorem zvi:z6 Z9 zeZ (qRo [1])=some (zo0.strip,zoT,46):=by kernel_rfl
def zhP:ACode:=Z8 0x6ec93101d21004d06fd2210000000ec9810521cd4c23c010100002125c01112102000029c00c009008007114005d3128d369fa09000c00605d2413002d3109211022d14031335327014303d4d362d2113 []
def zeU:ACode:=Z8 0x2c008c65105c21008c060e221 []
def zhO:ACode:=Z8 0x19096256c7200000150a0031301714000ac410c01101214090070ac251330006c4cc00ac0621108c6c14020051315307014307c8c366c2113 [zhP,zeU]
def zhZ:ACode:=.seq (.region [(oM 45 5),(oM 2 45)] [3,4,5,15,16,17,45]) (.ret)
def zkE:ACode:=Z8 0x19096050c12000001501144fa04222c24133026c011300c21042112afa04220c23130a210321118fa0222a231310226c011c0213 [zhO,zhZ]
attribute[irreducible]zhP zeU zhO zhZ
def zkz:List ARet:=[.tmp 2]
theorem zpW:z6 Z9 ze0 (qRo [1])=some (zkE.strip,zkz,46):=by kernel_rfl
def zc2:ACode:=Z8 0x1a0441082100b066c22108070130071042800213140000b5112cbc012201224080030040b261309210522002131530701430ab3692113 []
def zc0:ACode:=.seq (.region [(oK 4 (-1))] [0,1,7,8]) (.ret)
def zdQ:ACode:=Z8 0x190960561000001503062313341000042113 [zc2,zc0]
attribute[irreducible]zc2 zc0
def zbH:List ARet:=[.tmp 4]
theorem zhu:z6 Z9 za8 (qRo [])=some (zdQ.strip,zbH,19):=by kernel_rfl
def zcX:ACode:=Z8 0x80003006104200016601226bfa04003005134110042113 []
def zcW:List ARet:=[.tmp 4]
theorem zgk:z6 Z9 zaP (qRo [])=some (zcX.strip,zcW,9):=by kernel_rfl
def znM:ACode:=Z8 0x80001016103212760410110100221274c0513202100017c22213 []
def znU:List ARet:=[.tmp 3]
theorem zu0:z6 Z9 zhE (qRo [])=some (znM.strip,znU,8):=by kernel_rfl
def zmJ:ACode:=Z8 0x56c0c310cc2100fc069d2210000006c0c710a217d813c0101001115c01100003c21274c01c006114000d312760400110100121274c0d241300dc32d12810000290c212202dc2404131530701430ecfc36dc2113 []
def zmK:ACode:=Z8 0x0000006e1c710a2107f813c0110121404c00b001c00710001f3201234a4c14c00a0031314000000008e9101fe70113121434c030c035f610010c012210494c04c00a08e2a1300003e510a21106e1cc010011601501c001c03e2613000000cd7101c211010e14010011601501c001c0071335270140ad200015601501c0ad23133 []
def zmx:ACode:=Z8 0x800000ee2c71062112f10f311c4c01505c001505c00100df27130083e200079102c2116cfa0116dfa0a00af2413 []
def zmH:ACode:=.seq (.block 2 (.loop zmK)) (zmx)
def zqf:ACode:=Z8 0x1909605210000015050ac23133016c011304c331092112afa06228c231306c21082116afa06226c2313003c31072200201234a4c1400014c3c251350216c6211c32213 [zmJ,zmH]
attribute[irreducible]zmJ zmH
def zqD:List ARet:=[.tmp 6]
theorem zw3:z6 Z9 zkf (qRo [3])=some (zqf.strip,zqD,79):=by kernel_rfl
def zlh:ACode:=Z8 0x46c93109c2100cc065d221000006c96105214d813c0101001115c00c00800511400dc310c0122cea00c0040dc241300ac310921102ac1403133532701430bccc36ac2113 []
def zlg:ACode:=Z8 0x0c007c4100c21003c066d221 []
def zk6:ACode:=Z8 0x1909625008740000015011012140a00304c2613001c3107211021c14031315307014302c3c361c2113 [zlh,zlg]
def zlw:ACode:=Z8 0x803d53104211eea08003130ac00800711dea0807d2213 []
def zoM:ACode:=Z8 0x190960500000015040a23133016c01134116c42113 [zk6,zlw]
attribute[irreducible]zlh zlg zk6 zlw
def zo1:List ARet:=[.tmp 4]
theorem zvq:z6 Z9 zgt (qRo [])=some (zoM.strip,zo1,39):=by kernel_rfl
def zcp:ACode:=Z8 0x800030510221204f43c030000044004045c524130830246c221131431100ec030021332146c22113 []
def zay:List ARet:=[.tmp 2]
theorem zfl:z6 Z9 zaE (qRo [])=some (zcp.strip,zay,8):=by kernel_rfl
def zmC:ACode:=Z8 0x1fc6310a21001c068d22100fc631052107d2219d4000000000000000000778c0101ac702120dc7bd6210d3632153211321113321244328032303215321132a1130e6210320001363280bd621002122ceb0240021102a1133c2223000b45ca4813c062004400497214201cb44020061315307014300c1c36b2113 []
def zmw:ACode:=.seq (.region [(oM 37 5),(oM 4 37)] [0,1,5,8,9,10,37]) (.ret)
def zqa:ACode:=Z8 0x19096050000001503082313309000011341000042113 [zmC,zmw]
attribute[irreducible]zmC zmw
def zqH:List ARet:=[.tmp 4]
theorem zwM:z6 Z9 zhT (qRo [])=some (zqa.strip,zqH,38):=by kernel_rfl
def zmT:ACode:=.seq (.region [(oB 19 .lss 18 17)] []) (.seq (.cond (.t 19) (.skip) (.exit 0)) (.seq (.block 1 (.seq (.region [(oI 20 1 16 18),(oL 21 20),(oN 7 (.alloc [.int .i64 0])),(oS 1 7 21)] [19,20,21]) (.seq (.region [(oM 22 3),(oN 23 (.mkfn (.func zhE) [(.t 7)])),(oN 24 (.call zaP [(.t 22),(.t 23)]))] [22,23]) (.cond (.t 24) (.seq (.region [(oA 25 2 1),(oL 26 7),(oM 27 3),(oN 28 (.call zkf [(.t 25),(.t 26),(.t 27)])),(oM 8 28)] [24,25,26,27,28]) (.draw (.step (oM 29 5) (.step (oM 31 8) (.step (oM 32 4) (.step (oM 33 8) (.alt (oL 30 7) (.alt (oN 34 (.call zgt [(.t 32),(.t 33)])) (.step (oN 35 (.build [.int .i64 0,.nilsl,.nilsl,.int .i64 0] [(0,1,(.t 30)),(1,1,(.t 31)),(2,1,(.t 34)),(3,1,(.c (.int .i64 (-1))))])) (.alt (oN 36 (.buildSl 4 1 [.int .i64 0,.nilsl,.nilsl,.int .i64 0] [(0,(.t 35))])) (.alt (oN 37 (.append 4 64 (.t 29) (.t 36))) (.step (oM 5 37) (.done)) (.stop)) (.stop))) (.stop)) (.alt (oN 34 (.call zgt [(.t 32),(.t 33)])) (.alt (oL 30 7) (.step (oN 35 (.build [.int .i64 0,.nilsl,.nilsl,.int .i64 0] [(0,1,(.t 30)),(1,1,(.t 31)),(2,1,(.t 34)),(3,1,(.c (.int .i64 (-1))))])) (.alt (oN 36 (.buildSl 4 1 [.int .i64 0,.nilsl,.nilsl,.int .i64 0] [(0,(.t 35))])) (.alt (oN 37 (.append 4 64 (.t 29) (.t 36))) (.step (oM 5 37) (.done)) (.stop)) (.stop))) (.stop)) (.stop))))))) [7,8,29,30,31,32,33,34,35,36,37])) (.skip))))) (.region [(oC 38 .add 18 1),(oM 18 38)] [7,24,38])))
def zmI:ACode:=Z8 0x01f110dd21000e060210000000000bd091c01f118111330ae9e4401be24afa011011030124400c008001c000c008000c10002e440118111130124400c00102e251300e210a21149fa0800e23130ed210922002133532701430fd0e36ed2113 []
def zmV:ACode:=.seq (.region [(oM 62 5),(oM 2 62)] [5,40,41,62]) (.ret)
def zmO:ACode:=Z8 0x19096258c00b01170000015080bd23133 [zmI,zmV]
def zqK:ACode:=Z8 0x19096053c1000001501119fa04223c24133046c011301c210421144fa04221c23130b210321143fa0222b231310246c011c0213 [zmT,zmO]
attribute[irreducible]zmT zmI zmV zmO
def zqd:List ARet:=[.tmp 2]
theorem zw9:z6 Z9 zgc (qRoL [1] [(9,[0,1,2,3,4,6,7,8,9,10,11,12,13,14,15,16,17,18,19,20,21,22,23,24,25,26,27,28,29,30,31,32,33,34,35,36,37,38,39,40,41,42,43,44,45,46,47,48,49,50,51,52,53,54,55,56,57,58,59,60,61,62,63,64,65,66,67,68,69,70,71,72,73,74,75,76,77,78,79,80,81,82,83,84,85,86,87,88,89,90,91,92,93,94,95,96,97,98,99,100,101,102,103,104,105,106,107,108,109,110,111,112,113,114,115,116,117,118,119,120,121,122,123,124,125,126,127,128,129,130,131,132,133,134,135,136,137,138,139,140,141,142,143,144,145,146,147,148,149])])=some (zqK.strip,zqd,63):=by kernel_rfl
def zkA:List St->Bool
 |[]=>true
 |x::l=>(zp6 x == l.isEmpty)&&zkA l
def inN(n:Int)(t:Int):Bool:=decide (0<=t/\t<n)
def zaM(l:List St):List Int:=match l.getLast? with
 |none=>[]
 |some s=>zfS s
def zeR(l:List St)(n:Int):Bool := !l.isEmpty&&(zkA l&&(zaM l).all (inN n))
theorem zBk{l:List St}{i:Nat}(h:i<l.length):zkA (l.drop i)=((zp6 l[i] == decide ((i:Int)=(l.length:Int)-1))&&zkA (l.drop (i+1))):=by
 rw[We h,zkA];congr 2;by_cases b:i+1<l.length
 .rw[We b,decide_eq_false (by omega)];rfl
 .rw[Wd (by omega),decide_eq_true (by omega)];rfl
theorem zJ7{l:List Int}{i:Nat}{p:Int->Bool}(h:i<l.length):(l.drop i).all p=(p l[i]&&(l.drop (i+1)).all p):=by rw[We h,List.all_cons]
theorem znA{l}(h:l.length-1<l.length):zaM l=zfS l[l.length-1]:=by unfold zaM;rw[List.getLast?_eq_getElem?,Wg h]
theorem ztT(b:Bl)(n:Int):zo Z9 zhH [.agg b.cells,.int .i64 n] (·=.bool (zeR b.stmts n)):=by
 refine fn_x ztp rfl ?_;refine dcU znf.eq_1 ?_;have w:=hBig;obtain⟨p,l⟩:=b;simp only[Bl.cells,zeR];by_cases j:l.length=0
 .obtain rfl:l=[]:=List.eq_nil_of_length_eq_zero j;refine Gw4 @ua @dT @ug @zcQ.eq_1 ?_;intros;exact bzO
 have u:l.isEmpty=false:=by cases l with|nil=>simp at j|cons a l=>rfl
 rw[u];refine Gw2 @ua @dF ?_;intros;refine zf (λi:Nat=>([(1,.int .i64 n),(2,encP 2 [.int .u32 p,encL 8 St.cells l]),(5,.int .i64 i)],[])) 0 (λi=>i<=l.length/\zkA (l.drop i)=zkA l) (λi=>l.length-i) 0 ⟨Wf _,rfl⟩ (Xb rfl fin5) ?_;rintro i ⟨v,c⟩ wf;refine dcU zki.eq_1 ?_;by_cases e:i<l.length
 .rw[zBk e]at c;refine Gw5 @ua @dT (gmp e) @St.len @St.eight ?_;intros;refine zcG (ze (zBn l[i]) rfl) ?_;generalize zp6 l[i]=q at c;by_cases k:(i:Int)=(l.length:Int)-1
  .rw[decide_eq_true k]at c
   cases q with
   |true=>refine Gw2 @ua @dT ?_;intros;exact⟨i+1,⟨by omega,by simpa using c⟩,by omega,Xb rfl fin5⟩
   |false=>
    replace c:zkA l=false:=by rw[<-c];rfl
    rw[c];refine Gw3 @ua @dT @zcQ.eq_1 ?_;intros;exact bzO
  .rw[decide_eq_false k]at c
   cases q with
   |false=>refine Gw2 @ua @dF ?_;intros;exact⟨i+1,⟨by omega,by simpa using c⟩,by omega,Xb rfl fin5⟩
   |true=>
    replace c:zkA l=false:=by rw[<-c];rfl
    rw[c];refine Gw3 @ua @dF @zcQ.eq_1 ?_;intros;exact bzO
 rw[Wd (by omega),zkA]at c;rw[<-c];have d:l.length-1<l.length:=by omega
 have g:(((l.length:Nat):Int)-1).toNat=l.length-1:=by omega
 rw[znA d];refine Gw2 @ua @dF ?_;intros;refine dcU zka.eq_1 ?_;refine Gw6 @ua @dT g (gmp d) @St.len @St.eight ?_;intros;refine zd (ze (zu5 l[l.length-1]) rfl) ?_;generalize zfS l[l.length-1]=t;generalize s:t.all (inN n)=R;refine Gw0 ?_;intros;refine zf (λi:Nat=>([(1,.int .i64 n),(6,za t),(7,.int .i64 i)],[])) 0 (λi=>i<=t.length/\(t.drop i).all (inN n)=R) (λi=>t.length-i) 0 ⟨Wf _,s⟩ (Xb rfl fin5) ?_;rintro i ⟨v,c⟩ wf;refine dcU zkl.eq_1 ?_;by_cases e:i<t.length
 .rw[zJ7 e]at c;unfold inN at c;by_cases m:0<=t[i]
  .by_cases o:t[i]<n
   .rw[decide_eq_true ⟨m,o⟩,Bool.true_and]at c;refine Gw5 @ua @dT @dF @uf (gmp e) ?_;intros;exact⟨i+1,⟨by omega,c⟩,by omega,Xb rfl fin5⟩
   .rw[decide_eq_false (λh=>o h.2),Bool.false_and]at c;subst c;refine Gw6 @ua @dT @dF @uf (gmp e) @zcQ.eq_1 ?_;intros;exact bzO
  .rw[decide_eq_false (λh=>m h.1),Bool.false_and]at c;subst c;refine Gw6 @ua @dT @dF @uf (gmp e) @zcQ.eq_1 ?_;intros;exact bzO
 .rw[Wd (by omega)]at c;replace c:R=true:=by rw[<-c];rfl
  subst c;refine Gw3 @ua @dF @uf ?_;intros;unfold zko;refine Gw1 @zcQ.eq_1 ?_;intros;exact bzO
structure PSt where
 kind:Int
 block:Int
 to:Option (List Int)
structure PC where
 st:List PSt
 lp:List (Int×List Int)
 lab:List (Int×Int)
 got:List (Int×Int)
def brkL(l:List (Int×List Int)):List Int:=match l.getLast? with
 |some x=>x.2
 |none=>[]
def p0:PC:=⟨[],[],[],[]⟩
inductive RR where
 |visit (b:Int) (a j:Nat)
 |stop
 |endless
def pickV(b:List Int)(j:Nat)(n:Int):Int×Bool:=if h:j<b.length then(b[j] % n,true)else(0,false)
def pickJ(b:List Int)(j:Nat):Nat:=if j<b.length then j+1 else j
structure OkR(st:List PSt):Prop where
 len:st.length<=1000000
 pos:0<st.length
 kind:∀k (h:k<st.length),st[k].kind=0\/st[k].kind=1\/st[k].kind=2
 last:∀k (h:k<st.length),st[k].kind=0->k+1<st.length
 to:∀k (h:k<st.length),st[k].kind=1->∃l,st[k].to=some l/\0<l.length/\l.length<=1000000/\∀t∈l,0<=t/\t<st.length
mutual
def zbi:Nd->Bool->Bool
 |.mk f _ l,b=>if (f.kind=7\/f.kind=8)/\b=false then true else zJ l (b||decide (f.kind=4)||decide (f.kind=5))
def zJ:List Nd->Bool->Bool
 |[],_=>false
 |e::l,b=>zbi e b||zJ l b
end
def zcz:ACode:=Z8 0x8000305102212813c03000001015c524130830216c221131431100ec030021332116c22113 []
def z8:List ARet:=[.tmp 2]
theorem zdX:z6 Z9 zM (qRo [])=some (zcz.strip,z8,8):=by kernel_rfl
def zp0:ACode:=Z8 0x60ee24106210010609001f2310802f000116100221131400000200f70001360ed007d0013ada0152012540900110816303f271355347014000ce41fe3601501108163090ce25133 []
def zqg:ACode:=Z8 0x00d05410421001060707d231 []
def zqk:ACode:=Z8 0x19096458e22000062113085e001151002211314000000002e91209e703001563153113816328f6100800156015011011732e2a1330000000026da4e1881440300000000008952182012840700110111301224060011041139d2b13353270140000000ec811d36015011011130122406001104113070ec29133 [zp0,zqg]
def zqh:ACode:=Z8 0x0b4310321001060604c231 []
def zpT:ACode:=Z8 0x1909625ac22000042113089c113100221131400000023c88001560150110111301224060011041136c28133153070140000000781013c703c00136360dc61001a3601501104113060729133 [zqk,zqh]
def zmf:ACode:=Z8 0x800006f11610221c00146015011041130af2513 []
def zwk:ACode:=Z8 0x19096050000001133102100011c0213 [zpT,zmf]
attribute[irreducible]zp0 zqg zqk zqh zpT zmf
def zhp:List ARet:=[.tmp 2]
theorem zEH:z6 Z9 zqb (qRo [1])=some (zwk.strip,zhp,74):=by kernel_rfl
def zlQ:ACode:=Z8 0x505441052100106080a23108b3004200421131400002961276040011012140800300c26131530701400631936015030080624133 []
def zmd:ACode:=.seq (.region [ Yah] [0,1,5]) (.ret)
def zrp:ACode:=Z8 0x190960500000011334110042113 [zlQ,zmd]
attribute[irreducible]zlQ zmd
def zlt:List ARet:=[.tmp 4]
theorem zvJ:z6 Z9 zfB (qRo [])=some (zrp.strip,zlt,18):=by kernel_rfl
def zkc:ACode:=.seq (.region [(oN 2 (.rbox (.t 0))),(oN 3 (.rbox (.t 1))),(oK 4 0)] [0,1,4]) (.seq (.seq (.region [(oA 8 2 3),(oN 9 (.call zca [(.t 8)])),(oM 5 9)] [8,9]) (.seq (.region [(oM 10 5),(oC 11 .neq 10 0)] [10]) (.cond (.t 11) (.seq (.region [(oM 12 5),(oM 4 12)] [2,3,5,11,12]) (.ret)) (.skip)))) (.seq (.region [(oA 13 5 2),(oN 14 (.call zcM [(.t 13)])),(oM 6 14)] [4,5,11,13,14]) (.seq (.seq (.region [(oM 15 6),(oN 16 (.call zG [(.t 15),(.c (.fn (.func zd2) []))]))] [15]) (.cond (.t 16) (.seq (.region [(oK 4 2)] [2,3,6,16]) (.ret)) (.skip))) (.seq (.seq (.region [(oM 17 6),(oA 18 2 3),(oN 19 (.call zey [(.t 17),(.t 18)])),(oN 20 (.un .not (.t 19)))] [3,4,16,17,18,19]) (.cond (.t 20) (.seq (.region [(oK 4 18)] [2,6,20]) (.ret)) (.skip))) (.seq (.seq (.region [(oA 21 5 2),(oN 22 (.call zcT [(.t 21),(.c (.bool false))])),(oN 23 (.un .not (.t 22)))] [4,20,21,22]) (.cond (.t 23) (.seq (.region [(oK 4 21)] [2,6,23]) (.ret)) (.skip))) (.seq (.region [(oA 24 5 2),(oN 25 (.call zeC [(.t 24)])),(oN 7 (.alloc [.nilsl])),(oS 1 7 25)] [2,4,23,24,25]) (.seq (.seq (.region [(oM 26 6),(oN 27 (.mkfn (.func zdY) [(.t 7)])),(oN 28 (.call zG [(.t 26),(.t 27)]))] [6,26,27]) (.cond (.t 28) (.seq (.region [(oK 4 9)] [7,28]) (.ret)) (.skip))) (.seq (.region [(oL 29 7),(oN 30 (.call zdl [(.t 29)]))] [4,28,29,30]) (.seq (.seq (.draw (.alt (oL 31 7) (.alt (oN 32 (.call zM [(.t 31)])) (.alt (oN 33 (.call zW [(.t 32)])) (.step (oE 34 33) (.step (oL 35 7) (.step (oE 36 35) (.step (oB 37 .lss 34 36) (.done))))) (.alt (oL 35 7) (.step (oE 36 35) (.alt (oN 33 (.call zW [(.t 32)])) (.step (oE 34 33) (.step (oB 37 .lss 34 36) (.done))) (.stop))) (.stop))) (.alt (oL 35 7) (.step (oE 36 35) (.alt (oN 32 (.call zM [(.t 31)])) (.alt (oN 33 (.call zW [(.t 32)])) (.step (oE 34 33) (.step (oB 37 .lss 34 36) (.done))) (.stop)) (.stop))) (.stop))) (.alt (oL 35 7) (.step (oE 36 35) (.alt (oL 31 7) (.alt (oN 32 (.call zM [(.t 31)])) (.alt (oN 33 (.call zW [(.t 32)])) (.step (oE 34 33) (.step (oB 37 .lss 34 36) (.done))) (.stop)) (.stop)) (.stop))) (.stop))) [7,31,32,33,34,35,36]) (.cond (.t 37) (.seq (.region [(oK 4 8)] [37]) (.ret)) (.skip))) (.seq (.region [(oK 4 0)] [37]) (.ret)))))))))))
def za6:List ARet:=[.tmp 4]
theorem zqq:z6 Z9 zaA (qRoL [2,3] [(15,[0,3,4,5,6,7,8,9,10,11,12,13,14,15,16,17,18,19,20,21,22,23,24,25,26,27,28,29,30,31,32,33,34,35,36,37,38,39,40,41,42,43,44,45,46,47,48,49,50,51,52,53,54,55,56,57,58,59,60,61,62,63,64,65,66,67,68,69,70,71,72,73,74,75,76,77,78,79,80,81,82,83,84,85,86,87,88,89,90,91,92,93,94,95,96,97,98,99,100,101,102,103,104,105,106,107,108,109,110,111,112,113,114,115,116,117,118,119,120,121,122,123,124,125,126,127,128,129,130,131,132,133,134,135,136,137,138,139,140,141,142,143,144,145,146,147,148,149])])=some (zkc.strip,za6,38):=by kernel_rfl
def zbT:ACode:=Z8 0x800030061042000166012228fa04003005134110042113 []
def zbV:List ARet:=[.tmp 4]
theorem zeG:z6 Z9 zG (qRo [])=some (zbT.strip,zbV,9):=by kernel_rfl
def zit:ACode:=Z8 0x800114102210c0118ea02520413102100011c0213 []
def ziM:List ARet:=[.tmp 2]
theorem zoj:z6 Z9 zd2 (qRo [1])=some (zit.strip,ziM,6):=by kernel_rfl
def zae:ACode:=.seq (.region [(oN 1 (.rbox (.t 0))),Yaf] [0,2]) (.seq (.region [(oF 7 0 1 1),(oL 8 7),(oC 9 .eql 8 2),(oM 10 9),(oG 11 10 false (.fldaddr 0 1 (.t 1))),(oG 12 10 false (.load false 1 (.t 11))),(oG 13 10 false (.bin .eql (.t 12) (.c (.int .i64 5)))),(oN 14 (.pick (.t 10) (.c (.bool true)) (.t 13))),(oM 3 14)] [7,8,9,10,11,12,13,14]) (.seq (.region [(oF 15 0 1 1),(oL 16 15),(oC 17 .eql 16 9),(oM 18 17),(oG 19 18 false (.fldaddr 0 1 (.t 1))),(oG 20 18 false (.load false 1 (.t 19))),(oG 21 18 false (.bin .eql (.t 20) (.c (.int .i64 10)))),(oN 22 (.pick (.t 18) (.c (.bool true)) (.t 21))),(oM 4 22)] [15,16,17,18,19,20,21,22]) (.seq (.region [(oK 5 0),(oK 6 0)] []) (.seq (.seq (.region [(oF 23 0 1 1),(oL 24 23)] [23]) (.block 0 (.seq (.region [(oC 26 .eql 24 1),(oM 25 26)] [26]) (.cond (.t 25) (.region [(oF 27 4 1 1),(oL 28 27),(oE 29 28),(oM 6 29)] [24,25,27,28,29]) (.seq (.region [(oC 31 .eql 24 3),(oM 30 31)] [25,31]) (.cond (.t 30) (.region [(oK 5 1),(oK 6 2)] [24,30]) (.seq (.region [(oC 33 .eql 24 4),(oM 32 33)] [30,33]) (.cond (.t 32) (.region [(oK 6 1)] [24,32]) (.seq (.region [(oC 35 .eql 24 5),(oM 34 35)] [32,35]) (.cond (.t 34) (.region [(oK 5 1),(oK 6 1)] [24,34]) (.seq (.region [(oC 37 .eql 24 6),(oM 36 37)] [24,34,37]) (.cond (.t 36) (.draw (.step (oF 38 4 1 1) (.step (oL 39 38) (.step (oE 40 39) (.step (oN 41 (.xop .max [(.t 40),(.c (.int .i64 1))])) (.step (oN 42 (.xop .min [(.t 41),(.c (.int .i64 64))])) (.step (oK 5 1) (.step (oM 6 42) (.done)))))))) [36,38,39,40,41,42]) (.skip))))))))))))) (.seq (.seq (.region [(oF 43 0 1 1),(oL 44 43),(oC 45 .lss 44 1),(oM 46 45),(oG 47 46 false (.fldaddr 0 1 (.t 1))),(oG 48 46 false (.load false 1 (.t 47))),(oG 49 46 false (.bin .gtr (.t 48) (.c (.int .i64 12)))),(oN 50 (.pick (.t 46) (.c (.bool true)) (.t 49))),(oM 51 50),(oG 52 51 false (.fldaddr 3 1 (.t 1))),(oG 53 51 false (.load false 1 (.t 52))),(oG 54 51 false (.len (.t 53))),(oG 55 51 false (.mov (.t 5))),(oG 56 51 false (.bin .neq (.t 54) (.t 55))),(oN 57 (.pick (.t 51) (.c (.bool true)) (.t 56))),(oM 58 57),(oG 59 58 false (.fldaddr 4 1 (.t 1))),(oG 60 58 false (.load false 1 (.t 59))),(oG 61 58 false (.len (.t 60))),(oG 62 58 false (.mov (.t 6))),(oG 63 58 false (.bin .neq (.t 61) (.t 62))),(oN 64 (.pick (.t 58) (.c (.bool true)) (.t 63))),(oM 65 64),(oG 66 65 false (.mov (.t 3))),(oG 67 65 false (.un .not (.t 66))),(oG 68 65 false (.mov (.t 67))),(oG 69 68 true (.fldaddr 1 1 (.t 1))),(oG 70 68 true (.load false 1 (.t 69))),(oG 71 68 true (.bin .neq (.t 70) (.c (.int .i64 0)))),(oG 72 65 false (.pick (.t 68) (.t 71) (.c (.bool false)))),(oN 73 (.pick (.t 65) (.c (.bool true)) (.t 72))),(oM 74 73),(oG 75 74 false (.mov (.t 4))),(oG 76 74 false (.un .not (.t 75))),(oG 77 74 false (.mov (.t 76))),(oG 78 77 true (.fldaddr 2 1 (.t 1))),(oG 79 77 true (.load false 1 (.t 78))),(oG 80 77 true (.bin .neq (.t 79) (.c (.int .i64 0)))),(oG 81 74 false (.pick (.t 77) (.t 80) (.c (.bool false)))),(oN 82 (.pick (.t 74) (.c (.bool true)) (.t 81))),(oM 83 82),(oG 84 83 false (.fldaddr 2 1 (.t 1))),(oG 85 83 false (.load false 1 (.t 84))),(oG 86 83 false (.bin .lss (.t 85) (.c (.int .i64 0)))),(oN 87 (.pick (.t 83) (.c (.bool true)) (.t 86)))] [3,4,6,36,43,44,45,46,47,48,49,50,51,52,53,54,55,56,57,58,59,60,61,62,63,64,65,66,67,68,69,70,71,72,73,74,75,76,77,78,79,80,81,82,83,84,85,86]) (.cond (.t 87) (.seq (.region [ Yaf] [1,5,87]) (.ret)) (.skip))) (.seq (.region [(oM 88 5),(oC 89 .eql 88 0),(oM 90 89),(oG 91 90 false (.fldaddr 3 1 (.t 1))),(oG 92 90 false (.load false 1 (.t 91))),(oG 93 90 false (.idx 5 (.t 92) (.c (.int .i64 0)))),(oG 94 90 false (.load true 5 (.t 93))),(oG 95 90 false (.call zfG [(.t 94)])),(oG 96 90 false (.bin .eql (.t 95) (.c (.int .i64 0)))),(oN 97 (.pick (.t 90) (.c (.bool true)) (.t 96))),(oM 2 97)] [1,5,87,88,89,90,91,92,93,94,95,96,97]) (.ret)))))))
def zb:List ARet:=[.tmp 2]
theorem zam:z6 Z9 zP (qRo [1])=some (zae.strip,zb,98):=by kernel_rfl
def zg5:ACode:=Z8 0x09f1106c21009c0602100000008e34a2118107f05f1401001060110105f140110b11309002f28108ed0071013810042113140000000000000ed43c101ae701001563153113111331ce243113b113311361132bf61005001760110b1034e22c133080d007101381004211314000000000000000001d6c120fd7010c311310e143113b11338014f61001208d701ad663153803113b11306f61000001360110b11306c13301714000000ac71010d705001863113b1037e610020018601101103ac28133007c3cc1581440000005982152027c54041315307014308c9c367c2113 []
def zg1:ACode:=Z8 0x013f43100cf21000ff0619f22108b0003f65100421131400000006f09910115f701001863113121430c039061f61001011f28130000df413f0011f0921100ff0df14020051335327014300ef0ff360df2113 []
def zhg:ACode:=.seq (.region [(oN 4 (.mov (.c (.bool true))))] [6,70,71,72]) (.ret)
def zg7:ACode:=Z8 0x190962500a13500000150800af23133 [zg1,zhg]
def zjn:ACode:=Z8 0x19096050100000150304c23133001c310621100181ac0150101c24130b21052112afa0222b2313212100041c32213 [zg5,zg7]
attribute[irreducible]zg5 zg1 zhg zg7
def zav:List ARet:=[.tmp 4]
theorem zpw:z6 Z9 zey (qRo [3])=some (zjn.strip,zav,86):=by kernel_rfl
def ziO:ACode:=.seq (.region [(oN 2 (.rbox (.t 0))),(oN 3 (.box (.t 1))),Yah] [0,1,4]) (.seq (.seq (.region [(oF 5 0 1 2),(oL 6 5),(oC 7 .eql 6 7),(oM 8 7),(oG 9 8 false (.fldaddr 0 1 (.t 2))),(oG 10 8 false (.load false 1 (.t 9))),(oG 11 8 false (.bin .eql (.t 10) (.c (.int .i64 8)))),(oN 12 (.pick (.t 8) (.c (.bool true)) (.t 11))),(oM 13 12),(oG 14 13 true (.load false 1 (.t 3))),(oG 15 13 true (.un .not (.t 14))),(oN 16 (.pick (.t 13) (.t 15) (.c (.bool false))))] [5,6,7,8,9,10,11,12,13,14,15]) (.cond (.t 16) (.seq (.region [ Yah] [2,3,16]) (.ret)) (.skip))) (.seq (.region [(oL 17 3),(oM 18 17),(oG 19 18 false (.fldaddr 0 1 (.t 2))),(oG 20 18 false (.load false 1 (.t 19))),(oG 21 18 false (.bin .eql (.t 20) (.c (.int .i64 4)))),(oN 22 (.pick (.t 18) (.c (.bool true)) (.t 21))),(oM 23 22),(oG 24 23 false (.fldaddr 0 1 (.t 2))),(oG 25 23 false (.load false 1 (.t 24))),(oG 26 23 false (.bin .eql (.t 25) (.c (.int .i64 5)))),(oN 27 (.pick (.t 23) (.c (.bool true)) (.t 26))),(oS 1 3 27)] [4,16,17,18,19,20,21,22,23,24,25,26,27]) (.seq (.region [(oF 28 4 1 2),(oL 29 28),(oN 30 (.mkfn (.func zbZ) [(.t 3)])),(oN 31 (.call zG [(.t 29),(.t 30)])),(oN 32 (.un .not (.t 31))),(oM 4 32)] [2,3,28,29,30,31,32]) (.ret))))
def zK:List ARet:=[.tmp 4]
theorem zoH:z6 Z9 zcT (qRo [2])=some (ziO.strip,zK,33):=by kernel_rfl
def ziT:ACode:=Z8 0x80000000001010c1032101a7010c31b2cea311351233413c6100a00176011021030b13202100011c22213 []
def zfn:List ARet:=[.tmp 3]
theorem zor:z6 Z9 zdY (qRo [2])=some (ziT.strip,zfn,14):=by kernel_rfl
def zc4:ACode:=Z8 0x80003006104200016601222cfa04003005134110042113 []
def zda:List ARet:=[.tmp 4]
theorem ze5:z6 Z9 zS (qRo [])=some (zc4.strip,zda,9):=by kernel_rfl
def zcv:ACode:=Z8 0x905d310521001060805d231008e2103210010606003100000000e8211815e4e14011012140800700600301e28133e40000000024da01dd860211021ed1402100116028002700211021214028002707d222335327014001d314d360150700801d24133 []
def zcC:ACode:=Z8 0x8009e205102211021cc0600300413004e045100110d101121cc060010ae2413 []
def zcu:ACode:=Z8 0x90b2410321001060602c231 []
def zcD:ACode:=Z8 0x29019096250100001133000dc4104201121cc060030ec24130d40000000021ca01ac760211021bc1402100116026002300211021214026002304c22231530701400a311c36015030060a24133 [zcv,zcC,zcu]
def zcx:ACode:=.seq (.region [(oM 60 0),(oM 2 60)] [0,3,60]) (.ret)
def zdn:ACode:=Z8 0x19096055221000011330807031022300213140622001360150306231332116c22113 [zcD,zcx]
attribute[irreducible]zcv zcC zcu zcD zcx
def zaw:List ARet:=[.tmp 2]
theorem zft:z6 Z9 zW (qRo [])=some (zdn.strip,zaw,61):=by kernel_rfl
def zbM:ACode:=Z8 0x1a0441082100b066c22108070130071042800213140000b5112cbc015201254080030040b261309210522002131530701430ab3692113 []
def zbN:ACode:=.seq (.region [(oK 4 (-1))] [0,1,7,8]) (.ret)
def zck:ACode:=Z8 0x190960561000001503062313341000042113 [zbM,zbN]
attribute[irreducible]zbM zbN
def za2:List ARet:=[.tmp 4]
theorem zfj:z6 Z9 zaD (qRo [])=some (zck.strip,za2,19):=by kernel_rfl
def zhe:ACode:=Z8 0x80001016103210c0122aea04102520513202100011c22213 []
def zhc:List ARet:=[.tmp 3]
theorem zmX:z6 Z9 zbZ (qRo [2])=some (zhe.strip,zhc,8):=by kernel_rfl
def zc9:ACode:=Z8 0x1a0441082100b066c22108070130071042800213140000b512c7601101214080030040b261309210522002131530701430ab3692113 []
def zc3:ACode:=.seq (.region [(oK 4 (-1))] [0,1,7,8]) (.ret)
def zd4:ACode:=Z8 0x190960561000001503062313341000042113 [zc9,zc3]
attribute[irreducible]zc9 zc3
def zbj:List ARet:=[.tmp 4]
theorem zgv:z6 Z9 zbA (qRo [])=some (zd4.strip,zbj,19):=by kernel_rfl
end Go.Ab
