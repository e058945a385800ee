/-
  Part 7 of the proof: how the calls of this program run, over values instead of memory, and what each function computes.
-/
import Derived.Test.YtjcbhpmmngfmeaaGreatRows
import Derived.WalkKit
import Derived.OpenShut
import Derived.ShutString
import Derived.ChangeOld
import Derived.Below
import Derived.Test.YtjcbhpmmngfmeaaGreatProg
import Derived.KernelRfl
import Derived.Test.YtjcbhpmmngfmeaaGreatKf
set_option maxRecDepth 100000
set_option linter.unusedVariables false
set_option linter.unusedSimpArgs false
set_option linter.unnecessarySimpa false
set_option linter.unusedSectionVars false
open List renaming getElem?_eq_getElem→Wa
namespace Go.Ab
open Go.RowKit
inductive Ex where
 | mk (op n var width:Int) (l:List Ex)
structure NdF where
 kind:Int
 block:Int
 label:Int
inductive Nd where
 | mk (f:NdF) (cond:List Ex) (l:List Nd)
def Ex.l:Ex→List Ex
 | .mk _ _ _ _ l=>l
def Nd.f:Nd→NdF
 | .mk f _ _=>f
mutual
def encX:Ex→List AV
 | .mk op n v w l=>[.int .i64 op,.int .u32 n,.int .i64 v,.int .i64 w,.sl 5 l.length (fun i j=>((zxT l).getD i []).getD j .undef)]
def zxT:List Ex→List (List AV)
 | []=>[]
 | e::l=>encX e::zxT l
end
theorem zrH:∀l:List Ex,zxT l=l.map encX
 | []=>by rw[zxT];rfl
 | e::l=>by rw[zxT,zrH l];rfl
theorem zhn (op n v w:Int) (l:List Ex):encX (.mk op n v w l)=[.int .i64 op,.int .u32 n,.int .i64 v,.int .i64 w,encL 5 encX l]:=by rw[encX,zrH];rfl
mutual
def encN:Nd→List AV
 | .mk f c l=>[.int .i64 f.kind,.int .i64 f.block,.int .i64 f.label,encL 5 encX c,.sl 5 l.length (fun i j=>((zwP l).getD i []).getD j .undef)]
def zwP:List Nd→List (List AV)
 | []=>[]
 | e::l=>encN e::zwP l
end
theorem zsw:∀l:List Nd,zwP l=l.map encN
 | []=>by rw[zwP];rfl
 | e::l=>by rw[zwP,zsw l];rfl
theorem zeC (f:NdF) (c:List Ex) (l:List Nd):encN (.mk f c l)=[.int .i64 f.kind,.int .i64 f.block,.int .i64 f.label,encL 5 encX c,encL 5 encN l]:=by rw[encN,zsw];rfl
mutual
def zhM:Ex→Int→Int→Int
 | .mk _ _ _ _ l,most,left=>if most < 1∨left < 1∨4 < l.length then -1 else zdv l (most - 1) (left - 1)
def zdv:List Ex→Int→Int→Int
 | [],_,n=>n
 | e::l,most,n=>if n < 0 then n else zdv l most (zhM e most n)
end
mutual
def allN:Nd→List Nd
 | .mk f c l=>.mk f c l::zd9 l
def zd9:List Nd→List Nd
 | []=>[]
 | e::l=>allN e++zd9 l
end
mutual
def zax:Nd→Nat
 | .mk _ _ l=>1+zZ l
def zZ:List Nd→Nat
 | []=>0
 | e::l=>zax e+zZ l
end
mutual
theorem zna:∀n:Nd,(allN n).length=zax n
 | .mk f c l=>by rw[allN,zax,List.length_cons,zr0 l];omega
theorem zr0:∀l:List Nd,(zd9 l).length=zZ l
 | []=>by rw[zd9,zZ];rfl
 | e::l=>by rw[zd9,zZ,List.length_append,zna e,zr0 l]
end
end Go.Ab
namespace Go.Ab
open Go.RowKit Go.Proofs Go.Proofs.YtjcbhpmmngfmeaaGreat
section
variable {HH:Type} {enc:TypeId × Value→HH} {w:World} {base:Nat} {spare:Nat→Bool} {held:Bool} {L:Nat→Prop} (hL:∀b,¬L b)
include hL
theorem zr6 {P:Program} {α:Type} {cells:α→List AV} {t e:TypeId} {sz:Nat} {fuel:Nat} (ht:P.underlying t=some (.slice e)) (hs:P.cellsOf e=sz)
  (hel:∀fuel',fuel' < fuel→∀cs y,DataW.trod enc P w base spare held fuel' e cs=some y→cs.length=sz→∃x:α,ElOk w L cs (cells x)) {cs:List Value} {y:DataW HH × List MemPlace}
  (h:DataW.trod enc P w base spare held fuel t cs=some y):∃(l:List α) (v:Value),cs=[v]∧v.oneCell'=true∧∀ι,VR w L ι v (encL sz cells l):=by
 rcases DataW.trod_slice ht h with ⟨rfl,rfl⟩ | ⟨a,len,cap,elems,rest,n,rfl,rfl,rfl,hb,hl,hc,he,hi,_,_⟩
 · exact⟨[],_,rfl,rfl,fun ι=>.sl0 _ _ _⟩
 ·
  rw[hs] at hi
  have key:∀i:Fin len,∃p:α × List Value,p.2.length=sz∧(∀j,j < sz→w.cell? ((a.add (i.1 * sz)).add j)=some (p.2.getD j undef))∧ElOk w L p.2 (cells p.1):=by intro i;have h1:=hi i.1 i.2;rw[Wa (by omega),Option.bind_eq_some_iff] at h1;obtain⟨cs',h2,h3⟩:=h1;obtain⟨h4,h5⟩:=zrO h2;obtain⟨x,hx⟩:=hel _ (Nat.lt_succ_self _) _ _ h3 h4;exact⟨(x,cs'),h4,h5,hx⟩
  obtain⟨F,hF⟩:=Classical.axiomOfChoice key;refine⟨List.ofFn fun i=>(F i).1,_,rfl,rfl,fun ι=>?_⟩;have hlen:(List.ofFn fun i=>(F i).1).length=len:=List.length_ofFn;unfold encL;rw[hlen];refine .sl ι a sz len cap _ (fun i j=>if hi:i < len then (F ⟨i,hi⟩).2.getD j undef else undef) hl (by unfold maxLen at hc;unfold big;omega) (fun i j hi hj=>?_) (fun _=>hL _) (fun i j hi hj=>?_)
  · obtain⟨h1,h2,h3⟩:=hF ⟨i,hi⟩;rw[dif_pos hi];exact⟨h2 j hj,(h3 j (by omega)).2⟩
  ·
   obtain⟨h1,h2,h3⟩:=hF ⟨i,hi⟩;rw[dif_pos hi]
   have e:((List.ofFn fun i=>(F i).1).map cells).getD i []=cells (F ⟨i,hi⟩).1:=by rw[zfW (a:=(F ⟨i,hi⟩).1)];rw[Wa (by rw[hlen];exact hi),List.getElem_ofFn]
   rw[e];exact(h3 j (by omega)).1
theorem zBF:∀(k fuel:Nat),fuel≤k→∀(cs:List Value) (y:DataW HH × List MemPlace),DataW.trod enc Tryz.prog w base spare held fuel 101 cs=some y→∃e:Ex,ElOk w L cs (encX e):=by
 intro k
 induction k with
 |
  zero =>
  intro fuel hk cs y h;obtain⟨xs,n,h0,_⟩:=DataW.trod_struct Tryz.underlying101 h;omega
 | succ k ih =>
 intro fuel hk cs y h;obtain⟨xs,n,rfl,rfl,hlen,hxs,hf⟩:=DataW.trod_struct Tryz.underlying101 h
 have hc:Tryz.prog.cellsOf 101=5:=by kernel_rfl
 have hc3:Tryz.prog.cellsOf 3=1:=by kernel_rfl
 have hc22:Tryz.prog.cellsOf 22=1:=by kernel_rfl
 have hc42:Tryz.prog.cellsOf 42=1:=by kernel_rfl
 rw[hc] at hlen
 have hget:∀i,i < 5→xs[i]? = some (xs.getD i (.nil,[])):=fun i hi=>by rw[List.getD_eq_getElem?_getD,Wa (by rw[hxs];exact hi)];rfl
 match cs,hlen with
 |
  [c0,c1,c2,c3,c4],_ =>
  have f0:DataW.trod enc Tryz.prog w base spare held n 3 (([c0,c1,c2,c3,c4].drop 0).take (Tryz.prog.cellsOf 3))=some (xs.getD 0 (.nil,[])):=(hf 0 _ rfl).trans (hget 0 (by decide));rw[hc3] at f0;replace f0:DataW.trod enc Tryz.prog w base spare held n 3 [c0]=some (xs.getD 0 (.nil,[])):=f0;have f1:DataW.trod enc Tryz.prog w base spare held n 22 (([c0,c1,c2,c3,c4].drop 1).take (Tryz.prog.cellsOf 22))=some (xs.getD 1 (.nil,[])):=(hf 1 _ rfl).trans (hget 1 (by decide));rw[hc22] at f1;replace f1:DataW.trod enc Tryz.prog w base spare held n 22 [c1]=some (xs.getD 1 (.nil,[])):=f1;have f2:DataW.trod enc Tryz.prog w base spare held n 3 (([c0,c1,c2,c3,c4].drop 2).take (Tryz.prog.cellsOf 3))=some (xs.getD 2 (.nil,[])):=(hf 2 _ rfl).trans (hget 2 (by decide));rw[hc3] at f2;replace f2:DataW.trod enc Tryz.prog w base spare held n 3 [c2]=some (xs.getD 2 (.nil,[])):=f2;have f3:DataW.trod enc Tryz.prog w base spare held n 3 (([c0,c1,c2,c3,c4].drop 3).take (Tryz.prog.cellsOf 3))=some (xs.getD 3 (.nil,[])):=(hf 3 _ rfl).trans (hget 3 (by decide));rw[hc3] at f3;replace f3:DataW.trod enc Tryz.prog w base spare held n 3 [c3]=some (xs.getD 3 (.nil,[])):=f3;have f4:DataW.trod enc Tryz.prog w base spare held n 42 (([c0,c1,c2,c3,c4].drop 4).take (Tryz.prog.cellsOf 42))=some (xs.getD 4 (.nil,[])):=(hf 4 _ rfl).trans (hget 4 (by decide));rw[hc42] at f4;replace f4:DataW.trod enc Tryz.prog w base spare held n 42 [c4]=some (xs.getD 4 (.nil,[])):=f4;obtain⟨n0,h0,w0⟩:=zhV Tryz.underlying3 f0;obtain⟨n1,h1,w1⟩:=zhV Tryz.underlying22 f1;obtain⟨n2,h2,w2⟩:=zhV Tryz.underlying3 f2;obtain⟨n3,h3,w3⟩:=zhV Tryz.underlying3 f3;obtain⟨l4,v4,h4,o4,w4⟩:=zr6 (L:=L) (α:=Ex) (cells:=encX) hL Tryz.underlying42 hc (fun fuel' hf' cs y h _=>ih fuel' (by omega) cs y h) f4;cases h0;cases h1;cases h2;cases h3;cases h4;refine⟨.mk n0 n1 n2 n3 l4,fun j hj=>?_⟩;rw[zhn]
  match j with
  | 0=>exact⟨.int _ _ _ w0,rfl⟩
  | 1=>exact⟨.int _ _ _ w1,rfl⟩
  | 2=>exact⟨.int _ _ _ w2,rfl⟩
  | 3=>exact⟨.int _ _ _ w3,rfl⟩
  | 4=>exact⟨w4 _,o4⟩
  | j+5=>exact absurd hj (by simp)
end
theorem zzs {H:AH} {v:AV} {b:Bool} (h:Frz H v (.bool b)):v=.bool b:=by
 unfold Frz at h;generalize he:AV.bool b=x at h
 cases h<;>first | (cases he;done) | (cases he;rfl)
theorem row_true {P:Program} {f:FuncId} {args:List AV} {vs:Array Value} {w:World} (h:zk P f args (·=.bool true)) (hv:∀L:Nat→Prop,(∀b,¬L b)→VRs w L noI vs.toList args) :
  Calls P f vs w fun e w'=>e=.returned (.bool true)∧Below w.heap.size w w':=by
 have hno:∀b,¬Lt (fun _=>False) noI [] b:=fun b hb=>hb.elim (fun h=>h) (zh4 b)
 refine(h w (fun _=>False) noI vs (.empty (fun b hb=>hb.elim)) (hv _ hno)).mono fun e w' ⟨v,ι',H',nx',a,h1,h2,_,h4,a2,h5,h6⟩=>?_
 subst h1 h6;have:=zzs h5;subst this;cases h4;exact⟨rfl,h2.ext.os,h2.ext.tape,h2.ext.output,h2.ext.size,fun k hk=>h2.ext.block k hk (zh4 k)⟩
end Go.Ab
namespace Go.Ab
def ze8:Nat:=6
def zk0:Nat:=11
def zcr:Nat:=12
def zba:Nat:=13
def zau:Nat:=15
def zfn:Nat:=16
def zdL:Nat:=18
def ze5:Nat:=21
def zfm:Nat:=31
def zcG:Nat:=32
def zgY:Nat:=33
def zdW:Nat:=34
def zcQ:Nat:=35
def zjf:Nat:=36
def zhv:Nat:=38
def zd6:Nat:=39
def zik:Nat:=40
def zb0:Nat:=41
def zw:Nat:=42
def zaA:Nat:=43
def zcA:Nat:=44
def zY:Nat:=45
def zeI:Nat:=49
def zdR:Nat:=50
def zfk:Nat:=51
def zcf:Nat:=52
def zdN:Nat:=60
def zcD:Nat:=75
def zbk:Nat:=78
def zid:Nat:=81
def zkI:Nat:=82
def zeQ:Nat:=83
def zbt:Nat:=84
def zbN:Nat:=85
def zmo:Nat:=86
def zkW:Nat:=87
def zge:Nat:=88
def zaD:Nat:=89
def zie:Nat:=90
def zC:Nat:=95
def zds:Nat:=96
def zE:Nat:=97
def zdJ:Nat:=98
def zcb:Nat:=99
def zdG:Nat:=100
def zdw:Nat:=101
def zbK:Nat:=102
def zbY:Nat:=103
def zah:Nat:=104
def zbI:Nat:=105
def zeH:Nat:=115
def zgk:Nat:=116
def zak:Nat:=130
def zcJ:Nat:=132
def zae:Nat:=133
def zfT:Nat:=134
def zfg:Nat:=135
def zeP:Nat:=136
def zaU:Nat:=137
def zha:Nat:=138
def zeS:Nat:=139
def zar:Nat:=152
def zbH:Nat:=153
def zcm:Nat:=154
def zdo:Nat:=155
def zcB:Nat:=156
def zcT:Nat:=157
def zbw:Nat:=158
def zbv:Nat:=159
def zac:Nat:=160
def zq:Nat:=161
def zf5:Nat:=167
def zcM:Nat:=168
def zas:Nat:=180
def zg3:Nat:=181
def zay:Nat:=182
def zfZ:Nat:=183
def zij:Nat:=184
def zex:Nat:=193
def zb6:Nat:=194
def zbW:Nat:=195
def zV:Nat:=199
def zho:Nat:=200
def zad:Nat:=201
def zbA:Nat:=204
def zcc:Nat:=205
def zat:Nat:=208
end Go.Ab
namespace Go.Ab
open Go.RowKit Go.Proofs
def zfP:ACode:=.seq (.seq (.region [ (oM 13 4),(oF 14 1 1 1),(oL 15 14),(oE 16 15),(oB 17 .lss 13 16)] [13,14,15,16]) (.cond (.t 17) (.skip) (.exit 0))) (.seq (.block 1 (.region [ (oM 20 3),(oF 21 1 1 1),(oL 22 21),(oM 23 4),(oI 24 2 22 23),(oF 25 1 1 24),(oL 26 25),(oE 27 26),(oB 28 .add 20 27),(oM 3 28)] [17,20,21,22,23,24,25,26,27,28])) (.region [ (oM 18 4),(oC 19 .add 18 1),(oM 4 19)] [18,19]))
def zfR:ACode:=.seq (.seq (.region [ (oM 35 5),(oF 36 1 1 1),(oL 37 36),(oE 38 37),(oB 39 .lss 35 38)] [35,36,37,38]) (.cond (.t 39) (.skip) (.exit 2))) (.seq (.block 3 (.seq (.draw ( .step (oF 42 1 1 1) ( .step (oL 43 42) ( .step (oM 44 5) ( .step (oI 45 2 43 44) ( .step (oA 46 2 45) ( .step (oF 47 1 1 1) ( .step (oL 48 47) ( .step (oE 49 48) ( .step (oN 50 (.callq zhv [(.t 46),(.t 49)])) ( .step (oN 51 (.un .not (.t 50))) ( .done))))))))))) [39,42,43,44,45,46,47,48,49,50]) (.cond (.t 51) (.seq (.region [ (oK 2 18)] [1,5,51]) (.ret)) (.skip)))) (.region [ (oM 40 5),(oC 41 .add 40 1),(oM 5 41)] [2,40,41,51]))
def zfK:ACode:=.seq (.seq (.region [ (oM 59 7),(oF 60 1 1 1),(oL 61 60),(oM 62 6),(oI 63 2 61 62),(oF 64 1 1 63),(oL 65 64),(oE 66 65),(oB 67 .lss 59 66)] [59,60,61,62,63,64,65,66]) (.cond (.t 67) (.skip) (.exit 6))) (.seq (.block 7 (.seq (.region [ (oF 70 1 1 1),(oL 71 70),(oM 72 6),(oI 73 2 71 72),(oF 74 1 1 73),(oL 75 74),(oM 76 7),(oI 77 8 75 76),(oA 78 8 77),(oN 79 (.call zd6 [(.t 78)])),(oM 8 79)] [67,70,71,72,73,74,75,76,77,78,79]) (.seq (.region [ (oM 80 8),(oC 81 .neq 80 0)] [80]) (.cond (.t 81) (.seq (.region [ (oM 82 8),(oM 2 82)] [1,6,7,8,81,82]) (.ret)) (.skip))))) (.region [ (oM 68 7),(oC 69 .add 68 1),(oM 7 69)] [2,8,68,69,81]))
def zfH:ACode:=.region [ (oM 57 6),(oC 58 .add 57 1),(oM 6 58)] [7,57,58]
def zfs:ACode:=.seq (.seq (.region [ (oM 52 6),(oF 53 1 1 1),(oL 54 53),(oE 55 54),(oB 56 .lss 52 55)] [52,53,54,55]) (.cond (.t 56) (.skip) (.exit 4))) (.seq (.block 5 (.seq (.region [ (oK 7 0)] [56]) (.block 6 (.loop zfK)))) (zfH))
def zfw:ACode:=.seq (.region [ (oK 2 0)] [1,6]) (.ret)
def zfI:ACode:=.seq (.seq (.region [ (oK 6 0)] [5]) (.block 4 (.loop zfs))) (zfw)
def zfM:ACode:=.seq (.seq (.region [ (oM 29 3),(oC 30 .gtr 29 1024)] [3,4,29]) (.cond (.t 30) (.seq (.region [ (oK 2 6)] [1,30]) (.ret)) (.skip))) (.seq (.seq (.region [ (oF 31 1 1 1),(oL 32 31),(oE 33 32),(oC 34 .eql 33 0)] [2,30,31,32,33]) (.cond (.t 34) (.seq (.region [ (oK 2 18)] [1,34]) (.ret)) (.skip))) (.seq (.seq (.region [ (oK 5 0)] [2,34]) (.block 2 (.loop zfR))) (zfI)))
def zhS:ACode:=.seq (.region [ Yab,(oK 2 0)] [0,2]) (.seq (.seq (.region [ (oF 9 1 1 1),(oL 10 9),(oE 11 10),(oC 12 .gtr 11 256)] [9,10,11]) (.cond (.t 12) (.seq (.region [ (oK 2 6)] [1,12]) (.ret)) (.skip))) (.seq (.region [ (oK 3 0)] [2,12]) (.seq (.seq (.region [ (oK 4 0)] []) (.block 0 (.loop zfP))) (zfM))))
def zaW:List ARet:=[.tmp 2]
theorem zml:zT Tryz.prog zfn (qRo [1])=some (zhS.strip,zaW,83):=by kernel_rfl
def zgF:ACode:=.seq (.region [ (oB 15 .lss 14 13)] []) (.seq (.cond (.t 15) (.skip) (.exit 0)) (.seq (.block 1 (.seq (.region [ (oI 16 2 12 14),(oA 17 2 16),(oN 5 (.alloc [.int .u32 0,.nilsl])),(oS 2 5 17)] [15,16,17]) (.region [ (oM 18 3),(oF 19 1 1 5),(oL 20 19),(oE 21 20),(oB 22 .add 18 21),(oM 3 22)] [5,18,19,20,21,22]))) (.region [ (oC 23 .add 14 1),(oM 14 23)] [23])))
def zgM:ACode:=.seq (.region [ (oB 46 .lss 45 44)] []) (.seq (.cond (.t 46) (.skip) (.exit 4)) (.seq (.block 5 (.seq (.region [ (oI 47 8 43 45),(oA 48 8 47),(oN 9 (.alloc [.int .i64 0,.int .i64 0,.int .i64 0,.int .i64 0,.int .i64 0,.int .u32 0,.nilsl,.nilsl])),(oS 8 9 48)] [46,47,48]) (.seq (.region [ (oA 49 8 9),(oN 50 (.call zeQ [(.t 49)])),(oM 10 50)] [9,49,50]) (.seq (.region [ (oM 51 10),(oC 52 .neq 51 0)] [51]) (.cond (.t 52) (.seq (.region [ (oM 53 10),(oM 2 53)] [10,36,37,38,43,44,45,52,53]) (.ret)) (.skip)))))) (.region [ (oC 54 .add 45 1),(oM 45 54)] [2,10,52,54])))
def zgH:ACode:=.region [ (oC 55 .add 38 1),(oM 38 55)] [43,44,45,55]
def zgn:ACode:=.seq (.region [ (oB 39 .lss 38 37)] []) (.seq (.cond (.t 39) (.skip) (.exit 2)) (.seq (.block 3 (.seq (.region [ (oI 40 2 36 38),(oA 41 2 40),(oN 7 (.alloc [.int .u32 0,.nilsl])),(oS 2 7 41)] [39,40,41]) (.seq (.region [ (oF 42 1 1 7),(oL 43 42),(oE 44 43),(oK 45 0)] [7,42]) (.block 4 (.loop zgM))))) (zgH)))
def zgm:ACode:=.seq (.region [ (oK 2 0)] [36,37,38]) (.ret)
def zgv:ACode:=.seq (.seq (.region [ (oF 24 1 1 1),(oL 25 24),(oE 26 25),(oC 27 .gtr 26 256),(oM 28 27),(oG 29 28 false (.mov (.t 3))),(oG 30 28 false (.bin .gtr (.t 29) (.c (.int .i64 1024)))),(oN 31 (.pick (.t 28) (.c (.bool true)) (.t 30)))] [3,12,13,14,24,25,26,27,28,29,30]) (.cond (.t 31) (.seq (.region [ (oK 2 6)] [1,31]) (.ret)) (.skip))) (.seq (.seq (.region [ (oA 32 2 1),(oN 33 (.call zkI [(.t 32)])),(oN 34 (.un .not (.t 33)))] [2,31,32,33]) (.cond (.t 34) (.seq (.region [ (oK 2 18)] [1,34]) (.ret)) (.skip))) (.seq (.seq (.region [ (oF 35 1 1 1),(oL 36 35),(oE 37 36),(oK 38 0)] [1,2,34,35]) (.block 2 (.loop zgn))) (zgm)))
def ziN:ACode:=.seq (.region [ Yab,(oK 2 0)] [0,2]) (.seq (.region [ (oK 3 0)] []) (.seq (.seq (.region [ (oF 11 1 1 1),(oL 12 11),(oE 13 12),(oK 14 0)] [11]) (.block 0 (.loop zgF))) (zgv)))
def zbF:List ARet:=[.tmp 2]
theorem zmV:zT Tryz.prog zdW (qRo [1])=some (ziN.strip,zbF,56):=by kernel_rfl
def zg2:ACode:=.seq (.seq (.region [ (oM 12 5),(oF 13 1 1 2),(oL 14 13),(oE 15 14),(oB 16 .lss 12 15)] [12,13,14,15]) (.cond (.t 16) (.skip) (.exit 0))) (.seq (.block 1 (.seq (.draw ( .step (oF 19 1 1 2) ( .step (oL 20 19) ( .step (oM 21 5) ( .step (oI 22 8 20 21) ( .step (oA 23 8 22) ( .step (oN 24 (.callq zmo [(.t 23)])) ( .step (oM 25 5) ( .step (oF 26 1 1 2) ( .step (oL 27 26) ( .step (oE 28 27) ( .step (oC 29 .sub 28 1) ( .step (oB 30 .eql 25 29) ( .step (oN 31 (.eqb true (.t 24) (.t 30))) ( .done)))))))))))))) [16,19,20,21,22,23,24,25,26,27,28,29,30]) (.cond (.t 31) (.seq (.region [ Yaa] [1,2,5,31]) (.ret)) (.skip)))) (.region [ (oM 17 5),(oC 18 .add 17 1),(oM 5 18)] [4,17,18,31]))
def zg9:ACode:=.seq (.seq (.region [ (oM 41 7),(oM 42 6),(oE 43 42),(oB 44 .lss 41 43)] [41,42,43]) (.cond (.t 44) (.skip) (.exit 2))) (.seq (.block 3 (.seq (.region [ (oM 47 6),(oM 48 7),(oI 49 1 47 48),(oL 50 49),(oC 51 .lss 50 0),(oM 52 51),(oG 53 52 false (.mov (.t 6))),(oG 54 52 false (.mov (.t 7))),(oG 55 52 false (.idx 1 (.t 53) (.t 54))),(oG 56 52 false (.load false 1 (.t 55))),(oG 57 52 false (.mov (.t 1))),(oG 58 52 false (.bin .geq (.t 56) (.t 57))),(oN 59 (.pick (.t 52) (.c (.bool true)) (.t 58)))] [44,47,48,49,50,51,52,53,54,55,56,57,58]) (.cond (.t 59) (.seq (.region [ Yaa] [1,6,7,59]) (.ret)) (.skip)))) (.region [ (oM 45 7),(oC 46 .add 45 1),(oM 7 46)] [4,45,46,59]))
def zgT:ACode:=.seq (.region [ Yan] [1,6,7]) (.ret)
def zgU:ACode:=.seq (.region [ (oF 32 1 1 2),(oL 33 32),(oF 34 1 1 2),(oL 35 34),(oE 36 35),(oC 37 .sub 36 1),(oI 38 8 33 37),(oA 39 8 38),(oN 40 (.call zik [(.t 39)])),(oM 6 40)] [2,5,32,33,34,35,36,37,38,39,40]) (.seq (.seq (.region [ (oK 7 0)] []) (.block 2 (.loop zg9))) (zgT))
def zjr:ACode:=.seq (.region [ Yai,Yaa] [0,4]) (.seq (.seq (.region [ (oF 8 1 1 2),(oL 9 8),(oE 10 9),(oC 11 .eql 10 0)] [8,9,10]) (.cond (.t 11) (.seq (.region [ Yaa] [1,2,11]) (.ret)) (.skip))) (.seq (.seq (.region [ (oK 5 0)] [4,11]) (.block 0 (.loop zg2))) (zgU)))
def zbB:List ARet:=[.tmp 4]
theorem zn1:zT Tryz.prog zhv (qRo [2])=some (zjr.strip,zbB,60):=by kernel_rfl
def zf6:ACode:=.seq (.seq (.region [ (oM 22 3),(oF 23 6 1 1),(oL 24 23),(oE 25 24),(oB 26 .lss 22 25)] [22,23,24,25]) (.cond (.t 26) (.skip) (.exit 0))) (.seq (.block 1 (.seq (.region [ (oF 29 6 1 1),(oL 30 29),(oM 31 3),(oI 32 5 30 31),(oA 33 5 32),(oN 34 (.call zge [(.t 33)])),(oM 4 34)] [26,29,30,31,32,33,34]) (.seq (.region [ (oM 35 4),(oC 36 .neq 35 0)] [35]) (.cond (.t 36) (.seq (.region [ (oM 37 4),(oM 2 37)] [1,3,4,36,37]) (.ret)) (.skip))))) (.region [ (oM 27 3),(oC 28 .add 27 1),(oM 3 28)] [2,4,27,28,36]))
def zgB:ACode:=.seq (.seq (.region [ (oA 38 8 1),(oN 39 (.call zaD [(.t 38)])),(oN 40 (.un .not (.t 39))),(oM 41 40),(oG 42 41 false (.fldaddr 1 1 (.t 1))),(oG 43 41 false (.load false 1 (.t 42))),(oG 44 41 false (.call zie [(.t 43)])),(oG 45 41 false (.un .not (.t 44))),(oN 46 (.pick (.t 41) (.c (.bool true)) (.t 45))),(oM 47 46),(oG 48 47 false (.fldaddr 0 1 (.t 1))),(oG 49 47 false (.load false 1 (.t 48))),(oG 50 47 false (.bin .eql (.t 49) (.c (.int .i64 2)))),(oG 51 47 false (.mov (.t 50))),(oG 52 51 true (.fldaddr 2 1 (.t 1))),(oG 53 51 true (.load false 1 (.t 52))),(oG 54 51 true (.bin .neq (.t 53) (.c (.int .i64 1)))),(oG 55 47 false (.pick (.t 51) (.t 54) (.c (.bool false)))),(oG 56 47 false (.mov (.t 55))),(oG 57 56 true (.fldaddr 2 1 (.t 1))),(oG 58 56 true (.load false 1 (.t 57))),(oG 59 56 true (.bin .neq (.t 58) (.c (.int .i64 2)))),(oG 60 47 false (.pick (.t 56) (.t 59) (.c (.bool false)))),(oG 61 47 false (.mov (.t 60))),(oG 62 61 true (.fldaddr 2 1 (.t 1))),(oG 63 61 true (.load false 1 (.t 62))),(oG 64 61 true (.bin .neq (.t 63) (.c (.int .i64 4)))),(oG 65 47 false (.pick (.t 61) (.t 64) (.c (.bool false)))),(oN 66 (.pick (.t 47) (.c (.bool true)) (.t 65)))] [3,38,39,40,41,42,43,44,45,46,47,48,49,50,51,52,53,54,55,56,57,58,59,60,61,62,63,64,65]) (.cond (.t 66) (.seq (.region [ (oK 2 2)] [1,66]) (.ret)) (.skip))) (.seq (.seq (.region [ (oF 67 0 1 1),(oL 68 67),(oC 69 .eql 68 8),(oM 70 69),(oG 71 70 true (.fldaddr 7 1 (.t 1))),(oG 72 70 true (.load false 1 (.t 71))),(oG 73 70 true (.len (.t 72))),(oG 74 70 true (.bin .lss (.t 73) (.c (.int .i64 1)))),(oG 75 70 true (.mov (.t 74))),(oG 76 75 false (.fldaddr 7 1 (.t 1))),(oG 77 75 false (.load false 1 (.t 76))),(oG 78 75 false (.len (.t 77))),(oG 79 75 false (.bin .gtr (.t 78) (.c (.int .i64 64)))),(oG 80 70 true (.pick (.t 75) (.c (.bool true)) (.t 79))),(oN 81 (.pick (.t 70) (.t 80) (.c (.bool false))))] [1,2,66,67,68,69,70,71,72,73,74,75,76,77,78,79,80]) (.cond (.t 81) (.seq (.region [ (oK 2 2)] [81]) (.ret)) (.skip))) (.seq (.region [ (oK 2 0)] [81]) (.ret)))
def ziJ:ACode:=.seq (.region [ Yab,(oK 2 0)] [0,2]) (.seq (.seq (.draw ( .step (oF 5 0 1 1) ( .step (oL 6 5) ( .step (oC 7 .lss 6 1) ( .step (oM 8 7) ( .step (oG 9 8 false (.fldaddr 0 1 (.t 1))) ( .step (oG 10 8 false (.load false 1 (.t 9))) ( .step (oG 11 8 false (.bin .gtr (.t 10) (.c (.int .i64 10)))) ( .step (oN 12 (.pick (.t 8) (.c (.bool true)) (.t 11))) ( .step (oM 13 12) ( .step (oG 14 13 false (.fldaddr 6 1 (.t 1))) ( .step (oG 15 13 false (.load false 1 (.t 14))) ( .step (oG 16 13 false (.len (.t 15))) ( .step (oG 17 13 false (.fldaddr 0 1 (.t 1))) ( .step (oG 18 13 false (.load false 1 (.t 17))) ( .step (oG 19 13 false (.callq zkW [(.t 18)])) ( .step (oG 20 13 false (.bin .neq (.t 16) (.t 19))) ( .step (oN 21 (.pick (.t 13) (.c (.bool true)) (.t 20))) ( .done)))))))))))))))))) [5,6,7,8,9,10,11,12,13,14,15,16,17,18,19,20]) (.cond (.t 21) (.seq (.region [ (oK 2 2)] [1,21]) (.ret)) (.skip))) (.seq (.seq (.region [ (oK 3 0)] [2,21]) (.block 0 (.loop zf6))) (zgB)))
def zr:List ARet:=[.tmp 2]
theorem zmZ:zT Tryz.prog zd6 (qRo [1])=some (ziJ.strip,zr,82):=by kernel_rfl
def zj8:ACode:=.seq (.region [ Yab,Yaj] [0,2]) (.seq (.seq (.region [ (oF 3 0 1 1),(oL 4 3)] [3]) (.block 0 (.seq (.region [ (oC 6 .eql 4 6),(oM 5 6)] [6]) (.cond (.t 5) (.seq (.region [ (oF 7 3 1 1),(oL 8 7),(oN 9 (.buildSl 1 1 [.int .i64 0] [(0,(.t 8))])),(oM 2 9)] [1,4,5,7,8,9]) (.ret)) (.seq (.region [ (oC 11 .eql 4 7),(oM 10 11)] [5,11]) (.cond (.t 10) (.seq (.region [ (oF 12 3 1 1),(oL 13 12),(oF 14 4 1 1),(oL 15 14),(oN 16 (.buildSl 1 2 [.int .i64 0] [(0,(.t 13)),(1,(.t 15))])),(oM 2 16)] [1,4,10,12,13,14,15,16]) (.ret)) (.seq (.region [ (oC 18 .eql 4 8),(oM 17 18)] [4,10,18]) (.cond (.t 17) (.seq (.region [ (oF 19 7 1 1),(oL 20 19),(oM 2 20)] [1,17,19,20]) (.ret)) (.skip))))))))) (.seq (.region [ Yaj] [1,17]) (.ret)))
def zc9:List ARet:=[.tmp 2]
theorem zpb:zT Tryz.prog zik (qRo [1])=some (zj8.strip,zc9,21):=by kernel_rfl
def zaH:ACode:=.seq (.region [ Yaj] [2]) (.seq (.seq (.region [ (oM 3 0),(oN 4 (.isnil false false (.t 3)))] [3]) (.cond (.t 4) (.seq (.region [ Yaj] [0,4]) (.ret)) (.skip))) (.seq (.region [ (oN 5 (.buildSl 1 0 [.int .i64 0] [])),(oM 6 0),(oN 7 (.append 1 8 (.t 5) (.t 6))),(oM 2 7)] [0,4,5,6,7]) (.ret)))
def zF:List ARet:=[.tmp 2]
theorem zbs:zT Tryz.prog zw (qRo [])=some (zaH.strip,zF,8):=by kernel_rfl
def zcs:ACode:=.seq (.seq (.region [ (oM 29 5),(oM 30 4),(oE 31 30),(oB 32 .lss 29 31)] [29,30,31]) (.cond (.t 32) (.skip) (.exit 2))) (.seq (.block 3 (.seq (.draw ( .step (oM 35 4) ( .step (oM 36 5) ( .step (oI 37 1 35 36) ( .step (oL 38 37) ( .step (oM 39 4) ( .step (oM 40 5) ( .step (oC 41 .sub 40 1) ( .step (oI 42 1 39 41) ( .step (oL 43 42) ( .step (oB 44 .neq 38 43) ( .done))))))))))) [32,35,36,37,38,39,40,41,42,43]) (.cond (.t 44) (.seq (.region [ (oM 45 0),(oM 46 3),(oM 47 4),(oM 48 5),(oI 49 1 47 48),(oL 50 49),(oI 51 1 45 46),(oS 1 51 50)] [44,45,46,47,48,49,50,51]) (.region [ (oM 52 3),(oC 53 .add 52 1),(oM 3 53)] [52,53])) (.skip)))) (.region [ (oM 33 5),(oC 34 .add 33 1),(oM 5 34)] [33,34,44]))
def zcp:ACode:=.seq (.region [ (oM 54 0),(oM 55 3),(oN 56 (.slice 1 (.t 54) (some (.t 55)) none)),⟨none,.clear 1 [.int .i64 0] (.t 56),none⟩] [4,5,54,55,56]) (.seq (.region [ (oM 57 0),(oM 58 3),(oN 59 (.slice 1 (.t 57) none (some (.t 58)))),(oM 2 59)] [0,3,57,58,59]) (.ret))
def zcw:ACode:=.region [ (oM 14 3),(oC 15 .add 14 1),(oM 3 15)] [2,14,15,25]
def zcu:ACode:=.seq (.seq (.region [ (oM 10 3),(oM 11 0),(oE 12 11),(oB 13 .lss 10 12)] [10,11,12]) (.cond (.t 13) (.skip) (.exit 0))) (.seq (.block 1 (.seq (.draw ( .step (oM 16 0) ( .step (oM 17 3) ( .step (oI 18 1 16 17) ( .step (oL 19 18) ( .step (oM 20 0) ( .step (oM 21 3) ( .step (oC 22 .sub 21 1) ( .step (oI 23 1 20 22) ( .step (oL 24 23) ( .step (oB 25 .eql 19 24) ( .done))))))))))) [13,16,17,18,19,20,21,22,23,24]) (.cond (.t 25) (.seq (.region [ (oM 26 0),(oM 27 3),(oN 28 (.slice 1 (.t 26) (some (.t 27)) none)),(oM 4 28)] [25,26,27,28]) (.seq (.seq (.region [ (oK 5 1)] []) (.block 2 (.loop zcs))) (zcp))) (.skip)))) (zcw))
def zct:ACode:=.seq (.region [ (oM 60 0),(oM 2 60)] [0,3,60]) (.ret)
def zdk:ACode:=.seq (.region [ Yaj] [2]) (.seq (.seq (.region [ (oM 6 0),(oE 7 6),(oC 8 .lss 7 2)] [6,7]) (.cond (.t 8) (.seq (.region [ (oM 9 0),(oM 2 9)] [0,8,9]) (.ret)) (.skip))) (.seq (.seq (.region [ (oK 3 1)] [2,8]) (.block 0 (.loop zcu))) (zct)))
def zbc:List ARet:=[.tmp 2]
theorem zhu:zT Tryz.prog zY (qRo [])=some (zdk.strip,zbc,61):=by kernel_rfl
def zg7:ACode:=.seq (.region [ Yai,(oN 3 (.rbox (.t 1))),(oK 4 0)] [0,1,4]) (.seq (.seq (.region [ (oA 8 2 3),(oN 9 (.call zdW [(.t 8)])),(oM 5 9)] [8,9]) (.seq (.region [ (oM 10 5),(oC 11 .neq 10 0)] [10]) (.cond (.t 11) (.seq (.region [ (oM 12 5),(oM 4 12)] [2,3,5,11,12]) (.ret)) (.skip)))) (.seq (.region [ (oA 13 5 2),(oN 14 (.call zdN [(.t 13)])),(oM 6 14)] [4,5,11,13,14]) (.seq (.seq (.region [ (oM 15 6),(oN 16 (.call zC [(.t 15),(.c (.fn (.func zds) []))]))] [15]) (.cond (.t 16) (.seq (.region [ (oK 4 2)] [2,3,6,16]) (.ret)) (.skip))) (.seq (.seq (.region [ (oM 17 6),(oA 18 2 3),(oN 19 (.call zdJ [(.t 17),(.t 18)])),(oN 20 (.un .not (.t 19)))] [3,4,16,17,18,19]) (.cond (.t 20) (.seq (.region [ (oK 4 18)] [2,6,20]) (.ret)) (.skip))) (.seq (.seq (.region [ (oA 21 5 2),(oN 22 (.call zcb [(.t 21),(.c (.bool false))])),(oN 23 (.un .not (.t 22)))] [4,20,21,22]) (.cond (.t 23) (.seq (.region [ (oK 4 21)] [2,6,23]) (.ret)) (.skip))) (.seq (.region [ (oA 24 5 2),(oN 25 (.call zdG [(.t 24)])),(oN 7 (.alloc [.nilsl])),(oS 1 7 25)] [2,4,23,24,25]) (.seq (.seq (.region [ (oM 26 6),(oN 27 (.mkfn (.func zdw) [(.t 7)])),(oN 28 (.call zC [(.t 26),(.t 27)]))] [6,26,27]) (.cond (.t 28) (.seq (.region [ (oK 4 9)] [7,28]) (.ret)) (.skip))) (.seq (.region [ (oL 29 7),(oN 30 (.call zcA [(.t 29)]))] [4,28,29,30]) (.seq (.seq (.draw ( .alt (oL 31 7) ( .alt (oN 32 (.call zw [(.t 31)])) ( .alt (oN 33 (.call zY [(.t 32)])) ( .step (oE 34 33) ( .step (oL 35 7) ( .step (oE 36 35) ( .step (oB 37 .lss 34 36) ( .done))))) ( .alt (oL 35 7) ( .step (oE 36 35) ( .alt (oN 33 (.call zY [(.t 32)])) ( .step (oE 34 33) ( .step (oB 37 .lss 34 36) ( .done))) ( .stop))) ( .stop))) ( .alt (oL 35 7) ( .step (oE 36 35) ( .alt (oN 32 (.call zw [(.t 31)])) ( .alt (oN 33 (.call zY [(.t 32)])) ( .step (oE 34 33) ( .step (oB 37 .lss 34 36) ( .done))) ( .stop)) ( .stop))) ( .stop))) ( .alt (oL 35 7) ( .step (oE 36 35) ( .alt (oL 31 7) ( .alt (oN 32 (.call zw [(.t 31)])) ( .alt (oN 33 (.call zY [(.t 32)])) ( .step (oE 34 33) ( .step (oB 37 .lss 34 36) ( .done))) ( .stop)) ( .stop)) ( .stop))) ( .stop))) [7,31,32,33,34,35,36]) (.cond (.t 37) (.seq (.region [ (oK 4 8)] [37]) (.ret)) (.skip))) (.seq (.region [ (oK 4 0)] [37]) (.ret)))))))))))
def zap:List ARet:=[.tmp 4]
theorem zlN:zT Tryz.prog zeI (qRoL [2,3] [(15,[0,3,4,5,6,7,8,9,10,11,12,13,14,15,16,17,18,19,20,21,22,23,24,25,26,27,28,29,30,31,32,33,34,35,36,37,38,39,40,41,42,43,44,45,46,47,48,49,50,51,52,53,54,55,56,57,58,59,60,61,62,63,64,65,66,67,68,69,70,71,72,73,74,75,76,77,78,79,80,81,82,83,84,85,86,87,88,89,90,91,92,93,94,95,96,97,98,99,100,101,102,103,104,105,106,107,108,109,110,111,112,113,114,115,116,117,118,119,120,121,122,123,124,125,126,127,128,129,130,131,132,133,134,135,136,137,138,139,140,141,142,143,144,145,146,147,148,149])])=some (zg7.strip,zap,38):=by kernel_rfl
def zgj:ACode:=.seq (.seq (.region [ (oM 35 6),(oC 36 .geq 35 0)] [35]) (.cond (.t 36) (.skip) (.exit 2))) (.seq (.block 3 (.region [ (oM 39 4),(oF 40 4 1 5),(oL 41 40),(oM 42 6),(oI 43 5 41 42),(oA 44 5 43),(oN 45 (.buildSl 5 1 [.int .i64 0,.int .i64 0,.int .i64 0,.nilsl,.nilsl] [(0,(.t 44))])),(oN 46 (.append 5 72 (.t 39) (.t 45))),(oM 4 46)] [36,39,40,41,42,43,44,45,46])) (.region [ (oM 37 6),(oC 38 .sub 37 1),(oM 6 38)] [37,38]))
def zgc:ACode:=.seq (.seq (.region [ (oM 9 4),(oE 10 9),(oC 11 .gtr 10 0)] [9,10]) (.cond (.t 11) (.skip) (.exit 0))) (.block 1 (.seq (.region [ (oM 12 4),(oM 13 4),(oE 14 13),(oC 15 .sub 14 1),(oI 16 5 12 15),(oA 17 5 16),(oN 5 (.alloc [.int .i64 0,.int .i64 0,.int .i64 0,.nilsl,.nilsl])),(oS 5 5 17)] [11,12,13,14,15,16,17]) (.seq (.region [ (oM 18 4),(oM 19 4),(oE 20 19),(oC 21 .sub 20 1),(oN 22 (.slice 5 (.t 18) none (some (.t 21)))),(oM 4 22)] [18,19,20,21,22]) (.seq (.region [ (oM 23 3),(oA 24 5 5),(oN 25 (.buildSl 5 1 [.int .i64 0,.int .i64 0,.int .i64 0,.nilsl,.nilsl] [(0,(.t 24))])),(oN 26 (.append 5 72 (.t 23) (.t 25))),(oM 3 26)] [23,24,25,26]) (.seq (.seq (.region [ (oF 27 4 1 5),(oL 28 27),(oE 29 28),(oC 30 .eql 29 0)] [27,28,29]) (.cond (.t 30) (.exit 1) (.skip))) (.seq (.region [ (oF 31 4 1 5),(oL 32 31),(oE 33 32),(oC 34 .sub 33 1),(oM 6 34)] [30,31,32,33,34]) (.block 2 (.loop zgj))))))))
def zgo:ACode:=.seq (.region [ (oM 47 3),(oM 2 47)] [3,4,5,6,47]) (.ret)
def ziH:ACode:=.seq (.region [ Yab,(oN 2 (.mknil 5))] [0,2]) (.scope (.seq (.region [ (oN 3 (.mknil 5))] []) (.seq (.region [ (oA 7 5 1),(oN 8 (.buildSl 5 1 [.int .i64 0,.int .i64 0,.int .i64 0,.nilsl,.nilsl] [(0,(.t 7))])),(oM 4 8)] [1,7,8]) (.seq (.label 0) (.seq (.block 0 (.loop zgc)) (zgo))))))
def ziP:List ARet:=[.tmp 2]
theorem zmT:zT Tryz.prog zdN (qRo [1])=some (ziH.strip,ziP,48):=by kernel_rfl
def zb4:ACode:=.seq (.region [ Yaa] [4]) (.seq (.region [ (oM 5 0),(oM 6 1),(oN 7 (.call zak [(.t 5),(.t 6)])),(oC 8 .geq 7 0),(oM 4 8)] [0,1,5,6,7,8]) (.ret))
def zb3:List ARet:=[.tmp 4]
theorem ze2:zT Tryz.prog zbk (qRo [])=some (zb4.strip,zb3,9):=by kernel_rfl
def zi3:ACode:=.seq (.seq (.region [ (oM 23 8),(oF 24 4 1 3),(oL 25 24),(oE 26 25),(oB 27 .lss 23 26),(oM 28 27),(oG 29 28 true (.mov (.t 7))),(oG 30 28 true (.bin .geq (.t 29) (.c (.int .i64 0)))),(oN 31 (.pick (.t 28) (.t 30) (.c (.bool false))))] [23,24,25,26,27,28,29,30]) (.cond (.t 31) (.skip) (.exit 0))) (.seq (.block 1 (.region [ (oF 34 4 1 3),(oL 35 34),(oM 36 8),(oI 37 5 35 36),(oA 38 5 37),(oM 39 1),(oC 40 .sub 39 1),(oM 41 7),(oN 42 (.call zid [(.t 38),(.t 40),(.t 41)])),(oM 7 42)] [31,34,35,36,37,38,39,40,41,42])) (.region [ (oM 32 8),(oC 33 .add 32 1),(oM 8 33)] [32,33]))
def zf4:ACode:=.seq (.region [ (oM 43 7),(oM 6 43)] [1,3,7,8,43]) (.ret)
def zms:ACode:=.seq (.region [ (oN 3 (.rbox (.t 0))),(oK 6 0)] [0,6]) (.seq (.seq (.region [ (oM 9 1),(oC 10 .lss 9 1),(oM 11 10),(oG 12 11 false (.mov (.t 2))),(oG 13 11 false (.bin .lss (.t 12) (.c (.int .i64 1)))),(oN 14 (.pick (.t 11) (.c (.bool true)) (.t 13))),(oM 15 14),(oG 16 15 false (.fldaddr 4 1 (.t 3))),(oG 17 15 false (.load false 1 (.t 16))),(oG 18 15 false (.len (.t 17))),(oG 19 15 false (.bin .gtr (.t 18) (.c (.int .i64 4)))),(oN 20 (.pick (.t 15) (.c (.bool true)) (.t 19)))] [9,10,11,12,13,14,15,16,17,18,19]) (.cond (.t 20) (.seq (.region [ (oK 6 (-1))] [1,2,3,20]) (.ret)) (.skip))) (.seq (.region [ (oM 21 2),(oC 22 .sub 21 1),(oM 7 22)] [2,6,20,21,22]) (.seq (.seq (.region [ (oK 8 0)] []) (.block 0 (.loop zi3))) (zf4))))
def zdA:List ARet:=[.tmp 6]
theorem zsg:zT Tryz.prog zid (qRo [3])=some (zms.strip,zdA,44):=by kernel_rfl
def zjn:ACode:=.seq (.region [ (oB 14 .lss 13 12)] []) (.seq (.cond (.t 14) (.skip) (.exit 0)) (.seq (.block 1 (.seq (.region [ (oI 15 2 11 13),(oA 16 2 15),(oN 4 (.alloc [.int .u32 0,.nilsl])),(oS 2 4 16)] [14,15,16]) (.seq (.region [ (oF 17 1 1 4),(oL 18 17),(oE 19 18),(oM 5 19)] [17,18,19]) (.seq (.seq (.region [ (oM 20 5),(oC 21 .eql 20 0),(oM 22 21),(oG 23 22 false (.fldaddr 1 1 (.t 4))),(oG 24 22 false (.load false 1 (.t 23))),(oG 25 22 false (.mov (.t 5))),(oG 26 22 false (.bin .sub (.t 25) (.c (.int .i64 1)))),(oG 27 22 false (.idx 8 (.t 24) (.t 26))),(oG 28 22 false (.load true 8 (.t 27))),(oG 29 22 false (.call zcJ [(.t 28)])),(oG 30 22 false (.un .not (.t 29))),(oN 31 (.pick (.t 22) (.c (.bool true)) (.t 30))),(oM 32 31),(oG 33 32 false (.fldaddr 1 1 (.t 4))),(oG 34 32 false (.load false 1 (.t 33))),(oG 35 32 false (.mov (.t 5))),(oG 36 32 false (.bin .sub (.t 35) (.c (.int .i64 1)))),(oG 37 32 false (.slice 8 (.t 34) none (some (.t 36)))),(oG 38 32 false (.call zae [(.t 37),(.c (.fn (.func zcJ) []))])),(oN 39 (.pick (.t 32) (.c (.bool true)) (.t 38)))] [5,20,21,22,23,24,25,26,27,28,29,30,31,32,33,34,35,36,37,38]) (.cond (.t 39) (.seq (.region [ Yac] [1,4,11,12,13,39]) (.ret)) (.skip))) (.seq (.region [ (oA 40 2 4),(oN 41 (.call zgk [(.t 40)])),(oN 42 (.mkfn (.func zfT) [(.t 1)])),(oN 43 (.call zbk [(.t 41),(.t 42)]))] [2,4,39,40,41,42]) (.cond (.t 43) (.seq (.region [ Yac] [1,11,12,13,43]) (.ret)) (.skip))))))) (.region [ (oC 44 .add 13 1),(oM 13 44)] [2,43,44])))
def zi8:ACode:=.seq (.region [ (oN 2 (.mov (.c (.bool true))))] [1,11,12,13]) (.ret)
def zmQ:ACode:=.seq (.region [ Yab,Yac] [0,2]) (.seq (.seq (.region [ (oF 6 1 1 1),(oL 7 6),(oE 8 7),(oC 9 .eql 8 0)] [6,7,8]) (.cond (.t 9) (.seq (.region [ Yac] [1,9]) (.ret)) (.skip))) (.seq (.seq (.region [ (oF 10 1 1 1),(oL 11 10),(oE 12 11),(oK 13 0)] [2,9,10]) (.block 0 (.loop zjn))) (zi8)))
def zcC:List ARet:=[.tmp 2]
theorem zrK:zT Tryz.prog zkI (qRo [1])=some (zmQ.strip,zcC,45):=by kernel_rfl
def zg8:ACode:=.seq (.region [ (oB 23 .lss 22 21)] []) (.seq (.cond (.t 23) (.skip) (.exit 0)) (.seq (.block 1 (.seq (.region [ (oI 24 5 20 22),(oA 25 5 24),(oN 5 (.alloc [.int .i64 0,.int .u32 0,.int .i64 0,.int .i64 0,.nilsl])),(oS 5 5 25)] [23,24,25]) (.seq (.region [ (oA 26 5 5),(oN 27 (.call zeP [(.t 26)])),(oM 6 27)] [5,26,27]) (.seq (.region [ (oM 28 6),(oC 29 .neq 28 0)] [28]) (.cond (.t 29) (.seq (.region [ (oM 30 6),(oM 2 30)] [1,6,20,21,22,29,30]) (.ret)) (.skip)))))) (.region [ (oC 31 .add 22 1),(oM 22 31)] [2,6,29,31])))
def zhh:ACode:=.seq (.seq (.region [ (oA 32 8 1),(oN 33 (.call zaU [(.t 32)])),(oN 34 (.un .not (.t 33)))] [1,20,21,22,32,33]) (.cond (.t 34) (.seq (.region [ (oK 2 2)] [34]) (.ret)) (.skip))) (.seq (.region [ (oK 2 0)] [34]) (.ret))
def zjv:ACode:=.seq (.region [ Yab,(oK 2 0)] [0,2]) (.seq (.seq (.region [ (oF 7 0 1 1),(oL 8 7),(oN 9 (.call zfg [(.t 8)])),(oM 3 9)] [7,8,9]) (.seq (.region [ (oM 10 3),(oC 11 .lss 10 0),(oM 12 11),(oG 13 12 false (.mov (.t 3))),(oG 14 12 false (.fldaddr 6 1 (.t 1))),(oG 15 12 false (.load false 1 (.t 14))),(oG 16 12 false (.len (.t 15))),(oG 17 12 false (.bin .neq (.t 13) (.t 16))),(oN 18 (.pick (.t 12) (.c (.bool true)) (.t 17)))] [3,10,11,12,13,14,15,16,17]) (.cond (.t 18) (.seq (.region [ (oK 2 2)] [1,18]) (.ret)) (.skip)))) (.seq (.seq (.region [ (oF 19 6 1 1),(oL 20 19),(oE 21 20),(oK 22 0)] [2,18,19]) (.block 0 (.loop zg8))) (zhh)))
def zaG:List ARet:=[.tmp 2]
theorem znL:zT Tryz.prog zeQ (qRo [1])=some (zjv.strip,zaG,35):=by kernel_rfl
def znW:ACode:=.seq (.region [ Yab,Yac] [0,2]) (.seq (.region [ (oF 3 0 1 1),(oL 4 3),(oC 5 .geq 4 6),(oM 6 5),(oG 7 6 true (.fldaddr 0 1 (.t 1))),(oG 8 6 true (.load false 1 (.t 7))),(oG 9 6 true (.bin .leq (.t 8) (.c (.int .i64 10)))),(oN 10 (.pick (.t 6) (.t 9) (.c (.bool false)))),(oM 2 10)] [1,3,4,5,6,7,8,9,10]) (.ret))
def zkE:List ARet:=[.tmp 2]
theorem zuf:zT Tryz.prog zmo (qRo [1])=some (znW.strip,zkE,11):=by kernel_rfl
def zmx:ACode:=.seq (.region [ (oK 2 0)] [2]) (.seq (.seq (.region [ (oM 3 0)] [0]) (.block 0 (.seq (.region [ (oC 5 .eql 3 2),(oM 4 5)] [5]) (.cond (.t 4) (.seq (.region [ (oK 2 2)] [3,4]) (.ret)) (.seq (.seq (.region [ (oC 7 .eql 3 1),(oM 6 7)] [4,7]) (.cond (.t 6) (.skip) (.seq (.region [ (oC 8 .eql 3 4),(oM 6 8)] [8]) (.cond (.t 6) (.skip) (.seq (.region [ (oC 9 .eql 3 7),(oM 6 9)] [9]) (.cond (.t 6) (.skip) (.region [ (oC 10 .eql 3 8),(oM 6 10)] [3,10]))))))) (.cond (.t 6) (.seq (.region [ (oK 2 1)] [3,6]) (.ret)) (.skip))))))) (.seq (.region [ (oK 2 0)] [3,6]) (.ret)))
def zcH:List ARet:=[.tmp 2]
theorem zsM:zT Tryz.prog zkW (qRo [])=some (zmx.strip,zcH,11):=by kernel_rfl
def ziK:ACode:=.seq (.region [ Yab,(oK 2 0)] [0,2]) (.seq (.seq (.region [ (oA 3 5 1),(oN 4 (.call zha [(.t 3),(.c (.int .i64 64))]))] [3]) (.cond (.t 4) (.seq (.region [ (oK 2 20)] [1,4]) (.ret)) (.skip))) (.seq (.seq (.region [ (oA 5 5 1),(oN 6 (.call zeS [(.t 5)])),(oN 7 (.un .not (.t 6)))] [1,2,4,5,6]) (.cond (.t 7) (.seq (.region [ (oK 2 2)] [7]) (.ret)) (.skip))) (.seq (.region [ (oK 2 0)] [7]) (.ret))))
def zdm:List ARet:=[.tmp 2]
theorem zm0:zT Tryz.prog zge (qRo [1])=some (ziK.strip,zdm,8):=by kernel_rfl
def zaJ:ACode:=.seq (.region [ Yab,Yac] [0,2]) (.seq (.region [ (oF 5 0 1 1),(oL 6 5),(oC 7 .eql 6 1),(oM 8 7),(oG 9 8 false (.fldaddr 0 1 (.t 1))),(oG 10 8 false (.load false 1 (.t 9))),(oG 11 8 false (.bin .eql (.t 10) (.c (.int .i64 3)))),(oN 12 (.pick (.t 8) (.c (.bool true)) (.t 11))),(oM 3 12)] [5,6,7,8,9,10,11,12]) (.seq (.region [ (oF 13 0 1 1),(oL 14 13),(oC 15 .eql 14 6),(oM 16 15),(oG 17 16 false (.fldaddr 0 1 (.t 1))),(oG 18 16 false (.load false 1 (.t 17))),(oG 19 16 false (.bin .eql (.t 18) (.c (.int .i64 7)))),(oN 20 (.pick (.t 16) (.c (.bool true)) (.t 19))),(oM 4 20)] [13,14,15,16,17,18,19,20]) (.seq (.region [ (oM 21 3),(oM 22 21),(oG 23 22 false (.fldaddr 1 1 (.t 1))),(oG 24 22 false (.load false 1 (.t 23))),(oG 25 22 false (.bin .eql (.t 24) (.c (.int .i64 0)))),(oN 26 (.pick (.t 22) (.c (.bool true)) (.t 25))),(oM 27 26),(oG 28 27 true (.fldaddr 0 1 (.t 1))),(oG 29 27 true (.load false 1 (.t 28))),(oG 30 27 true (.bin .eql (.t 29) (.c (.int .i64 2)))),(oG 31 27 true (.mov (.t 30))),(oG 32 31 false (.fldaddr 2 1 (.t 1))),(oG 33 31 false (.load false 1 (.t 32))),(oG 34 31 false (.bin .eql (.t 33) (.c (.int .i64 0)))),(oG 35 27 true (.pick (.t 31) (.c (.bool true)) (.t 34))),(oN 36 (.pick (.t 27) (.t 35) (.c (.bool false)))),(oM 37 36),(oG 38 37 true (.mov (.t 4))),(oG 39 37 true (.mov (.t 38))),(oG 40 39 false (.fldaddr 3 1 (.t 1))),(oG 41 39 false (.load false 1 (.t 40))),(oG 42 39 false (.bin .eql (.t 41) (.c (.int .i64 0)))),(oG 43 37 true (.pick (.t 39) (.c (.bool true)) (.t 42))),(oN 44 (.pick (.t 37) (.t 43) (.c (.bool false)))),(oM 45 44),(oG 46 45 true (.fldaddr 0 1 (.t 1))),(oG 47 45 true (.load false 1 (.t 46))),(oG 48 45 true (.bin .eql (.t 47) (.c (.int .i64 7)))),(oG 49 45 true (.mov (.t 48))),(oG 50 49 false (.fldaddr 4 1 (.t 1))),(oG 51 49 false (.load false 1 (.t 50))),(oG 52 49 false (.bin .eql (.t 51) (.c (.int .i64 0)))),(oG 53 45 true (.pick (.t 49) (.c (.bool true)) (.t 52))),(oN 54 (.pick (.t 45) (.t 53) (.c (.bool false)))),(oM 55 54),(oG 56 55 true (.fldaddr 0 1 (.t 1))),(oG 57 55 true (.load false 1 (.t 56))),(oG 58 55 true (.bin .eql (.t 57) (.c (.int .i64 5)))),(oG 59 55 true (.mov (.t 58))),(oG 60 59 false (.fldaddr 5 1 (.t 1))),(oG 61 59 false (.load false 1 (.t 60))),(oG 62 59 false (.bin .eql (.t 61) (.c (.int .u32 0)))),(oG 63 55 true (.pick (.t 59) (.c (.bool true)) (.t 62))),(oN 64 (.pick (.t 55) (.t 63) (.c (.bool false)))),(oM 65 64),(oG 66 65 true (.fldaddr 0 1 (.t 1))),(oG 67 65 true (.load false 1 (.t 66))),(oG 68 65 true (.bin .eql (.t 67) (.c (.int .i64 8)))),(oG 69 65 true (.mov (.t 68))),(oG 70 69 false (.fldaddr 7 1 (.t 1))),(oG 71 69 false (.load false 1 (.t 70))),(oG 72 69 false (.len (.t 71))),(oG 73 69 false (.bin .eql (.t 72) (.c (.int .i64 0)))),(oG 74 65 true (.pick (.t 69) (.c (.bool true)) (.t 73))),(oN 75 (.pick (.t 65) (.t 74) (.c (.bool false)))),(oM 2 75)] [1,3,4,21,22,23,24,25,26,27,28,29,30,31,32,33,34,35,36,37,38,39,40,41,42,43,44,45,46,47,48,49,50,51,52,53,54,55,56,57,58,59,60,61,62,63,64,65,66,67,68,69,70,71,72,73,74,75]) (.ret))))
def zf:List ARet:=[.tmp 2]
theorem za9:zT Tryz.prog zaD (qRo [1])=some (zaJ.strip,zf,76):=by kernel_rfl
def zmC:ACode:=.seq (.region [ Yac] [2]) (.seq (.region [ (oM 3 0),(oC 4 .geq 3 0),(oM 5 4),(oG 6 5 true (.mov (.t 0))),(oG 7 5 true (.bin .lss (.t 6) (.c (.int .i64 65536)))),(oN 8 (.pick (.t 5) (.t 7) (.c (.bool false)))),(oM 2 8)] [0,3,4,5,6,7,8]) (.ret))
def zja:List ARet:=[.tmp 2]
theorem zsP:zT Tryz.prog zie (qRo [])=some (zmC.strip,zja,9):=by kernel_rfl
def za0:ACode:=.seq (.region [ Yaa] [4]) (.seq (.region [ (oM 5 0),(oM 6 1),(oN 7 (.call zar [(.t 5),(.t 6)])),(oC 8 .geq 7 0),(oM 4 8)] [0,1,5,6,7,8]) (.ret))
def za1:List ARet:=[.tmp 4]
theorem zcx:zT Tryz.prog zC (qRo [])=some (za0.strip,za1,9):=by kernel_rfl
def zfO:ACode:=.seq (.region [ Yab,Yac] [0,2]) (.seq (.region [ (oA 3 5 1),(oN 4 (.call zE [(.t 3)])),(oN 5 (.un .not (.t 4))),(oM 2 5)] [1,3,4,5]) (.ret))
def zfq:List ARet:=[.tmp 2]
theorem zjS:zT Tryz.prog zds (qRo [1])=some (zfO.strip,zfq,6):=by kernel_rfl
def zP:ACode:=.seq (.region [ Yab,Yac] [0,2]) (.seq (.region [ (oF 7 0 1 1),(oL 8 7),(oC 9 .eql 8 2),(oM 10 9),(oG 11 10 false (.fldaddr 0 1 (.t 1))),(oG 12 10 false (.load false 1 (.t 11))),(oG 13 10 false (.bin .eql (.t 12) (.c (.int .i64 5)))),(oN 14 (.pick (.t 10) (.c (.bool true)) (.t 13))),(oM 3 14)] [7,8,9,10,11,12,13,14]) (.seq (.region [ (oF 15 0 1 1),(oL 16 15),(oC 17 .eql 16 9),(oM 18 17),(oG 19 18 false (.fldaddr 0 1 (.t 1))),(oG 20 18 false (.load false 1 (.t 19))),(oG 21 18 false (.bin .eql (.t 20) (.c (.int .i64 10)))),(oN 22 (.pick (.t 18) (.c (.bool true)) (.t 21))),(oM 4 22)] [15,16,17,18,19,20,21,22]) (.seq (.region [ (oK 5 0),(oK 6 0)] []) (.seq (.seq (.region [ (oF 23 0 1 1),(oL 24 23)] [23]) (.block 0 (.seq (.region [ (oC 26 .eql 24 1),(oM 25 26)] [26]) (.cond (.t 25) (.region [ (oF 27 4 1 1),(oL 28 27),(oE 29 28),(oM 6 29)] [24,25,27,28,29]) (.seq (.region [ (oC 31 .eql 24 3),(oM 30 31)] [25,31]) (.cond (.t 30) (.region [ (oK 5 1),(oK 6 2)] [24,30]) (.seq (.region [ (oC 33 .eql 24 4),(oM 32 33)] [30,33]) (.cond (.t 32) (.region [ (oK 6 1)] [24,32]) (.seq (.region [ (oC 35 .eql 24 5),(oM 34 35)] [32,35]) (.cond (.t 34) (.region [ (oK 5 1),(oK 6 1)] [24,34]) (.seq (.region [ (oC 37 .eql 24 6),(oM 36 37)] [24,34,37]) (.cond (.t 36) (.draw ( .step (oF 38 4 1 1) ( .step (oL 39 38) ( .step (oE 40 39) ( .step (oN 41 (.xop .max [(.t 40),(.c (.int .i64 1))])) ( .step (oN 42 (.xop .min [(.t 41),(.c (.int .i64 64))])) ( .step (oK 5 1) ( .step (oM 6 42) ( .done)))))))) [36,38,39,40,41,42]) (.skip))))))))))))) (.seq (.seq (.region [ (oF 43 0 1 1),(oL 44 43),(oC 45 .lss 44 1),(oM 46 45),(oG 47 46 false (.fldaddr 0 1 (.t 1))),(oG 48 46 false (.load false 1 (.t 47))),(oG 49 46 false (.bin .gtr (.t 48) (.c (.int .i64 12)))),(oN 50 (.pick (.t 46) (.c (.bool true)) (.t 49))),(oM 51 50),(oG 52 51 false (.fldaddr 3 1 (.t 1))),(oG 53 51 false (.load false 1 (.t 52))),(oG 54 51 false (.len (.t 53))),(oG 55 51 false (.mov (.t 5))),(oG 56 51 false (.bin .neq (.t 54) (.t 55))),(oN 57 (.pick (.t 51) (.c (.bool true)) (.t 56))),(oM 58 57),(oG 59 58 false (.fldaddr 4 1 (.t 1))),(oG 60 58 false (.load false 1 (.t 59))),(oG 61 58 false (.len (.t 60))),(oG 62 58 false (.mov (.t 6))),(oG 63 58 false (.bin .neq (.t 61) (.t 62))),(oN 64 (.pick (.t 58) (.c (.bool true)) (.t 63))),(oM 65 64),(oG 66 65 false (.mov (.t 3))),(oG 67 65 false (.un .not (.t 66))),(oG 68 65 false (.mov (.t 67))),(oG 69 68 true (.fldaddr 1 1 (.t 1))),(oG 70 68 true (.load false 1 (.t 69))),(oG 71 68 true (.bin .neq (.t 70) (.c (.int .i64 0)))),(oG 72 65 false (.pick (.t 68) (.t 71) (.c (.bool false)))),(oN 73 (.pick (.t 65) (.c (.bool true)) (.t 72))),(oM 74 73),(oG 75 74 false (.mov (.t 4))),(oG 76 74 false (.un .not (.t 75))),(oG 77 74 false (.mov (.t 76))),(oG 78 77 true (.fldaddr 2 1 (.t 1))),(oG 79 77 true (.load false 1 (.t 78))),(oG 80 77 true (.bin .neq (.t 79) (.c (.int .i64 0)))),(oG 81 74 false (.pick (.t 77) (.t 80) (.c (.bool false)))),(oN 82 (.pick (.t 74) (.c (.bool true)) (.t 81))),(oM 83 82),(oG 84 83 false (.fldaddr 2 1 (.t 1))),(oG 85 83 false (.load false 1 (.t 84))),(oG 86 83 false (.bin .lss (.t 85) (.c (.int .i64 0)))),(oN 87 (.pick (.t 83) (.c (.bool true)) (.t 86)))] [3,4,6,36,43,44,45,46,47,48,49,50,51,52,53,54,55,56,57,58,59,60,61,62,63,64,65,66,67,68,69,70,71,72,73,74,75,76,77,78,79,80,81,82,83,84,85,86]) (.cond (.t 87) (.seq (.region [ Yac] [1,5,87]) (.ret)) (.skip))) (.seq (.region [ (oM 88 5),(oC 89 .eql 88 0),(oM 90 89),(oG 91 90 false (.fldaddr 3 1 (.t 1))),(oG 92 90 false (.load false 1 (.t 91))),(oG 93 90 false (.idx 5 (.t 92) (.c (.int .i64 0)))),(oG 94 90 false (.load true 5 (.t 93))),(oG 95 90 false (.call zeP [(.t 94)])),(oG 96 90 false (.bin .eql (.t 95) (.c (.int .i64 0)))),(oN 97 (.pick (.t 90) (.c (.bool true)) (.t 96))),(oM 2 97)] [1,5,87,88,89,90,91,92,93,94,95,96,97]) (.ret)))))))
def zb:List ARet:=[.tmp 2]
theorem zS:zT Tryz.prog zE (qRo [1])=some (zP.strip,zb,98):=by kernel_rfl
def zeo:ACode:=.seq (.region [ (oB 19 .lss 18 17)] []) (.seq (.cond (.t 19) (.skip) (.exit 0)) (.seq (.block 1 (.seq (.region [ (oI 20 5 16 18),(oA 21 5 20),(oN 8 (.alloc [.int .i64 0,.int .i64 0,.int .i64 0,.nilsl,.nilsl])),(oS 5 8 21)] [19,20,21]) (.seq (.seq (.region [ (oF 22 0 1 8),(oL 23 22),(oC 24 .neq 23 2),(oM 25 24),(oG 26 25 true (.fldaddr 0 1 (.t 8))),(oG 27 25 true (.load false 1 (.t 26))),(oG 28 25 true (.bin .neq (.t 27) (.c (.int .i64 5)))),(oN 29 (.pick (.t 25) (.t 28) (.c (.bool false))))] [22,23,24,25,26,27,28]) (.cond (.t 29) (.exit 1) (.skip))) (.seq (.seq (.region [ (oF 30 1 1 8),(oL 31 30),(oC 32 .lss 31 0),(oM 33 32),(oG 34 33 false (.fldaddr 1 1 (.t 8))),(oG 35 33 false (.load false 1 (.t 34))),(oG 36 33 false (.mov (.t 5))),(oG 37 33 false (.len (.t 36))),(oG 38 33 false (.bin .geq (.t 35) (.t 37))),(oN 39 (.pick (.t 33) (.c (.bool true)) (.t 38))),(oM 40 39),(oG 41 40 false (.mov (.t 5))),(oG 42 40 false (.fldaddr 1 1 (.t 8))),(oG 43 40 false (.load false 1 (.t 42))),(oG 44 40 false (.idx 1 (.t 41) (.t 43))),(oG 45 40 false (.load false 1 (.t 44))),(oG 46 40 false (.un .not (.t 45))),(oN 47 (.pick (.t 40) (.c (.bool true)) (.t 46)))] [29,30,31,32,33,34,35,36,37,38,39,40,41,42,43,44,45,46]) (.cond (.t 47) (.seq (.region [ Yaa] [3,5,6,8,16,17,18,47]) (.ret)) (.skip))) (.seq (.seq (.region [ (oF 48 0 1 8),(oL 49 48),(oC 50 .eql 49 5),(oM 51 50),(oG 52 51 true (.fldaddr 1 1 (.t 3))),(oG 53 51 true (.load false 1 (.t 52))),(oG 54 51 true (.fldaddr 1 1 (.t 8))),(oG 55 51 true (.load false 1 (.t 54))),(oG 56 51 true (.idx 2 (.t 53) (.t 55))),(oG 57 51 true (.fldaddr 1 1 (.t 56))),(oG 58 51 true (.load false 1 (.t 57))),(oG 59 51 true (.len (.t 58))),(oG 60 51 true (.bin .gtr (.t 59) (.c (.int .i64 1)))),(oN 61 (.pick (.t 51) (.t 60) (.c (.bool false))))] [4,47,48,49,50,51,52,53,54,55,56,57,58,59,60]) (.cond (.t 61) (.seq (.region [ Yaa] [3,5,6,8,16,17,18,61]) (.ret)) (.skip))) (.region [ (oM 62 6),(oF 63 1 1 8),(oL 64 63),(oI 65 1 62 64),(oL 66 65),(oC 67 .add 66 1),(oI 68 1 62 64),(oS 1 68 67)] [4,8,61,62,63,64,65,66,67,68])))))) (.region [ (oC 69 .add 18 1),(oM 18 69)] [69])))
def zet:ACode:=.seq (.region [ (oB 73 .lss 72 71)] []) (.seq (.cond (.t 73) (.skip) (.exit 2)) (.seq (.block 3 (.seq (.region [ (oM 74 72),(oI 75 1 70 72),(oL 76 75),(oM 9 74),(oM 10 76)] [73,74,75,76]) (.seq (.region [ (oM 77 10),(oM 78 77),(oG 79 78 true (.mov (.t 6))),(oG 80 78 true (.mov (.t 9))),(oG 81 78 true (.idx 1 (.t 79) (.t 80))),(oG 82 78 true (.load false 1 (.t 81))),(oG 83 78 true (.bin .neq (.t 82) (.c (.int .i64 1)))),(oN 84 (.pick (.t 78) (.t 83) (.c (.bool false))))] [9,10,77,78,79,80,81,82,83]) (.cond (.t 84) (.seq (.region [ Yaa] [6,70,71,72,84]) (.ret)) (.skip))))) (.region [ (oC 85 .add 72 1),(oM 72 85)] [4,84,85])))
def zev:ACode:=.seq (.region [ Yan] [6,70,71,72]) (.ret)
def zed:ACode:=.seq (.seq (.region [ (oM 70 5),(oE 71 70),(oK 72 0)] [3,5,16,17,18]) (.block 2 (.loop zet))) (zev)
def zgE:ACode:=.seq (.region [ (oN 3 (.rbox (.t 1))),Yaa] [1,4]) (.seq (.region [ (oA 11 2 3),(oN 12 (.call zcD [(.t 11)])),(oM 5 12)] [11,12]) (.seq (.region [ (oM 13 5),(oE 14 13),(oN 15 (.mksl 1 8 [.int .i64 0] (.t 14) (.t 14))),(oM 6 15)] [13,14,15]) (.seq (.seq (.region [ (oM 16 0),(oE 17 16),(oK 18 0)] [0]) (.block 0 (.loop zeo))) (zed))))
def zW:List ARet:=[.tmp 4]
theorem zk1:zT Tryz.prog zdJ (qRo [3])=some (zgE.strip,zW,86):=by kernel_rfl
def zfJ:ACode:=.seq (.region [ Yai,(oN 3 (.box (.t 1))),Yaa] [0,1,4]) (.seq (.seq (.region [ (oF 5 0 1 2),(oL 6 5),(oC 7 .eql 6 7),(oM 8 7),(oG 9 8 false (.fldaddr 0 1 (.t 2))),(oG 10 8 false (.load false 1 (.t 9))),(oG 11 8 false (.bin .eql (.t 10) (.c (.int .i64 8)))),(oN 12 (.pick (.t 8) (.c (.bool true)) (.t 11))),(oM 13 12),(oG 14 13 true (.load false 1 (.t 3))),(oG 15 13 true (.un .not (.t 14))),(oN 16 (.pick (.t 13) (.t 15) (.c (.bool false))))] [5,6,7,8,9,10,11,12,13,14,15]) (.cond (.t 16) (.seq (.region [ Yaa] [2,3,16]) (.ret)) (.skip))) (.seq (.region [ (oL 17 3),(oM 18 17),(oG 19 18 false (.fldaddr 0 1 (.t 2))),(oG 20 18 false (.load false 1 (.t 19))),(oG 21 18 false (.bin .eql (.t 20) (.c (.int .i64 4)))),(oN 22 (.pick (.t 18) (.c (.bool true)) (.t 21))),(oM 23 22),(oG 24 23 false (.fldaddr 0 1 (.t 2))),(oG 25 23 false (.load false 1 (.t 24))),(oG 26 23 false (.bin .eql (.t 25) (.c (.int .i64 5)))),(oN 27 (.pick (.t 23) (.c (.bool true)) (.t 26))),(oS 1 3 27)] [4,16,17,18,19,20,21,22,23,24,25,26,27]) (.seq (.region [ (oF 28 4 1 2),(oL 29 28),(oN 30 (.mkfn (.func zbH) [(.t 3)])),(oN 31 (.call zC [(.t 29),(.t 30)])),(oN 32 (.un .not (.t 31))),(oM 4 32)] [2,3,28,29,30,31,32]) (.ret))))
def zA:List ARet:=[.tmp 4]
theorem zj5:zT Tryz.prog zcb (qRo [2])=some (zfJ.strip,zA,33):=by kernel_rfl
def zel:ACode:=.seq (.region [ (oB 10 .lss 9 8)] []) (.seq (.cond (.t 10) (.skip) (.exit 0)) (.seq (.block 1 (.seq (.region [ (oI 11 5 7 9),(oA 12 5 11),(oN 5 (.alloc [.int .i64 0,.int .i64 0,.int .i64 0,.nilsl,.nilsl])),(oS 5 5 12)] [10,11,12]) (.seq (.region [ (oF 13 0 1 5),(oL 14 13),(oC 15 .eql 14 10)] [13,14]) (.cond (.t 15) (.region [ (oM 16 3),(oF 17 2 1 5),(oL 18 17),(oN 19 (.buildSl 1 1 [.int .i64 0] [(0,(.t 18))])),(oN 20 (.append 1 8 (.t 16) (.t 19))),(oM 3 20)] [5,15,16,17,18,19,20]) (.skip))))) (.region [ (oC 21 .add 9 1),(oM 9 21)] [5,15,21])))
def zen:ACode:=.seq (.region [ (oM 22 3),(oM 2 22)] [3,7,8,9,22]) (.ret)
def zgy:ACode:=.seq (.region [ Yab,Yaj] [0,2]) (.seq (.region [ (oN 3 (.mknil 1))] []) (.seq (.seq (.region [ (oA 6 5 1),(oN 7 (.call zdN [(.t 6)])),(oE 8 7),(oK 9 0)] [1,6]) (.block 0 (.loop zel))) (zen)))
def zgt:List ARet:=[.tmp 2]
theorem zk7:zT Tryz.prog zdG (qRo [1])=some (zgy.strip,zgt,23):=by kernel_rfl
def zfD:ACode:=.seq (.region [ Yai,Yap] [0,3]) (.seq (.region [ (oF 4 0 1 2),(oL 5 4),(oC 6 .eql 5 9),(oM 7 6),(oG 8 7 true (.load false 1 (.t 1))),(oG 9 7 true (.fldaddr 2 1 (.t 2))),(oG 10 7 true (.load false 1 (.t 9))),(oG 11 7 true (.call zbK [(.t 8),(.t 10)])),(oG 12 7 true (.un .not (.t 11))),(oN 13 (.pick (.t 7) (.t 12) (.c (.bool false)))),(oM 3 13)] [1,2,4,5,6,7,8,9,10,11,12,13]) (.ret))
def zc6:List ARet:=[.tmp 3]
theorem zjV:zT Tryz.prog zdw (qRo [2])=some (zfD.strip,zc6,14):=by kernel_rfl
def zcV:ACode:=.seq (.region [ Yaa] [4]) (.seq (.region [ (oM 5 0),(oM 6 1),(oN 7 (.call zcm [(.t 5),(.t 6)])),(oC 8 .geq 7 0),(oM 4 8)] [0,1,5,6,7,8]) (.ret))
def zcX:List ARet:=[.tmp 4]
theorem zgP:zT Tryz.prog zbK (qRo [])=some (zcV.strip,zcX,9):=by kernel_rfl
def ziF:ACode:=.seq (.region [ Yab,Yaj] [0,2]) (.seq (.seq (.region [ (oF 4 1 1 1),(oL 5 4),(oE 6 5),(oC 7 .eql 6 0)] [4,5,6]) (.cond (.t 7) (.seq (.region [ Yaj] [1,7]) (.ret)) (.skip))) (.seq (.region [ (oF 8 1 1 1),(oL 9 8),(oF 10 1 1 1),(oL 11 10),(oE 12 11),(oC 13 .sub 12 1),(oI 14 8 9 13),(oA 15 8 14),(oN 3 (.alloc [.int .i64 0,.int .i64 0,.int .i64 0,.int .i64 0,.int .i64 0,.int .u32 0,.nilsl,.nilsl])),(oS 8 3 15)] [1,2,7,8,9,10,11,12,13,14,15]) (.seq (.seq (.region [ (oF 16 0 1 3),(oL 17 16)] [16]) (.block 0 (.seq (.region [ (oC 19 .eql 17 6),(oM 18 19)] [19]) (.cond (.t 18) (.seq (.region [ (oF 20 3 1 3),(oL 21 20),(oN 22 (.buildSl 1 1 [.int .i64 0] [(0,(.t 21))])),(oM 2 22)] [3,17,18,20,21,22]) (.ret)) (.seq (.region [ (oC 24 .eql 17 7),(oM 23 24)] [18,24]) (.cond (.t 23) (.seq (.region [ (oF 25 3 1 3),(oL 26 25),(oF 27 4 1 3),(oL 28 27),(oN 29 (.buildSl 1 2 [.int .i64 0] [(0,(.t 26)),(1,(.t 28))])),(oM 2 29)] [3,17,23,25,26,27,28,29]) (.ret)) (.seq (.region [ (oC 31 .eql 17 8),(oM 30 31)] [17,23,31]) (.cond (.t 30) (.seq (.region [ (oF 32 7 1 3),(oL 33 32),(oN 34 (.call zw [(.t 33)])),(oM 2 34)] [3,30,32,33,34]) (.ret)) (.skip))))))))) (.seq (.region [ Yaj] [3,30]) (.ret)))))
def zbG:List ARet:=[.tmp 2]
theorem zmY:zT Tryz.prog zgk (qRo [1])=some (ziF.strip,zbG,35):=by kernel_rfl
def zbf:ACode:=.seq (.region [ (oB 9 .lss 8 7)] []) (.seq (.cond (.t 9) (.skip) (.exit 0)) (.seq (.block 1 (.seq (.region [ (oM 10 8),(oM 5 10)] [9,10]) (.seq (.region [ (oM 11 1),(oM 12 0),(oM 13 5),(oI 14 1 12 13),(oL 15 14),(oN 16 (.callv (.t 11) [(.t 15)]))] [11,12,13,14,15]) (.cond (.t 16) (.seq (.region [ (oM 17 5),(oM 4 17)] [0,1,5,7,8,16,17]) (.ret)) (.skip))))) (.region [ (oC 18 .add 8 1),(oM 8 18)] [4,5,16,18])))
def zbj:ACode:=.seq (.region [ (oK 4 (-1))] [0,1,7,8]) (.ret)
def zbx:ACode:=.seq (.region [ (oK 4 0)] [4]) (.seq (.seq (.region [ (oM 6 0),(oE 7 6),(oK 8 0)] [6]) (.block 0 (.loop zbf))) (zbj))
def zag:List ARet:=[.tmp 4]
theorem zcE:zT Tryz.prog zak (qRo [])=some (zbx.strip,zag,19):=by kernel_rfl
def ziA:ACode:=.seq (.region [ Yab,Yac] [0,2]) (.seq (.region [ (oF 3 0 1 1),(oL 4 3),(oC 5 .geq 4 6),(oM 6 5),(oG 7 6 true (.fldaddr 0 1 (.t 1))),(oG 8 6 true (.load false 1 (.t 7))),(oG 9 6 true (.bin .leq (.t 8) (.c (.int .i64 10)))),(oN 10 (.pick (.t 6) (.t 9) (.c (.bool false)))),(oM 2 10)] [1,3,4,5,6,7,8,9,10]) (.ret))
def zfi:List ARet:=[.tmp 2]
theorem zmX:zT Tryz.prog zcJ (qRo [1])=some (ziA.strip,zfi,11):=by kernel_rfl
def zaX:ACode:=.seq (.region [ Yaa] [4]) (.seq (.region [ (oM 5 0),(oM 6 1),(oN 7 (.call zas [(.t 5),(.t 6)])),(oC 8 .geq 7 0),(oM 4 8)] [0,1,5,6,7,8]) (.ret))
def za4:List ARet:=[.tmp 4]
theorem zcz:zT Tryz.prog zae (qRo [])=some (zaX.strip,za4,9):=by kernel_rfl
def zke:ACode:=.seq (.region [ Yap] [3]) (.seq (.region [ (oM 4 0),(oC 5 .lss 4 0),(oM 6 5),(oG 7 6 false (.mov (.t 0))),(oG 8 6 false (.fldaddr 1 1 (.t 1))),(oG 9 6 false (.load false 1 (.t 8))),(oG 10 6 false (.len (.t 9))),(oG 11 6 false (.bin .geq (.t 7) (.t 10))),(oN 12 (.pick (.t 6) (.c (.bool true)) (.t 11))),(oM 3 12)] [0,1,4,5,6,7,8,9,10,11,12]) (.ret))
def zeT:List ARet:=[.tmp 3]
theorem zo0:zT Tryz.prog zfT (qRo [])=some (zke.strip,zeT,13):=by kernel_rfl
def zhU:ACode:=.seq (.region [ (oK 2 0)] [2]) (.seq (.seq (.region [ (oM 3 0)] [0]) (.block 0 (.seq (.seq (.region [ (oC 5 .eql 3 1),(oM 4 5)] [5]) (.cond (.t 4) (.skip) (.seq (.region [ (oC 6 .eql 3 4),(oM 4 6)] [6]) (.cond (.t 4) (.skip) (.seq (.region [ (oC 7 .eql 3 7),(oM 4 7)] [7]) (.cond (.t 4) (.skip) (.region [ (oC 8 .eql 3 8),(oM 4 8)] [8]))))))) (.cond (.t 4) (.seq (.region [ (oK 2 1)] [3,4]) (.ret)) (.seq (.region [ (oC 10 .eql 3 2),(oM 9 10)] [4,10]) (.cond (.t 9) (.seq (.region [ (oK 2 2)] [3,9]) (.ret)) (.seq (.seq (.region [ (oC 12 .eql 3 3),(oM 11 12)] [9,12]) (.cond (.t 11) (.skip) (.seq (.region [ (oC 13 .eql 3 5),(oM 11 13)] [13]) (.cond (.t 11) (.skip) (.seq (.region [ (oC 14 .eql 3 6),(oM 11 14)] [14]) (.cond (.t 11) (.skip) (.seq (.region [ (oC 15 .eql 3 9),(oM 11 15)] [15]) (.cond (.t 11) (.skip) (.region [ (oC 16 .eql 3 10),(oM 11 16)] [3,16]))))))))) (.cond (.t 11) (.seq (.region [ (oK 2 0)] [3,11]) (.ret)) (.skip))))))))) (.seq (.region [ (oK 2 (-1))] [3,11]) (.ret)))
def zU:List ARet:=[.tmp 2]
theorem zl2:zT Tryz.prog zfg (qRo [])=some (zhU.strip,zU,17):=by kernel_rfl
def ziZ:ACode:=.seq (.region [ Yab,(oK 2 0)] [0,2]) (.seq (.block 0 (.seq (.region [ (oA 4 5 1),(oN 5 (.call zg3 [(.t 4),(.c (.int .i64 64))])),(oN 6 (.un .not (.t 5))),(oM 3 6)] [4,5,6]) (.cond (.t 3) (.seq (.region [ (oK 2 20)] [1,3]) (.ret)) (.seq (.region [ (oA 8 5 1),(oN 9 (.call zay [(.t 8)])),(oN 10 (.un .not (.t 9))),(oM 7 10)] [1,3,8,9,10]) (.cond (.t 7) (.seq (.region [ (oK 2 2)] [7]) (.ret)) (.skip)))))) (.seq (.region [ (oK 2 0)] [7]) (.ret)))
def zdI:List ARet:=[.tmp 2]
theorem znV:zT Tryz.prog zeP (qRo [1])=some (ziZ.strip,zdI,11):=by kernel_rfl
def zbg:ACode:=.seq (.region [ Yab,Yac] [0,2]) (.seq (.region [ (oN 3 (.alloc [.int .i64 0,.int .i64 0,.int .i64 0,.int .i64 0,.int .i64 0,.int .u32 0,.nilsl,.nilsl]))] []) (.seq (.region [ (oK 4 0)] []) (.seq (.seq (.region [ (oF 5 0 1 1),(oL 6 5)] [5]) (.block 0 (.seq (.seq (.region [ (oC 8 .eql 6 1),(oM 7 8)] [8]) (.cond (.t 7) (.skip) (.region [ (oC 9 .eql 6 3),(oM 7 9)] [9]))) (.cond (.t 7) (.seq (.region [ (oF 10 1 1 1),(oL 11 10),(oF 12 1 1 3),(oS 1 12 11)] [6,7,10,11,12]) (.seq (.region [ (oF 13 1 1 1),(oL 14 13),(oN 15 (.call zfZ [(.t 14)])),(oN 16 (.un .not (.t 15)))] [13,14,15]) (.cond (.t 16) (.seq (.region [ Yac] [1,3,4,16]) (.ret)) (.skip)))) (.seq (.region [ (oC 18 .eql 6 2),(oM 17 18)] [7,18]) (.cond (.t 17) (.seq (.region [ (oF 19 2 1 1),(oL 20 19),(oF 21 2 1 3),(oS 1 21 20)] [6,17,19,20,21]) (.seq (.region [ (oF 22 2 1 1),(oL 23 22),(oN 24 (.call zij [(.t 23)])),(oN 25 (.un .not (.t 24)))] [22,23,24]) (.cond (.t 25) (.seq (.region [ Yac] [1,3,4,25]) (.ret)) (.skip)))) (.seq (.region [ (oC 27 .eql 6 5),(oM 26 27)] [17,27]) (.cond (.t 26) (.region [ (oF 28 5 1 1),(oL 29 28),(oF 30 5 1 3),(oS 1 30 29)] [6,26,28,29,30]) (.seq (.region [ (oC 32 .eql 6 6),(oM 31 32)] [26,32]) (.cond (.t 31) (.region [ (oF 33 3 1 1),(oL 34 33),(oF 35 3 1 3),(oS 1 35 34)] [6,31,33,34,35]) (.seq (.region [ (oC 37 .eql 6 7),(oM 36 37)] [31,37]) (.cond (.t 36) (.draw ( .step (oF 38 3 1 1) ( .step (oL 39 38) ( .step (oF 40 4 1 1) ( .step (oF 42 3 1 3) ( .alt (oL 41 40) ( .alt (oS 1 42 39) ( .step (oF 43 4 1 3) ( .alt (oS 1 43 41) ( .done) ( .stop))) ( .stop)) ( .alt (oS 1 42 39) ( .step (oL 41 40) ( .step (oF 43 4 1 3) ( .alt (oS 1 43 41) ( .done) ( .stop)))) ( .stop))))))) [6,36,38,39,40,41,42,43]) (.seq (.region [ (oC 45 .eql 6 8),(oM 44 45)] [6,36,45]) (.cond (.t 44) (.seq (.region [ (oF 46 7 1 1),(oL 47 46),(oE 48 47),(oM 4 48)] [44,46,47,48]) (.seq (.region [ (oM 49 4),(oC 50 .lss 49 1),(oM 51 50),(oG 52 51 false (.mov (.t 4))),(oG 53 51 false (.bin .gtr (.t 52) (.c (.int .i64 64)))),(oN 54 (.pick (.t 51) (.c (.bool true)) (.t 53)))] [49,50,51,52,53]) (.cond (.t 54) (.seq (.region [ Yac] [1,3,4,54]) (.ret)) (.skip)))) (.skip))))))))))))))) (.seq (.region [ (oF 55 1 1 1),(oL 56 55),(oF 57 1 1 3),(oL 58 57),(oB 59 .eql 56 58),(oM 60 59),(oG 61 60 true (.fldaddr 2 1 (.t 1))),(oG 62 60 true (.load false 1 (.t 61))),(oG 63 60 true (.fldaddr 2 1 (.t 3))),(oG 64 60 true (.load false 1 (.t 63))),(oG 65 60 true (.bin .eql (.t 62) (.t 64))),(oN 66 (.pick (.t 60) (.t 65) (.c (.bool false)))),(oM 67 66),(oG 68 67 true (.fldaddr 5 1 (.t 1))),(oG 69 67 true (.load false 1 (.t 68))),(oG 70 67 true (.fldaddr 5 1 (.t 3))),(oG 71 67 true (.load false 1 (.t 70))),(oG 72 67 true (.bin .eql (.t 69) (.t 71))),(oN 73 (.pick (.t 67) (.t 72) (.c (.bool false)))),(oM 74 73),(oG 75 74 true (.fldaddr 3 1 (.t 1))),(oG 76 74 true (.load false 1 (.t 75))),(oG 77 74 true (.fldaddr 3 1 (.t 3))),(oG 78 74 true (.load false 1 (.t 77))),(oG 79 74 true (.bin .eql (.t 76) (.t 78))),(oN 80 (.pick (.t 74) (.t 79) (.c (.bool false)))),(oM 81 80),(oG 82 81 true (.fldaddr 4 1 (.t 1))),(oG 83 81 true (.load false 1 (.t 82))),(oG 84 81 true (.fldaddr 4 1 (.t 3))),(oG 85 81 true (.load false 1 (.t 84))),(oG 86 81 true (.bin .eql (.t 83) (.t 85))),(oN 87 (.pick (.t 81) (.t 86) (.c (.bool false)))),(oM 88 87),(oG 89 88 true (.fldaddr 7 1 (.t 1))),(oG 90 88 true (.load false 1 (.t 89))),(oG 91 88 true (.len (.t 90))),(oG 92 88 true (.mov (.t 4))),(oG 93 88 true (.bin .eql (.t 91) (.t 92))),(oN 94 (.pick (.t 88) (.t 93) (.c (.bool false)))),(oM 2 94)] [1,3,4,16,25,44,54,55,56,57,58,59,60,61,62,63,64,65,66,67,68,69,70,71,72,73,74,75,76,77,78,79,80,81,82,83,84,85,86,87,88,89,90,91,92,93,94]) (.ret)))))
def zd:List ARet:=[.tmp 2]
theorem zbu:zT Tryz.prog zaU (qRo [1])=some (zbg.strip,zd,95):=by kernel_rfl
def ziy:ACode:=.seq (.seq (.region [ (oM 8 5),(oF 9 4 1 2),(oL 10 9),(oE 11 10),(oB 12 .lss 8 11)] [8,9,10,11]) (.cond (.t 12) (.skip) (.exit 0))) (.seq (.block 1 (.seq (.region [ (oF 15 4 1 2),(oL 16 15),(oM 17 5),(oI 18 5 16 17),(oA 19 5 18),(oM 20 1),(oC 21 .sub 20 1),(oN 22 (.call zha [(.t 19),(.t 21)]))] [12,15,16,17,18,19,20,21]) (.cond (.t 22) (.seq (.region [ Yan] [1,2,5,22]) (.ret)) (.skip)))) (.region [ (oM 13 5),(oC 14 .add 13 1),(oM 5 14)] [4,13,14,22]))
def ziG:ACode:=.seq (.region [ Yaa] [1,2,5]) (.ret)
def zlS:ACode:=.seq (.region [ Yai,Yaa] [0,4]) (.seq (.seq (.region [ (oM 6 1),(oC 7 .lss 6 1)] [6]) (.cond (.t 7) (.seq (.region [ Yan] [1,2,7]) (.ret)) (.skip))) (.seq (.seq (.region [ (oK 5 0)] [4,7]) (.block 0 (.loop ziy))) (ziG)))
def zfX:List ARet:=[.tmp 4]
theorem zqJ:zT Tryz.prog zha (qRo [2])=some (zlS.strip,zfX,23):=by kernel_rfl
def zg5:ACode:=.seq (.seq (.region [ (oM 4 3),(oF 5 4 1 1),(oL 6 5),(oE 7 6),(oB 8 .lss 4 7)] [4,5,6,7]) (.cond (.t 8) (.skip) (.exit 0))) (.seq (.block 1 (.seq (.region [ (oF 11 4 1 1),(oL 12 11),(oM 13 3),(oI 14 5 12 13),(oA 15 5 14),(oN 16 (.call zeS [(.t 15)])),(oN 17 (.un .not (.t 16)))] [8,11,12,13,14,15,16]) (.cond (.t 17) (.seq (.region [ Yac] [1,3,17]) (.ret)) (.skip)))) (.region [ (oM 9 3),(oC 10 .add 9 1),(oM 3 10)] [2,9,10,17]))
def zG:ACode:=.seq (.seq (.region [ (oF 18 0 1 1),(oL 19 18)] [3,18]) (.block 2 (.seq (.region [ (oC 21 .eql 19 1),(oM 20 21)] [21]) (.cond (.t 20) (.seq (.region [ (oF 22 2 1 1),(oL 23 22),(oC 24 .eql 23 0),(oM 25 24),(oG 26 25 true (.fldaddr 3 1 (.t 1))),(oG 27 25 true (.load false 1 (.t 26))),(oG 28 25 true (.bin .eql (.t 27) (.c (.int .i64 0)))),(oN 29 (.pick (.t 25) (.t 28) (.c (.bool false)))),(oM 30 29),(oG 31 30 true (.fldaddr 4 1 (.t 1))),(oG 32 30 true (.load false 1 (.t 31))),(oG 33 30 true (.len (.t 32))),(oG 34 30 true (.bin .eql (.t 33) (.c (.int .i64 0)))),(oN 35 (.pick (.t 30) (.t 34) (.c (.bool false)))),(oM 2 35)] [1,19,20,22,23,24,25,26,27,28,29,30,31,32,33,34,35]) (.ret)) (.seq (.region [ (oC 37 .eql 19 2),(oM 36 37)] [20,37]) (.cond (.t 36) (.seq (.region [ (oF 38 1 1 1),(oL 39 38),(oN 40 (.bin .eql (.t 39) (.c (.int .u32 0)))),(oM 41 40),(oG 42 41 true (.fldaddr 3 1 (.t 1))),(oG 43 41 true (.load false 1 (.t 42))),(oG 44 41 true (.bin .eql (.t 43) (.c (.int .i64 0)))),(oN 45 (.pick (.t 41) (.t 44) (.c (.bool false)))),(oM 46 45),(oG 47 46 true (.fldaddr 4 1 (.t 1))),(oG 48 46 true (.load false 1 (.t 47))),(oG 49 46 true (.len (.t 48))),(oG 50 46 true (.bin .eql (.t 49) (.c (.int .i64 0)))),(oN 51 (.pick (.t 46) (.t 50) (.c (.bool false)))),(oM 52 51),(oG 53 52 true (.fldaddr 2 1 (.t 1))),(oG 54 52 true (.load false 1 (.t 53))),(oG 55 52 true (.call zie [(.t 54)])),(oN 56 (.pick (.t 52) (.t 55) (.c (.bool false)))),(oM 2 56)] [1,19,36,38,39,40,41,42,43,44,45,46,47,48,49,50,51,52,53,54,55,56]) (.ret)) (.seq (.seq (.region [ (oC 58 .eql 19 16),(oM 57 58)] [36,58]) (.cond (.t 57) (.skip) (.region [ (oC 59 .eql 19 17),(oM 57 59)] [59]))) (.cond (.t 57) (.seq (.region [ (oF 60 1 1 1),(oL 61 60),(oN 62 (.bin .eql (.t 61) (.c (.int .u32 0)))),(oM 63 62),(oG 64 63 true (.fldaddr 2 1 (.t 1))),(oG 65 63 true (.load false 1 (.t 64))),(oG 66 63 true (.bin .eql (.t 65) (.c (.int .i64 0)))),(oN 67 (.pick (.t 63) (.t 66) (.c (.bool false)))),(oM 68 67),(oG 69 68 true (.fldaddr 3 1 (.t 1))),(oG 70 68 true (.load false 1 (.t 69))),(oG 71 68 true (.bin .eql (.t 70) (.c (.int .i64 0)))),(oN 72 (.pick (.t 68) (.t 71) (.c (.bool false)))),(oM 73 72),(oG 74 73 true (.fldaddr 4 1 (.t 1))),(oG 75 73 true (.load false 1 (.t 74))),(oG 76 73 true (.len (.t 75))),(oG 77 73 true (.bin .eql (.t 76) (.c (.int .i64 1)))),(oN 78 (.pick (.t 73) (.t 77) (.c (.bool false)))),(oM 2 78)] [1,19,57,60,61,62,63,64,65,66,67,68,69,70,71,72,73,74,75,76,77,78]) (.ret)) (.seq (.region [ (oC 80 .eql 19 18),(oM 79 80)] [57,80]) (.cond (.t 79) (.seq (.region [ (oF 81 1 1 1),(oL 82 81),(oN 83 (.bin .eql (.t 82) (.c (.int .u32 0)))),(oM 84 83),(oG 85 84 true (.fldaddr 2 1 (.t 1))),(oG 86 84 true (.load false 1 (.t 85))),(oG 87 84 true (.bin .eql (.t 86) (.c (.int .i64 0)))),(oN 88 (.pick (.t 84) (.t 87) (.c (.bool false)))),(oM 89 88),(oG 90 89 true (.fldaddr 3 1 (.t 1))),(oG 91 89 true (.load false 1 (.t 90))),(oG 92 89 true (.bin .eql (.t 91) (.c (.int .i64 1)))),(oG 93 89 true (.mov (.t 92))),(oG 94 93 false (.fldaddr 3 1 (.t 1))),(oG 95 93 false (.load false 1 (.t 94))),(oG 96 93 false (.bin .eql (.t 95) (.c (.int .i64 2)))),(oG 97 89 true (.pick (.t 93) (.c (.bool true)) (.t 96))),(oG 98 89 true (.mov (.t 97))),(oG 99 98 false (.fldaddr 3 1 (.t 1))),(oG 100 98 false (.load false 1 (.t 99))),(oG 101 98 false (.bin .eql (.t 100) (.c (.int .i64 4)))),(oG 102 89 true (.pick (.t 98) (.c (.bool true)) (.t 101))),(oN 103 (.pick (.t 89) (.t 102) (.c (.bool false)))),(oM 104 103),(oG 105 104 true (.fldaddr 4 1 (.t 1))),(oG 106 104 true (.load false 1 (.t 105))),(oG 107 104 true (.len (.t 106))),(oG 108 104 true (.bin .eql (.t 107) (.c (.int .i64 1)))),(oN 109 (.pick (.t 104) (.t 108) (.c (.bool false)))),(oM 2 109)] [1,19,79,81,82,83,84,85,86,87,88,89,90,91,92,93,94,95,96,97,98,99,100,101,102,103,104,105,106,107,108,109]) (.ret)) (.seq (.region [ (oC 111 .eql 19 19),(oM 110 111)] [19,79,111]) (.cond (.t 110) (.seq (.region [ (oF 112 1 1 1),(oL 113 112),(oN 114 (.bin .eql (.t 113) (.c (.int .u32 0)))),(oM 115 114),(oG 116 115 true (.fldaddr 2 1 (.t 1))),(oG 117 115 true (.load false 1 (.t 116))),(oG 118 115 true (.bin .eql (.t 117) (.c (.int .i64 0)))),(oN 119 (.pick (.t 115) (.t 118) (.c (.bool false)))),(oM 120 119),(oG 121 120 true (.fldaddr 3 1 (.t 1))),(oG 122 120 true (.load false 1 (.t 121))),(oG 123 120 true (.bin .eql (.t 122) (.c (.int .i64 1)))),(oG 124 120 true (.mov (.t 123))),(oG 125 124 false (.fldaddr 3 1 (.t 1))),(oG 126 124 false (.load false 1 (.t 125))),(oG 127 124 false (.bin .eql (.t 126) (.c (.int .i64 2)))),(oG 128 120 true (.pick (.t 124) (.c (.bool true)) (.t 127))),(oN 129 (.pick (.t 120) (.t 128) (.c (.bool false)))),(oM 130 129),(oG 131 130 true (.fldaddr 4 1 (.t 1))),(oG 132 130 true (.load false 1 (.t 131))),(oG 133 130 true (.len (.t 132))),(oG 134 130 true (.bin .eql (.t 133) (.c (.int .i64 1)))),(oN 135 (.pick (.t 130) (.t 134) (.c (.bool false)))),(oM 2 135)] [1,110,112,113,114,115,116,117,118,119,120,121,122,123,124,125,126,127,128,129,130,131,132,133,134,135]) (.ret)) (.skip))))))))))))) (.seq (.region [ (oF 136 0 1 1),(oL 137 136),(oC 138 .geq 137 3),(oM 139 138),(oG 140 139 true (.fldaddr 0 1 (.t 1))),(oG 141 139 true (.load false 1 (.t 140))),(oG 142 139 true (.bin .leq (.t 141) (.c (.int .i64 15)))),(oN 143 (.pick (.t 139) (.t 142) (.c (.bool false)))),(oM 144 143),(oG 145 144 true (.fldaddr 1 1 (.t 1))),(oG 146 144 true (.load false 1 (.t 145))),(oG 147 144 true (.bin .eql (.t 146) (.c (.int .u32 0)))),(oN 148 (.pick (.t 144) (.t 147) (.c (.bool false)))),(oM 149 148),(oG 150 149 true (.fldaddr 2 1 (.t 1))),(oG 151 149 true (.load false 1 (.t 150))),(oG 152 149 true (.bin .eql (.t 151) (.c (.int .i64 0)))),(oN 153 (.pick (.t 149) (.t 152) (.c (.bool false)))),(oM 154 153),(oG 155 154 true (.fldaddr 3 1 (.t 1))),(oG 156 154 true (.load false 1 (.t 155))),(oG 157 154 true (.bin .eql (.t 156) (.c (.int .i64 0)))),(oN 158 (.pick (.t 154) (.t 157) (.c (.bool false)))),(oM 159 158),(oG 160 159 true (.fldaddr 4 1 (.t 1))),(oG 161 159 true (.load false 1 (.t 160))),(oG 162 159 true (.len (.t 161))),(oG 163 159 true (.bin .eql (.t 162) (.c (.int .i64 2)))),(oN 164 (.pick (.t 159) (.t 163) (.c (.bool false)))),(oM 2 164)] [1,110,136,137,138,139,140,141,142,143,144,145,146,147,148,149,150,151,152,153,154,155,156,157,158,159,160,161,162,163,164]) (.ret))
def zjp:ACode:=.seq (.region [ Yab,Yac] [0,2]) (.seq (.seq (.region [ (oK 3 0)] []) (.block 0 (.loop zg5))) (zG))
def ze:List ARet:=[.tmp 2]
theorem znK:zT Tryz.prog zeS (qRo [1])=some (zjp.strip,ze,165):=by kernel_rfl
def za6:ACode:=.seq (.region [ (oB 9 .lss 8 7)] []) (.seq (.cond (.t 9) (.skip) (.exit 0)) (.seq (.block 1 (.seq (.region [ (oM 10 8),(oM 5 10)] [9,10]) (.seq (.region [ (oM 11 1),(oM 12 0),(oM 13 5),(oI 14 5 12 13),(oA 15 5 14),(oN 16 (.callv (.t 11) [(.t 15)]))] [11,12,13,14,15]) (.cond (.t 16) (.seq (.region [ (oM 17 5),(oM 4 17)] [0,1,5,7,8,16,17]) (.ret)) (.skip))))) (.region [ (oC 18 .add 8 1),(oM 8 18)] [4,5,16,18])))
def za3:ACode:=.seq (.region [ (oK 4 (-1))] [0,1,7,8]) (.ret)
def zbo:ACode:=.seq (.region [ (oK 4 0)] [4]) (.seq (.seq (.region [ (oM 6 0),(oE 7 6),(oK 8 0)] [6]) (.block 0 (.loop za6))) (za3))
def zal:List ARet:=[.tmp 4]
theorem zc4:zT Tryz.prog zar (qRo [])=some (zbo.strip,zal,19):=by kernel_rfl
def zei:ACode:=.seq (.region [ Yai,Yap] [0,3]) (.seq (.region [ (oA 4 5 2),(oL 5 1),(oN 6 (.call zcb [(.t 4),(.t 5)])),(oN 7 (.un .not (.t 6))),(oM 3 7)] [1,2,4,5,6,7]) (.ret))
def zef:List ARet:=[.tmp 3]
theorem ziS:zT Tryz.prog zbH (qRo [2])=some (zei.strip,zef,8):=by kernel_rfl
def zcU:ACode:=.seq (.region [ (oB 9 .lss 8 7)] []) (.seq (.cond (.t 9) (.skip) (.exit 0)) (.seq (.block 1 (.seq (.region [ (oM 10 8),(oM 5 10)] [9,10]) (.seq (.region [ (oM 11 1),(oM 12 0),(oM 13 5),(oI 14 1 12 13),(oL 15 14),(oB 16 .eql 11 15)] [11,12,13,14,15]) (.cond (.t 16) (.seq (.region [ (oM 17 5),(oM 4 17)] [0,1,5,7,8,16,17]) (.ret)) (.skip))))) (.region [ (oC 18 .add 8 1),(oM 8 18)] [4,5,16,18])))
def zcY:ACode:=.seq (.region [ (oK 4 (-1))] [0,1,7,8]) (.ret)
def zd1:ACode:=.seq (.region [ (oK 4 0)] [4]) (.seq (.seq (.region [ (oM 6 0),(oE 7 6),(oK 8 0)] [6]) (.block 0 (.loop zcU))) (zcY))
def zcd:List ARet:=[.tmp 4]
theorem zif:zT Tryz.prog zcm (qRo [])=some (zd1.strip,zcd,19):=by kernel_rfl
def zaZ:ACode:=.seq (.region [ (oB 9 .lss 8 7)] []) (.seq (.cond (.t 9) (.skip) (.exit 0)) (.seq (.block 1 (.seq (.region [ (oM 10 8),(oM 5 10)] [9,10]) (.seq (.region [ (oM 11 1),(oM 12 0),(oM 13 5),(oI 14 8 12 13),(oA 15 8 14),(oN 16 (.callv (.t 11) [(.t 15)]))] [11,12,13,14,15]) (.cond (.t 16) (.seq (.region [ (oM 17 5),(oM 4 17)] [0,1,5,7,8,16,17]) (.ret)) (.skip))))) (.region [ (oC 18 .add 8 1),(oM 8 18)] [4,5,16,18])))
def zaY:ACode:=.seq (.region [ (oK 4 (-1))] [0,1,7,8]) (.ret)
def zbm:ACode:=.seq (.region [ (oK 4 0)] [4]) (.seq (.seq (.region [ (oM 6 0),(oE 7 6),(oK 8 0)] [6]) (.block 0 (.loop zaZ))) (zaY))
def zan:List ARet:=[.tmp 4]
theorem zc3:zT Tryz.prog zas (qRo [])=some (zbm.strip,zan,19):=by kernel_rfl
def zlC:ACode:=.seq (.region [ Yai,(oN 3 (.rbox (.t 1))),Yaa] [0,1,4]) (.seq (.region [ (oL 5 3),(oC 6 .geq 5 1),(oM 7 6),(oG 8 7 true (.fldaddr 4 1 (.t 2))),(oG 9 7 true (.load false 1 (.t 8))),(oG 10 7 true (.mkfn (.func zho) [(.t 3)])),(oG 11 7 true (.call zV [(.t 9),(.t 10)])),(oG 12 7 true (.un .not (.t 11))),(oN 13 (.pick (.t 7) (.t 12) (.c (.bool false)))),(oM 4 13)] [2,3,5,6,7,8,9,10,11,12,13]) (.ret))
def zh9:List ARet:=[.tmp 4]
theorem zqo:zT Tryz.prog zg3 (qRo [2,3])=some (zlC.strip,zh9,14):=by kernel_rfl
def zaM:ACode:=.seq (.region [ Yab,Yac] [0,2]) (.seq (.region [ (oF 5 0 1 1),(oL 6 5),(oN 7 (.build [.int .i64 0,.int .u32 0,.int .i64 0,.int .i64 0,.nilsl] [(0,1,(.t 6))])),(oN 3 (.alloc [.int .i64 0,.int .u32 0,.int .i64 0,.int .i64 0,.nilsl])),(oS 5 3 7)] [5,6,7]) (.seq (.region [ (oK 4 0)] []) (.seq (.block 0 (.seq (.region [ (oF 9 0 1 1),(oL 10 9),(oC 11 .eql 10 1),(oM 8 11)] [9,10,11]) (.cond (.t 8) (.region [ (oF 12 1 1 1),(oL 13 12),(oF 14 1 1 3),(oS 1 14 13)] [8,12,13,14]) (.seq (.region [ (oF 16 0 1 1),(oL 17 16),(oC 18 .eql 17 2),(oM 19 18),(oG 20 19 true (.fldaddr 2 1 (.t 1))),(oG 21 19 true (.load false 1 (.t 20))),(oG 22 19 true (.call zfZ [(.t 21)])),(oN 23 (.pick (.t 19) (.t 22) (.c (.bool false)))),(oM 15 23)] [8,16,17,18,19,20,21,22,23]) (.cond (.t 15) (.region [ (oF 24 2 1 1),(oL 25 24),(oF 26 2 1 3),(oS 1 26 25)] [15,24,25,26]) (.seq (.region [ (oF 28 0 1 1),(oL 29 28),(oC 30 .geq 29 3),(oM 31 30),(oG 32 31 true (.fldaddr 0 1 (.t 1))),(oG 33 31 true (.load false 1 (.t 32))),(oG 34 31 true (.bin .leq (.t 33) (.c (.int .i64 15)))),(oN 35 (.pick (.t 31) (.t 34) (.c (.bool false)))),(oM 27 35)] [4,15,28,29,30,31,32,33,34,35]) (.cond (.t 27) (.region [ (oK 4 2)] [27]) (.seq (.seq (.region [ (oF 37 0 1 1),(oL 38 37),(oC 39 .eql 38 16),(oM 36 39)] [27,37,38,39]) (.cond (.t 36) (.skip) (.region [ (oF 40 0 1 1),(oL 41 40),(oC 42 .eql 41 17),(oM 36 42)] [40,41,42]))) (.cond (.t 36) (.region [ (oK 4 1)] [36]) (.seq (.seq (.region [ (oF 44 0 1 1),(oL 45 44),(oC 46 .eql 45 18),(oM 47 46),(oG 48 47 true (.fldaddr 3 1 (.t 1))),(oG 49 47 true (.load false 1 (.t 48))),(oG 50 47 true (.call zij [(.t 49)])),(oN 51 (.pick (.t 47) (.t 50) (.c (.bool false)))),(oM 43 51)] [36,44,45,46,47,48,49,50,51]) (.cond (.t 43) (.skip) (.region [ (oF 52 0 1 1),(oL 53 52),(oC 54 .eql 53 19),(oM 55 54),(oG 56 55 true (.fldaddr 3 1 (.t 1))),(oG 57 55 true (.load false 1 (.t 56))),(oG 58 55 true (.bin .eql (.t 57) (.c (.int .i64 1)))),(oG 59 55 true (.mov (.t 58))),(oG 60 59 false (.fldaddr 3 1 (.t 1))),(oG 61 59 false (.load false 1 (.t 60))),(oG 62 59 false (.bin .eql (.t 61) (.c (.int .i64 2)))),(oG 63 55 true (.pick (.t 59) (.c (.bool true)) (.t 62))),(oN 64 (.pick (.t 55) (.t 63) (.c (.bool false)))),(oM 43 64)] [52,53,54,55,56,57,58,59,60,61,62,63,64]))) (.cond (.t 43) (.seq (.region [ (oK 4 1)] [43]) (.region [ (oF 65 3 1 1),(oL 66 65),(oF 67 3 1 3),(oS 1 67 66)] [65,66,67])) (.seq (.region [ Yac] [1,3,43]) (.ret))))))))))))) (.seq (.region [ (oF 68 1 1 1),(oL 69 68),(oF 70 1 1 3),(oL 71 70),(oB 72 .eql 69 71),(oM 73 72),(oG 74 73 true (.fldaddr 2 1 (.t 1))),(oG 75 73 true (.load false 1 (.t 74))),(oG 76 73 true (.fldaddr 2 1 (.t 3))),(oG 77 73 true (.load false 1 (.t 76))),(oG 78 73 true (.bin .eql (.t 75) (.t 77))),(oN 79 (.pick (.t 73) (.t 78) (.c (.bool false)))),(oM 80 79),(oG 81 80 true (.fldaddr 3 1 (.t 1))),(oG 82 80 true (.load false 1 (.t 81))),(oG 83 80 true (.fldaddr 3 1 (.t 3))),(oG 84 80 true (.load false 1 (.t 83))),(oG 85 80 true (.bin .eql (.t 82) (.t 84))),(oN 86 (.pick (.t 80) (.t 85) (.c (.bool false)))),(oM 87 86),(oG 88 87 true (.fldaddr 4 1 (.t 1))),(oG 89 87 true (.load false 1 (.t 88))),(oG 90 87 true (.len (.t 89))),(oG 91 87 true (.mov (.t 4))),(oG 92 87 true (.bin .eql (.t 90) (.t 91))),(oN 93 (.pick (.t 87) (.t 92) (.c (.bool false)))),(oM 94 93),(oG 95 94 true (.fldaddr 4 1 (.t 1))),(oG 96 94 true (.load false 1 (.t 95))),(oG 97 94 true (.call zV [(.t 96),(.c (.fn (.func zad) []))])),(oG 98 94 true (.un .not (.t 97))),(oN 99 (.pick (.t 94) (.t 98) (.c (.bool false)))),(oM 2 99)] [1,3,4,68,69,70,71,72,73,74,75,76,77,78,79,80,81,82,83,84,85,86,87,88,89,90,91,92,93,94,95,96,97,98,99]) (.ret)))))
def zh:List ARet:=[.tmp 2]
theorem zbd:zT Tryz.prog zay (qRo [1])=some (zaM.strip,zh,100):=by kernel_rfl
def zkb:ACode:=.seq (.region [ Yac] [2]) (.seq (.region [ (oM 3 0),(oC 4 .geq 3 0),(oM 5 4),(oG 6 5 true (.mov (.t 0))),(oG 7 5 true (.bin .lss (.t 6) (.c (.int .i64 65536)))),(oN 8 (.pick (.t 5) (.t 7) (.c (.bool false)))),(oM 2 8)] [0,3,4,5,6,7,8]) (.ret))
def zhm:List ARet:=[.tmp 2]
theorem zpg:zT Tryz.prog zfZ (qRo [])=some (zkb.strip,zhm,9):=by kernel_rfl
def zmr:ACode:=.seq (.region [ Yac] [2]) (.seq (.region [ (oM 3 0),(oC 4 .eql 3 1),(oM 5 4),(oG 6 5 false (.mov (.t 0))),(oG 7 5 false (.bin .eql (.t 6) (.c (.int .i64 2)))),(oN 8 (.pick (.t 5) (.c (.bool true)) (.t 7))),(oM 9 8),(oG 10 9 false (.mov (.t 0))),(oG 11 9 false (.bin .eql (.t 10) (.c (.int .i64 4)))),(oN 12 (.pick (.t 9) (.c (.bool true)) (.t 11))),(oM 2 12)] [0,3,4,5,6,7,8,9,10,11,12]) (.ret))
def zgQ:List ARet:=[.tmp 2]
theorem zsq:zT Tryz.prog zij (qRo [])=some (zmr.strip,zgQ,13):=by kernel_rfl
def za2:ACode:=.seq (.region [ Yaa] [4]) (.seq (.region [ (oM 5 0),(oM 6 1),(oN 7 (.call zat [(.t 5),(.t 6)])),(oC 8 .geq 7 0),(oM 4 8)] [0,1,5,6,7,8]) (.ret))
def za7:List ARet:=[.tmp 4]
theorem zcy:zT Tryz.prog zV (qRo [])=some (za2.strip,za7,9):=by kernel_rfl
def zjo:ACode:=.seq (.region [ Yai,Yap] [0,3]) (.seq (.region [ (oA 4 5 2),(oL 5 1),(oC 6 .sub 5 1),(oN 7 (.call zg3 [(.t 4),(.t 6)])),(oN 8 (.un .not (.t 7))),(oM 3 8)] [1,2,4,5,6,7,8]) (.ret))
def zi9:List ARet:=[.tmp 3]
theorem zns:zT Tryz.prog zho (qRo [2])=some (zjo.strip,zi9,9):=by kernel_rfl
def zku:ACode:=.seq (.region [ Yab,Yac] [0,2]) (.seq (.region [ (oA 3 5 1),(oN 4 (.call zay [(.t 3)])),(oN 5 (.un .not (.t 4))),(oM 2 5)] [1,3,4,5]) (.ret))
def zkx:List ARet:=[.tmp 2]
theorem zpm:zT Tryz.prog zad (qRo [1])=some (zku.strip,zkx,6):=by kernel_rfl
def za8:ACode:=.seq (.region [ (oB 9 .lss 8 7)] []) (.seq (.cond (.t 9) (.skip) (.exit 0)) (.seq (.block 1 (.seq (.region [ (oM 10 8),(oM 5 10)] [9,10]) (.seq (.region [ (oM 11 1),(oM 12 0),(oM 13 5),(oI 14 5 12 13),(oA 15 5 14),(oN 16 (.callv (.t 11) [(.t 15)]))] [11,12,13,14,15]) (.cond (.t 16) (.seq (.region [ (oM 17 5),(oM 4 17)] [0,1,5,7,8,16,17]) (.ret)) (.skip))))) (.region [ (oC 18 .add 8 1),(oM 8 18)] [4,5,16,18])))
def za5:ACode:=.seq (.region [ (oK 4 (-1))] [0,1,7,8]) (.ret)
def zbp:ACode:=.seq (.region [ (oK 4 0)] [4]) (.seq (.seq (.region [ (oM 6 0),(oE 7 6),(oK 8 0)] [6]) (.block 0 (.loop za8))) (za5))
def zam:List ARet:=[.tmp 4]
theorem zc1:zT Tryz.prog zat (qRo [])=some (zbp.strip,zam,19):=by kernel_rfl
end Go.Ab
namespace Go.Ab
def zhq (k:Int):Bool:=decide (k=4∨k=5)
mutual
def coll (p:NdF→List Int):Nd→List Int
 | .mk f _ l=>p f++zrZ p l
def zrZ (p:NdF→List Int):List Nd→List Int
 | []=>[]
 | x::l=>coll p x++zrZ p l
end
def labP (f:NdF):List Int:=if f.kind=10 then [f.label] else []
def blkP (f:NdF):List Int:=if f.kind=2∨f.kind=5 then [f.block] else []
mutual
theorem zu8 (p:NdF→List Int):∀n:Nd,coll p n=(allN n).flatMap fun x=>p x.f
 | .mk f c l=>by rw[coll,allN,List.flatMap_cons,zss p l];rfl
theorem zss (p:NdF→List Int):∀l:List Nd,zrZ p l=(zd9 l).flatMap fun x=>p x.f
 | []=>by rw[zrZ,zd9];rfl
 | x::l=>by rw[zrZ,zd9,List.flatMap_append,zu8 p x,zss p l]
end
theorem zsE:∀ {l:List Nd} {y:Nd},y∈l→zax y≤zZ l
 | [],y,hy=>by simp at hy
 |
  a::l,y,hy=>by
  rw[zZ]
  rcases List.mem_cons.1 hy with rfl|hy
  · omega
  · have:=zsE hy;omega
end Go.Ab
namespace Go.Ab
open Go.RowKit Go.Proofs
theorem fldP {off n m:Nat} {c:List AV} {H:AH} {nx:Nat}:zcn off n (encP m c) H nx=⟨off+n≤m,True,.iptr n (fun j=>c.getD (off+j) .undef),H,nx⟩:=rfl
theorem zk6 {n m:Nat} {c:List AV} {H:AH} {nx:Nat}:zdy true n (encP m c) H nx=⟨n≤m,(AV.agg (tab (fun j=>c.getD j .undef) n 0)).wf,.agg (tab (fun j=>c.getD j .undef) n 0),H,nx⟩:=rfl
theorem zbO:∀ {e:Ex},(encX e).length=5
 | .mk _ _ _ _ _=>by rw[zhn];rfl
theorem zbM:∀ {e:Nd},(encN e).length=5
 | .mk _ _ _=>by rw[zeC];rfl
theorem zbn:∀ {e:Ex},[(encX e).getD 0 .undef,(encX e).getD 1 .undef,(encX e).getD 2 .undef,(encX e).getD 3 .undef,(encX e).getD 4 .undef]=encX e
 | .mk _ _ _ _ _=>by rw[zhn];rfl
theorem zbe:∀ {e:Nd},[(encN e).getD 0 .undef,(encN e).getD 1 .undef,(encN e).getD 2 .undef,(encN e).getD 3 .undef,(encN e).getD 4 .undef]=encN e
 | .mk _ _ _=>by rw[zeC];rfl
theorem zn:∀ {e:Ex},zt (encX e)=true
 | .mk _ _ _ _ _=>by rw[zhn];rfl
theorem zaK:∀ {e:Nd},zt (encN e)=true
 | .mk _ _ _=>by rw[zeC];rfl
theorem flX {r:List AV} (h:r.all AV.flat=true):∀ {e:Ex},(AV.agg (encX e)::r).all AV.flat=true
 | .mk _ _ _ _ _=>by rw[zhn,List.all_cons,h];rfl
theorem flN {r:List AV} (h:r.all AV.flat=true):∀ {e:Nd},(AV.agg (encN e)::r).all AV.flat=true
 | .mk _ _ _=>by rw[zeC,List.all_cons,h];rfl
mutual
def zgO:Ex→Nat
 | .mk _ _ _ _ l=>1+zuo l
def zuo:List Ex→Nat
 | []=>0
 | e::l=>zgO e+zuo l
end
theorem zhW:∀ {l:List Ex} {y:Ex},y∈l→zgO y≤zuo l
 | [],y,hy=>by simp at hy
 |
  a::l,y,hy=>by
  rw[zuo]
  rcases List.mem_cons.1 hy with rfl|hy
  · omega
  · have:=zhW hy;omega
mutual
theorem zgS:∀(e:Ex) (m n:Int),-1≤n → -1≤zhM e m n∧(zhM e m n≤n)
 |
  .mk _ _ _ _ l,m,n,h=>by
  rw[zhM];split
  · omega
  · rename_i hc;have:=zlf l (m - 1) (n - 1) (by omega);omega
theorem zlf:∀(l:List Ex) (m n:Int),-1≤n → -1≤zdv l m n∧zdv l m n≤n
 | [],m,n,h=>by rw[zdv];omega
 |
  e::l,m,n,h=>by
  rw[zdv];split
  · omega
  · have h1:=zgS e m n h;have:=zlf l m _ h1.1;omega
end
theorem zsC {l:List Ex} {i:Nat} {m n:Int} (h:i < l.length) (hn:0≤n):zdv (l.drop i) m n=zdv (l.drop (i+1)) m (zhM l[i] m n):=by rw[List.drop_eq_getElem_cons h,zdv,if_neg (by omega)]
theorem zt7 {l:List Ex} {m n:Int} (hn:n < 0):zdv l m n=n:=by
 cases l with
 | nil=>rw[zdv]
 | cons a l=>rw[zdv,if_pos hn]
end Go.Ab
