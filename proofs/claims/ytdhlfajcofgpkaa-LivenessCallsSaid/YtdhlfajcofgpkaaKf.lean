/-
  Part 6 of the proof: how the calls of this program run, over values instead of memory, and what each function computes.
-/
import Derived.Test.YtdhlfajcofgpkaaRows
import Derived.WalkKit
import Derived.OpenShut
import Derived.ShutString
import Derived.ChangeOld
import Derived.Below
import Derived.Test.YtdhlfajcofgpkaaProg
import Derived.KernelRfl
import Derived.Test.YtdhlfajcofgpkaaKe
set_option maxRecDepth 100000
set_option linter.unusedVariables false
set_option linter.unusedSimpArgs false
set_option linter.unnecessarySimpa false
set_option linter.unusedSectionVars false
namespace Go.Ab
open Go.RowKit
inductive Ex where
 | mk (op n var width:Int) (l:List Ex)
structure NdF where
 kind:Int
 block:Int
 label:Int
inductive Nd where
 | mk (f:NdF) (cond:List Ex) (l:List Nd)
def Ex.l:Ex→List Ex
 | .mk _ _ _ _ l=>l
mutual
def encX:Ex→List AV
 | .mk op n v w l=>[.int .i64 op, .int .u32 n, .int .i64 v, .int .i64 w, .sl 5 l.length (fun i j=>((zwa l).getD i []).getD j .undef)]
def zwa:List Ex→List (List AV)
 | []=>[]
 | e::l=>encX e::zwa l
end
theorem zpF:∀ l:List Ex,zwa l=l.map encX
 | []=>by rw [zwa];rfl
 | e::l=>by rw [zwa,zpF l];rfl
theorem zdW (op n v w:Int) (l:List Ex):encX (.mk op n v w l)=[.int .i64 op, .int .u32 n, .int .i64 v, .int .i64 w,encL 5 encX l]:=by
 rw [encX,zpF]
 rfl
mutual
def encN:Nd→List AV
 | .mk f c l=>[.int .i64 f.kind, .int .i64 f.block, .int .i64 f.label,encL 5 encX c, .sl 5 l.length (fun i j=>((zvU l).getD i []).getD j .undef)]
def zvU:List Nd→List (List AV)
 | []=>[]
 | e::l=>encN e::zvU l
end
theorem zoM:∀ l:List Nd,zvU l=l.map encN
 | []=>by rw [zvU];rfl
 | e::l=>by rw [zvU,zoM l];rfl
theorem zv3 (f:NdF) (c:List Ex) (l:List Nd):encN (.mk f c l)=[.int .i64 f.kind, .int .i64 f.block, .int .i64 f.label,encL 5 encX c,encL 5 encN l]:=by
 rw [encN,zoM]
 rfl
mutual
def zgu:Ex→Int→Int→Int
 | .mk _ _ _ _ l,most,left=>if most < 1∨left < 1∨4 < l.length then -1 else zbR l (most - 1) (left - 1)
def zbR:List Ex→Int→Int→Int
 | [],_,n=>n
 | e::l,most,n=>if n < 0 then n else zbR l most (zgu e most n)
end
end Go.Ab
namespace Go.Ab
open Go.RowKit Go.Proofs Go.Proofs.Ytdhlfajcofgpkaa
section
variable {HH:Type} {enc:TypeId × Value→HH} {w:World} {base:Nat} {spare:Nat→Bool} {held:Bool} {L:Nat→Prop} (hL:∀ b,¬ L b)
include hL
theorem zqf {P:Program} {α:Type} {cells:α→List AV} {t e:TypeId} {sz:Nat} {fuel:Nat} (ht:P.underlying t=some (.slice e)) (hs:P.cellsOf e=sz)
  (hel:∀ fuel',fuel' < fuel→∀ cs y,DataW.trod enc P w base spare held fuel' e cs=some y→cs.length=sz→∃ x:α,ElOk w L cs (cells x)) {cs:List Value} {y:DataW HH × List MemPlace}
  (h:DataW.trod enc P w base spare held fuel t cs=some y):∃ (l:List α) (v:Value),cs=[v]∧v.oneCell'=true∧∀ ι,VR w L ι v (encL sz cells l):=by
 rcases DataW.trod_slice ht h with ⟨rfl,rfl⟩ | ⟨a,len,cap,elems,rest,n,rfl,rfl,rfl,hb,hl,hc,he,hi,_,_⟩
 · exact ⟨[],_,rfl,rfl,fun ι=>.sl0 _ _ _⟩
 ·
  rw [hs] at hi
  have key:∀ i:Fin len,∃ p:α × List Value,p.2.length=sz∧(∀ j,j < sz→w.cell? ((a.add (i.1 * sz)).add j)=some (p.2.getD j undef))∧ElOk w L p.2 (cells p.1):=by
   intro i
   have h1:=hi i.1 i.2
   rw [List.getElem?_eq_getElem (by omega),Option.bind_eq_some_iff] at h1
   obtain ⟨cs',h2,h3⟩:=h1
   obtain ⟨h4,h5⟩:=zo5 h2
   obtain ⟨x,hx⟩:=hel _ (Nat.lt_succ_self _) _ _ h3 h4
   exact ⟨(x,cs'),h4,h5,hx⟩
  obtain ⟨F,hF⟩:=Classical.axiomOfChoice key
  refine ⟨List.ofFn fun i=>(F i).1,_,rfl,rfl,fun ι=>?_⟩
  have hlen:(List.ofFn fun i=>(F i).1).length=len:=List.length_ofFn
  unfold encL
  rw [hlen]
  refine .sl ι a sz len cap _ (fun i j=>if hi:i < len then (F ⟨i,hi⟩).2.getD j undef else undef) hl (by unfold maxLen at hc;unfold big;omega) (fun i j hi hj=>?_) (fun _=>hL _) (fun i j hi hj=>?_)
  ·
   obtain ⟨h1,h2,h3⟩:=hF ⟨i,hi⟩
   rw [dif_pos hi]
   exact ⟨h2 j hj,(h3 j (by omega)).2⟩
  ·
   obtain ⟨h1,h2,h3⟩:=hF ⟨i,hi⟩
   rw [dif_pos hi]
   have e:((List.ofFn fun i=>(F i).1).map cells).getD i []=cells (F ⟨i,hi⟩).1:=by
    rw [ziI (a:=(F ⟨i,hi⟩).1)]
    rw [List.getElem?_eq_getElem (by rw [hlen];exact hi),List.getElem_ofFn]
   rw [e]
   exact (h3 j (by omega)).1
theorem zy6:∀ (k fuel:Nat),fuel≤k→∀ (cs:List Value) (y:DataW HH × List MemPlace),DataW.trod enc Try.prog w base spare held fuel 47 cs=some y→∃ e:Ex,ElOk w L cs (encX e):=by
 intro k
 induction k with
 |
  zero =>
  intro fuel hk cs y h
  obtain ⟨xs,n,h0,_⟩:=DataW.trod_struct Try.underlying47 h
  omega
 | succ k ih =>
 intro fuel hk cs y h
 obtain ⟨xs,n,rfl,rfl,hlen,hxs,hf⟩:=DataW.trod_struct Try.underlying47 h
 have hc:Try.prog.cellsOf 47=5:=by kernel_rfl
 have hc3:Try.prog.cellsOf 3=1:=by kernel_rfl
 have hc22:Try.prog.cellsOf 22=1:=by kernel_rfl
 have hc42:Try.prog.cellsOf 42=1:=by kernel_rfl
 rw [hc] at hlen
 have hget:∀ i,i < 5→xs[i]? = some (xs.getD i (.nil,[])):=fun i hi=>by
  rw [List.getD_eq_getElem?_getD,List.getElem?_eq_getElem (by rw [hxs];exact hi)]
  rfl
 match cs,hlen with
 |
  [c0,c1,c2,c3,c4],_ =>
  have f0:DataW.trod enc Try.prog w base spare held n 3 (([c0,c1,c2,c3,c4].drop 0).take (Try.prog.cellsOf 3))=some (xs.getD 0 (.nil,[])):=(hf 0 _ rfl).trans (hget 0 (by decide))
  rw [hc3] at f0
  replace f0:DataW.trod enc Try.prog w base spare held n 3 [c0]=some (xs.getD 0 (.nil,[])):=f0
  have f1:DataW.trod enc Try.prog w base spare held n 22 (([c0,c1,c2,c3,c4].drop 1).take (Try.prog.cellsOf 22))=some (xs.getD 1 (.nil,[])):=(hf 1 _ rfl).trans (hget 1 (by decide))
  rw [hc22] at f1
  replace f1:DataW.trod enc Try.prog w base spare held n 22 [c1]=some (xs.getD 1 (.nil,[])):=f1
  have f2:DataW.trod enc Try.prog w base spare held n 3 (([c0,c1,c2,c3,c4].drop 2).take (Try.prog.cellsOf 3))=some (xs.getD 2 (.nil,[])):=(hf 2 _ rfl).trans (hget 2 (by decide))
  rw [hc3] at f2
  replace f2:DataW.trod enc Try.prog w base spare held n 3 [c2]=some (xs.getD 2 (.nil,[])):=f2
  have f3:DataW.trod enc Try.prog w base spare held n 3 (([c0,c1,c2,c3,c4].drop 3).take (Try.prog.cellsOf 3))=some (xs.getD 3 (.nil,[])):=(hf 3 _ rfl).trans (hget 3 (by decide))
  rw [hc3] at f3
  replace f3:DataW.trod enc Try.prog w base spare held n 3 [c3]=some (xs.getD 3 (.nil,[])):=f3
  have f4:DataW.trod enc Try.prog w base spare held n 42 (([c0,c1,c2,c3,c4].drop 4).take (Try.prog.cellsOf 42))=some (xs.getD 4 (.nil,[])):=(hf 4 _ rfl).trans (hget 4 (by decide))
  rw [hc42] at f4
  replace f4:DataW.trod enc Try.prog w base spare held n 42 [c4]=some (xs.getD 4 (.nil,[])):=f4
  obtain ⟨n0,h0,w0⟩:=zgZ Try.underlying3 f0
  obtain ⟨n1,h1,w1⟩:=zgZ Try.underlying22 f1
  obtain ⟨n2,h2,w2⟩:=zgZ Try.underlying3 f2
  obtain ⟨n3,h3,w3⟩:=zgZ Try.underlying3 f3
  obtain ⟨l4,v4,h4,o4,w4⟩:=zqf (L:=L) (α:=Ex) (cells:=encX) hL Try.underlying42 hc (fun fuel' hf' cs y h _=>ih fuel' (by omega) cs y h) f4
  cases h0;cases h1;cases h2;cases h3;cases h4
  refine ⟨.mk n0 n1 n2 n3 l4,fun j hj=>?_⟩
  rw [zdW]
  match j with
  | 0=>exact ⟨.int _ _ _ w0,rfl⟩
  | 1=>exact ⟨.int _ _ _ w1,rfl⟩
  | 2=>exact ⟨.int _ _ _ w2,rfl⟩
  | 3=>exact ⟨.int _ _ _ w3,rfl⟩
  | 4=>exact ⟨w4 _,o4⟩
  | j+5=>exact absurd hj (by simp)
end
theorem zwH {H:AH} {v:AV} {b:Bool} (h:Frz H v (.bool b)):v=.bool b:=by
 unfold Frz at h
 generalize he:AV.bool b=x at h
 cases h<;>first | (cases he;done) | (cases he;rfl)
theorem row_true {P:Program} {f:FuncId} {args:List AV} {vs:Array Value} {w:World} (h:zE P f args (·=.bool true)) (hv:∀ L:Nat→Prop,(∀ b,¬ L b)→VRs w L noI vs.toList args) :
  Calls P f vs w fun e w'=>e=.returned (.bool true)∧Below w.heap.size w w':=by
 have hno:∀ b,¬ Lt (fun _=>False) noI [] b:=fun b hb=>hb.elim (fun h=>h) (ziD b)
 refine (h w (fun _=>False) noI vs (.empty (fun b hb=>hb.elim)) (hv _ hno)).mono fun e w' ⟨v,ι',H',nx',a,h1,h2,_,h4,a2,h5,h6⟩=>?_
 subst h1 h6
 have:=zwH h5
 subst this
 cases h4
 exact ⟨rfl,h2.ext.os,h2.ext.tape,h2.ext.output,h2.ext.size,fun k hk=>h2.ext.block k hk (ziD k)⟩
end Go.Ab
namespace Go.Ab
def zfV:Nat:=3
def zjp:Nat:=5
def zc5:Nat:=6
def zhl:Nat:=7
def zdU:Nat:=8
def zjr:Nat:=9
def zf4:Nat:=10
def zff:Nat:=12
def zwo:Nat:=13
def zu3:Nat:=14
def zrG:Nat:=15
def zel:Nat:=16
def zv8:Nat:=17
def ztD:Nat:=18
def zlT:Nat:=19
def zm9:Nat:=20
def zek:Nat:=21
def zer:Nat:=22
def zaM:Nat:=23
def zal:Nat:=24
def ziB:Nat:=25
def zce:Nat:=26
def zc:Nat:=27
def zht:Nat:=29
def zfU:Nat:=30
def zeO:Nat:=31
def zo:Nat:=32
def zdF:Nat:=33
def zey:Nat:=34
def zaG:Nat:=35
def zmw:Nat:=36
def zO:Nat:=37
def zdc:Nat:=38
def zeq:Nat:=39
def zdg:Nat:=40
def zju:Nat:=41
def zeX:Nat:=42
def zdS:Nat:=43
def zbX:Nat:=44
def zy:Nat:=45
def zca:Nat:=46
def zeR:Nat:=47
def ziT:Nat:=48
def zfW:Nat:=49
def zcw:Nat:=50
def zU:Nat:=51
def za2:Nat:=52
def zax:Nat:=53
def zaH:Nat:=54
def zaE:Nat:=55
def zV:Nat:=56
def zC:Nat:=57
def zai:Nat:=58
def zaP:Nat:=59
def zki:Nat:=60
def zdu:Nat:=61
def zdb:Nat:=63
def zae:Nat:=64
def zbq:Nat:=65
def zfK:Nat:=66
def zfi:Nat:=67
def zgN:Nat:=68
def zaZ:Nat:=69
def zav:Nat:=70
def zJ:Nat:=71
def zcN:Nat:=72
def zcV:Nat:=73
def zI:Nat:=74
def zaC:Nat:=75
def zcZ:Nat:=76
def zaz:Nat:=86
def zb9:Nat:=87
def zgv:Nat:=88
def zaD:Nat:=89
def zfJ:Nat:=90
def zhA:Nat:=91
def zX:Nat:=92
def zgO:Nat:=97
def z8:Nat:=98
end Go.Ab
namespace Go.Ab
open Go.RowKit Go.Proofs
def zgh:ACode:=.seq (.region [ (oN 15 (.bin .lss (.t 14) (.t 13)))] []) (.seq (.cond (.t 15) (.skip) (.exit 0)) (.seq (.block 1 (.seq (.region [ (oN 16 (.idx 2 (.t 12) (.t 14))),(oN 17 (.load true 2 (.t 16))),(oN 5 (.alloc [.int .u32 0, .nilsl])),⟨none, .store 2 (.t 5) (.t 17),none⟩] [15,16,17]) (.region [ (oN 18 (.mov (.t 3))),(oN 19 (.fldaddr 1 1 (.t 5))),(oN 20 (.load false 1 (.t 19))),(oN 21 (.len (.t 20))),(oN 22 (.bin .add (.t 18) (.t 21))),(oN 3 (.mov (.t 22)))] [5,18,19,20,21,22]))) (.region [ (oN 23 (.bin .add (.t 14) (.c (.int .i64 1)))),(oN 14 (.mov (.t 23)))] [23])))
def zf2:ACode:=.seq (.region [ (oN 46 (.bin .lss (.t 45) (.t 44)))] []) (.seq (.cond (.t 46) (.skip) (.exit 4)) (.seq (.block 5 (.seq (.region [ (oN 47 (.idx 8 (.t 43) (.t 45))),(oN 48 (.load true 8 (.t 47))),(oN 9 (.alloc [.int .i64 0, .int .i64 0, .int .i64 0, .int .i64 0, .int .i64 0, .int .u32 0, .nilsl, .nilsl])),⟨none, .store 8 (.t 9) (.t 48),none⟩] [46,47,48]) (.seq (.region [ (oN 49 (.load true 8 (.t 9))),(oN 50 (.call zeX [(.t 49)])),(oN 10 (.mov (.t 50)))] [9,49,50]) (.seq (.region [ (oN 51 (.mov (.t 10))),(oN 52 (.bin .neq (.t 51) (.c (.int .i64 0))))] [51]) (.cond (.t 52) (.seq (.region [ (oN 53 (.mov (.t 10))),(oN 2 (.mov (.t 53)))] [10,36,37,38,43,44,45,52,53]) (.ret)) (.skip)))))) (.region [ (oN 54 (.bin .add (.t 45) (.c (.int .i64 1)))),(oN 45 (.mov (.t 54)))] [2,10,52,54])))
def zf5:ACode:=.region [ (oN 55 (.bin .add (.t 38) (.c (.int .i64 1)))),(oN 38 (.mov (.t 55)))] [43,44,45,55]
def zgd:ACode:=.seq (.region [ (oN 39 (.bin .lss (.t 38) (.t 37)))] []) (.seq (.cond (.t 39) (.skip) (.exit 2)) (.seq (.block 3 (.seq (.region [ (oN 40 (.idx 2 (.t 36) (.t 38))),(oN 41 (.load true 2 (.t 40))),(oN 7 (.alloc [.int .u32 0, .nilsl])),⟨none, .store 2 (.t 7) (.t 41),none⟩] [39,40,41]) (.seq (.region [ (oN 42 (.fldaddr 1 1 (.t 7))),(oN 43 (.load false 1 (.t 42))),(oN 44 (.len (.t 43))),(oN 45 (.mov (.c (.int .i64 0))))] [7,42]) (.block 4 (.loop zf2))))) (zf5)))
def zga:ACode:=.seq (.region [ (oN 2 (.mov (.c (.int .i64 0))))] [36,37,38]) (.ret)
def zgl:ACode:=.seq (.seq (.region [ (oN 24 (.fldaddr 1 1 (.t 1))),(oN 25 (.load false 1 (.t 24))),(oN 26 (.len (.t 25))),(oN 27 (.bin .gtr (.t 26) (.c (.int .i64 256)))),(oN 28 (.mov (.t 27))),(oG 29 28 false (.mov (.t 3))),(oG 30 28 false (.bin .gtr (.t 29) (.c (.int .i64 1024)))),(oN 31 (.pick (.t 28) (.c (.bool true)) (.t 30)))] [3,12,13,14,24,25,26,27,28,29,30]) (.cond (.t 31) (.seq (.region [ (oN 2 (.mov (.c (.int .i64 6))))] [1,31]) (.ret)) (.skip))) (.seq (.seq (.region [ (oN 32 (.load true 2 (.t 1))),(oN 33 (.call zju [(.t 32)])),(oN 34 (.un .not (.t 33)))] [2,31,32,33]) (.cond (.t 34) (.seq (.region [ (oN 2 (.mov (.c (.int .i64 18))))] [1,34]) (.ret)) (.skip))) (.seq (.seq (.region [ (oN 35 (.fldaddr 1 1 (.t 1))),(oN 36 (.load false 1 (.t 35))),(oN 37 (.len (.t 36))),(oN 38 (.mov (.c (.int .i64 0))))] [1,2,34,35]) (.block 2 (.loop zgd))) (zga)))
def zhD:ACode:=.seq (.region [ (oN 1 (.rbox (.t 0))),(oN 2 (.mov (.c (.int .i64 0))))] [0,2]) (.seq (.region [ (oN 3 (.mov (.c (.int .i64 0))))] []) (.seq (.seq (.region [ (oN 11 (.fldaddr 1 1 (.t 1))),(oN 12 (.load false 1 (.t 11))),(oN 13 (.len (.t 12))),(oN 14 (.mov (.c (.int .i64 0))))] [11]) (.block 0 (.loop zgh))) (zgl)))
def zcb:List ARet:=[.tmp 2]
theorem zlq:zac Try.prog zfU (qRo [1])=some (zhD.strip,zcb,56):=by kernel_rfl
def zie:ACode:=.seq (.seq (.region [ (oN 23 (.mov (.t 8))),(oN 24 (.fldaddr 4 1 (.t 3))),(oN 25 (.load false 1 (.t 24))),(oN 26 (.len (.t 25))),(oN 27 (.bin .lss (.t 23) (.t 26))),(oN 28 (.mov (.t 27))),(oG 29 28 true (.mov (.t 7))),(oG 30 28 true (.bin .geq (.t 29) (.c (.int .i64 0)))),(oN 31 (.pick (.t 28) (.t 30) (.c (.bool false))))] [23,24,25,26,27,28,29,30]) (.cond (.t 31) (.skip) (.exit 0))) (.seq (.block 1 (.region [ (oN 34 (.fldaddr 4 1 (.t 3))),(oN 35 (.load false 1 (.t 34))),(oN 36 (.mov (.t 8))),(oN 37 (.idx 5 (.t 35) (.t 36))),(oN 38 (.load true 5 (.t 37))),(oN 39 (.mov (.t 1))),(oN 40 (.bin .sub (.t 39) (.c (.int .i64 1)))),(oN 41 (.mov (.t 7))),(oN 42 (.call zht [(.t 38),(.t 40),(.t 41)])),(oN 7 (.mov (.t 42)))] [31,34,35,36,37,38,39,40,41,42])) (.region [ (oN 32 (.mov (.t 8))),(oN 33 (.bin .add (.t 32) (.c (.int .i64 1)))),(oN 8 (.mov (.t 33)))] [32,33]))
def zf3:ACode:=.seq (.region [ (oN 43 (.mov (.t 7))),(oN 6 (.mov (.t 43)))] [1,3,7,8,43]) (.ret)
def zk9:ACode:=.seq (.region [ (oN 3 (.rbox (.t 0))),(oN 6 (.mov (.c (.int .i64 0))))] [0,6]) (.seq (.seq (.region [ (oN 9 (.mov (.t 1))),(oN 10 (.bin .lss (.t 9) (.c (.int .i64 1)))),(oN 11 (.mov (.t 10))),(oG 12 11 false (.mov (.t 2))),(oG 13 11 false (.bin .lss (.t 12) (.c (.int .i64 1)))),(oN 14 (.pick (.t 11) (.c (.bool true)) (.t 13))),(oN 15 (.mov (.t 14))),(oG 16 15 false (.fldaddr 4 1 (.t 3))),(oG 17 15 false (.load false 1 (.t 16))),(oG 18 15 false (.len (.t 17))),(oG 19 15 false (.bin .gtr (.t 18) (.c (.int .i64 4)))),(oN 20 (.pick (.t 15) (.c (.bool true)) (.t 19)))] [9,10,11,12,13,14,15,16,17,18,19]) (.cond (.t 20) (.seq (.region [ (oN 6 (.mov (.c (.int .i64 (-1)))))] [1,2,3,20]) (.ret)) (.skip))) (.seq (.region [ (oN 21 (.mov (.t 2))),(oN 22 (.bin .sub (.t 21) (.c (.int .i64 1)))),(oN 7 (.mov (.t 22)))] [2,6,20,21,22]) (.seq (.seq (.region [ (oN 8 (.mov (.c (.int .i64 0))))] []) (.block 0 (.loop zie))) (zf3))))
def zea:List ARet:=[.tmp 6]
theorem zpJ:zac Try.prog zht (qRo [3])=some (zk9.strip,zea,44):=by kernel_rfl
def zim:ACode:=.seq (.region [ (oN 14 (.bin .lss (.t 13) (.t 12)))] []) (.seq (.cond (.t 14) (.skip) (.exit 0)) (.seq (.block 1 (.seq (.region [ (oN 15 (.idx 2 (.t 11) (.t 13))),(oN 16 (.load true 2 (.t 15))),(oN 4 (.alloc [.int .u32 0, .nilsl])),⟨none, .store 2 (.t 4) (.t 16),none⟩] [14,15,16]) (.seq (.region [ (oN 17 (.fldaddr 1 1 (.t 4))),(oN 18 (.load false 1 (.t 17))),(oN 19 (.len (.t 18))),(oN 5 (.mov (.t 19)))] [17,18,19]) (.seq (.seq (.region [ (oN 20 (.mov (.t 5))),(oN 21 (.bin .eql (.t 20) (.c (.int .i64 0)))),(oN 22 (.mov (.t 21))),(oG 23 22 false (.fldaddr 1 1 (.t 4))),(oG 24 22 false (.load false 1 (.t 23))),(oG 25 22 false (.mov (.t 5))),(oG 26 22 false (.bin .sub (.t 25) (.c (.int .i64 1)))),(oG 27 22 false (.idx 8 (.t 24) (.t 26))),(oG 28 22 false (.load true 8 (.t 27))),(oG 29 22 false (.call zdb [(.t 28)])),(oG 30 22 false (.un .not (.t 29))),(oN 31 (.pick (.t 22) (.c (.bool true)) (.t 30))),(oN 32 (.mov (.t 31))),(oG 33 32 false (.fldaddr 1 1 (.t 4))),(oG 34 32 false (.load false 1 (.t 33))),(oG 35 32 false (.mov (.t 5))),(oG 36 32 false (.bin .sub (.t 35) (.c (.int .i64 1)))),(oG 37 32 false (.slice 8 (.t 34) none (some (.t 36)))),(oG 38 32 false (.call zae [(.t 37),(.c (.fn (.func zdb) []))])),(oN 39 (.pick (.t 32) (.c (.bool true)) (.t 38)))] [5,20,21,22,23,24,25,26,27,28,29,30,31,32,33,34,35,36,37,38]) (.cond (.t 39) (.seq (.region [ (oN 2 (.mov (.c (.bool false))))] [1,4,11,12,13,39]) (.ret)) (.skip))) (.seq (.region [ (oN 40 (.load true 2 (.t 4))),(oN 41 (.call zeq [(.t 40)])),(oN 42 (.mkfn (.func zfK) [(.t 1)])),(oN 43 (.call zbq [(.t 41),(.t 42)]))] [2,4,39,40,41,42]) (.cond (.t 43) (.seq (.region [ (oN 2 (.mov (.c (.bool false))))] [1,11,12,13,43]) (.ret)) (.skip))))))) (.region [ (oN 44 (.bin .add (.t 13) (.c (.int .i64 1)))),(oN 13 (.mov (.t 44)))] [2,43,44])))
def zh9:ACode:=.seq (.region [ (oN 2 (.mov (.c (.bool true))))] [1,11,12,13]) (.ret)
def zk8:ACode:=.seq (.region [ (oN 1 (.rbox (.t 0))),(oN 2 (.mov (.c (.bool false))))] [0,2]) (.seq (.seq (.region [ (oN 6 (.fldaddr 1 1 (.t 1))),(oN 7 (.load false 1 (.t 6))),(oN 8 (.len (.t 7))),(oN 9 (.bin .eql (.t 8) (.c (.int .i64 0))))] [6,7,8]) (.cond (.t 9) (.seq (.region [ (oN 2 (.mov (.c (.bool false))))] [1,9]) (.ret)) (.skip))) (.seq (.seq (.region [ (oN 10 (.fldaddr 1 1 (.t 1))),(oN 11 (.load false 1 (.t 10))),(oN 12 (.len (.t 11))),(oN 13 (.mov (.c (.int .i64 0))))] [2,9,10]) (.block 0 (.loop zim))) (zh9)))
def zdl:List ARet:=[.tmp 2]
theorem zo8:zac Try.prog zju (qRo [1])=some (zk8.strip,zdl,45):=by kernel_rfl
def zgy:ACode:=.seq (.region [ (oN 23 (.bin .lss (.t 22) (.t 21)))] []) (.seq (.cond (.t 23) (.skip) (.exit 0)) (.seq (.block 1 (.seq (.region [ (oN 24 (.idx 5 (.t 20) (.t 22))),(oN 25 (.load true 5 (.t 24))),(oN 5 (.alloc [.int .i64 0, .int .u32 0, .int .i64 0, .int .i64 0, .nilsl])),⟨none, .store 5 (.t 5) (.t 25),none⟩] [23,24,25]) (.seq (.region [ (oN 26 (.load true 5 (.t 5))),(oN 27 (.call zgN [(.t 26)])),(oN 6 (.mov (.t 27)))] [5,26,27]) (.seq (.region [ (oN 28 (.mov (.t 6))),(oN 29 (.bin .neq (.t 28) (.c (.int .i64 0))))] [28]) (.cond (.t 29) (.seq (.region [ (oN 30 (.mov (.t 6))),(oN 2 (.mov (.t 30)))] [1,6,20,21,22,29,30]) (.ret)) (.skip)))))) (.region [ (oN 31 (.bin .add (.t 22) (.c (.int .i64 1)))),(oN 22 (.mov (.t 31)))] [2,6,29,31])))
def zgq:ACode:=.seq (.seq (.region [ (oN 32 (.load true 8 (.t 1))),(oN 33 (.call zaZ [(.t 32)])),(oN 34 (.un .not (.t 33)))] [1,20,21,22,32,33]) (.cond (.t 34) (.seq (.region [ (oN 2 (.mov (.c (.int .i64 2))))] [34]) (.ret)) (.skip))) (.seq (.region [ (oN 2 (.mov (.c (.int .i64 0))))] [34]) (.ret))
def zic:ACode:=.seq (.region [ (oN 1 (.rbox (.t 0))),(oN 2 (.mov (.c (.int .i64 0))))] [0,2]) (.seq (.seq (.region [ (oN 7 (.fldaddr 0 1 (.t 1))),(oN 8 (.load false 1 (.t 7))),(oN 9 (.call zfi [(.t 8)])),(oN 3 (.mov (.t 9)))] [7,8,9]) (.seq (.region [ (oN 10 (.mov (.t 3))),(oN 11 (.bin .lss (.t 10) (.c (.int .i64 0)))),(oN 12 (.mov (.t 11))),(oG 13 12 false (.mov (.t 3))),(oG 14 12 false (.fldaddr 6 1 (.t 1))),(oG 15 12 false (.load false 1 (.t 14))),(oG 16 12 false (.len (.t 15))),(oG 17 12 false (.bin .neq (.t 13) (.t 16))),(oN 18 (.pick (.t 12) (.c (.bool true)) (.t 17)))] [3,10,11,12,13,14,15,16,17]) (.cond (.t 18) (.seq (.region [ (oN 2 (.mov (.c (.int .i64 2))))] [1,18]) (.ret)) (.skip)))) (.seq (.seq (.region [ (oN 19 (.fldaddr 6 1 (.t 1))),(oN 20 (.load false 1 (.t 19))),(oN 21 (.len (.t 20))),(oN 22 (.mov (.c (.int .i64 0))))] [2,18,19]) (.block 0 (.loop zgy))) (zgq)))
def zaL:List ARet:=[.tmp 2]
theorem zmY:zac Try.prog zeX (qRo [1])=some (zic.strip,zaL,35):=by kernel_rfl
def zep:ACode:=.seq (.region [ (oN 2 (.mknil 1))] [2]) (.seq (.seq (.region [ (oN 3 (.mov (.t 0))),(oN 4 (.isnil false false (.t 3)))] [3]) (.cond (.t 4) (.seq (.region [ (oN 2 (.mknil 1))] [0,4]) (.ret)) (.skip))) (.seq (.region [ (oN 5 (.buildSl 1 0 [.int .i64 0] [])),(oN 6 (.mov (.t 0))),(oN 7 (.append 1 8 (.t 5) (.t 6))),(oN 2 (.mov (.t 7)))] [0,4,5,6,7]) (.ret)))
def zbx:List ARet:=[.tmp 2]
theorem zha:zac Try.prog zbX (qRo [])=some (zep.strip,zbx,8):=by kernel_rfl
def zhT:ACode:=.seq (.region [ (oN 1 (.rbox (.t 0))),(oN 2 (.mknil 1))] [0,2]) (.seq (.seq (.region [ (oN 4 (.fldaddr 1 1 (.t 1))),(oN 5 (.load false 1 (.t 4))),(oN 6 (.len (.t 5))),(oN 7 (.bin .eql (.t 6) (.c (.int .i64 0))))] [4,5,6]) (.cond (.t 7) (.seq (.region [ (oN 2 (.mknil 1))] [1,7]) (.ret)) (.skip))) (.seq (.region [ (oN 8 (.fldaddr 1 1 (.t 1))),(oN 9 (.load false 1 (.t 8))),(oN 10 (.fldaddr 1 1 (.t 1))),(oN 11 (.load false 1 (.t 10))),(oN 12 (.len (.t 11))),(oN 13 (.bin .sub (.t 12) (.c (.int .i64 1)))),(oN 14 (.idx 8 (.t 9) (.t 13))),(oN 15 (.load true 8 (.t 14))),(oN 3 (.alloc [.int .i64 0, .int .i64 0, .int .i64 0, .int .i64 0, .int .i64 0, .int .u32 0, .nilsl, .nilsl])),⟨none, .store 8 (.t 3) (.t 15),none⟩] [1,2,7,8,9,10,11,12,13,14,15]) (.seq (.seq (.region [ (oN 16 (.fldaddr 0 1 (.t 3))),(oN 17 (.load false 1 (.t 16)))] [16]) (.block 0 (.seq (.region [ (oN 19 (.bin .eql (.t 17) (.c (.int .i64 6)))),(oN 18 (.mov (.t 19)))] [19]) (.cond (.t 18) (.seq (.region [ (oN 20 (.fldaddr 3 1 (.t 3))),(oN 21 (.load false 1 (.t 20))),(oN 22 (.buildSl 1 1 [.int .i64 0] [(0,(.t 21))])),(oN 2 (.mov (.t 22)))] [3,17,18,20,21,22]) (.ret)) (.seq (.region [ (oN 24 (.bin .eql (.t 17) (.c (.int .i64 7)))),(oN 23 (.mov (.t 24)))] [18,24]) (.cond (.t 23) (.seq (.region [ (oN 25 (.fldaddr 3 1 (.t 3))),(oN 26 (.load false 1 (.t 25))),(oN 27 (.fldaddr 4 1 (.t 3))),(oN 28 (.load false 1 (.t 27))),(oN 29 (.buildSl 1 2 [.int .i64 0] [(0,(.t 26)),(1,(.t 28))])),(oN 2 (.mov (.t 29)))] [3,17,23,25,26,27,28,29]) (.ret)) (.seq (.region [ (oN 31 (.bin .eql (.t 17) (.c (.int .i64 8)))),(oN 30 (.mov (.t 31)))] [17,23,31]) (.cond (.t 30) (.seq (.region [ (oN 32 (.fldaddr 7 1 (.t 3))),(oN 33 (.load false 1 (.t 32))),(oN 34 (.call zbX [(.t 33)])),(oN 2 (.mov (.t 34)))] [3,30,32,33,34]) (.ret)) (.skip))))))))) (.seq (.region [ (oN 2 (.mknil 1))] [3,30]) (.ret)))))
def zcc:List ARet:=[.tmp 2]
theorem zlp:zac Try.prog zeq (qRo [1])=some (zhT.strip,zcc,35):=by kernel_rfl
def zba:ACode:=.seq (.region [ (oN 4 (.mov (.c (.bool false))))] [4]) (.seq (.region [ (oN 5 (.mov (.t 0))),(oN 6 (.mov (.t 1))),(oN 7 (.call zav [(.t 5),(.t 6)])),(oN 8 (.bin .geq (.t 7) (.c (.int .i64 0)))),(oN 4 (.mov (.t 8)))] [0,1,5,6,7,8]) (.ret))
def za7:List ARet:=[.tmp 4]
theorem zc8:zac Try.prog zy (qRo [])=some (zba.strip,za7,9):=by kernel_rfl
def zc0:ACode:=.seq (.seq (.region [ (oN 29 (.mov (.t 5))),(oN 30 (.mov (.t 4))),(oN 31 (.len (.t 30))),(oN 32 (.bin .lss (.t 29) (.t 31)))] [29,30,31]) (.cond (.t 32) (.skip) (.exit 2))) (.seq (.block 3 (.seq (.draw ( .step (oN 35 (.mov (.t 4))) ( .step (oN 36 (.mov (.t 5))) ( .step (oN 37 (.idx 1 (.t 35) (.t 36))) ( .step (oN 38 (.load false 1 (.t 37))) ( .step (oN 39 (.mov (.t 4))) ( .step (oN 40 (.mov (.t 5))) ( .step (oN 41 (.bin .sub (.t 40) (.c (.int .i64 1)))) ( .step (oN 42 (.idx 1 (.t 39) (.t 41))) ( .step (oN 43 (.load false 1 (.t 42))) ( .step (oN 44 (.bin .neq (.t 38) (.t 43))) ( .done))))))))))) [32,35,36,37,38,39,40,41,42,43]) (.cond (.t 44) (.seq (.region [ (oN 45 (.mov (.t 0))),(oN 46 (.mov (.t 3))),(oN 47 (.mov (.t 4))),(oN 48 (.mov (.t 5))),(oN 49 (.idx 1 (.t 47) (.t 48))),(oN 50 (.load false 1 (.t 49))),(oN 51 (.idx 1 (.t 45) (.t 46))),⟨none, .store 1 (.t 51) (.t 50),none⟩] [44,45,46,47,48,49,50,51]) (.region [ (oN 52 (.mov (.t 3))),(oN 53 (.bin .add (.t 52) (.c (.int .i64 1)))),(oN 3 (.mov (.t 53)))] [52,53])) (.skip)))) (.region [ (oN 33 (.mov (.t 5))),(oN 34 (.bin .add (.t 33) (.c (.int .i64 1)))),(oN 5 (.mov (.t 34)))] [33,34,44]))
def zc2:ACode:=.seq (.region [ (oN 54 (.mov (.t 0))),(oN 55 (.mov (.t 3))),(oN 56 (.slice 1 (.t 54) (some (.t 55)) none)),⟨none, .clear 1 [.int .i64 0] (.t 56),none⟩] [4,5,54,55,56]) (.seq (.region [ (oN 57 (.mov (.t 0))),(oN 58 (.mov (.t 3))),(oN 59 (.slice 1 (.t 57) none (some (.t 58)))),(oN 2 (.mov (.t 59)))] [0,3,57,58,59]) (.ret))
def zc4:ACode:=.region [ (oN 14 (.mov (.t 3))),(oN 15 (.bin .add (.t 14) (.c (.int .i64 1)))),(oN 3 (.mov (.t 15)))] [2,14,15,25]
def zcY:ACode:=.seq (.seq (.region [ (oN 10 (.mov (.t 3))),(oN 11 (.mov (.t 0))),(oN 12 (.len (.t 11))),(oN 13 (.bin .lss (.t 10) (.t 12)))] [10,11,12]) (.cond (.t 13) (.skip) (.exit 0))) (.seq (.block 1 (.seq (.draw ( .step (oN 16 (.mov (.t 0))) ( .step (oN 17 (.mov (.t 3))) ( .step (oN 18 (.idx 1 (.t 16) (.t 17))) ( .step (oN 19 (.load false 1 (.t 18))) ( .step (oN 20 (.mov (.t 0))) ( .step (oN 21 (.mov (.t 3))) ( .step (oN 22 (.bin .sub (.t 21) (.c (.int .i64 1)))) ( .step (oN 23 (.idx 1 (.t 20) (.t 22))) ( .step (oN 24 (.load false 1 (.t 23))) ( .step (oN 25 (.bin .eql (.t 19) (.t 24))) ( .done))))))))))) [13,16,17,18,19,20,21,22,23,24]) (.cond (.t 25) (.seq (.region [ (oN 26 (.mov (.t 0))),(oN 27 (.mov (.t 3))),(oN 28 (.slice 1 (.t 26) (some (.t 27)) none)),(oN 4 (.mov (.t 28)))] [25,26,27,28]) (.seq (.seq (.region [ (oN 5 (.mov (.c (.int .i64 1))))] []) (.block 2 (.loop zc0))) (zc2))) (.skip)))) (zc4))
def zc1:ACode:=.seq (.region [ (oN 60 (.mov (.t 0))),(oN 2 (.mov (.t 60)))] [0,3,60]) (.ret)
def zdO:ACode:=.seq (.region [ (oN 2 (.mknil 1))] [2]) (.seq (.seq (.region [ (oN 6 (.mov (.t 0))),(oN 7 (.len (.t 6))),(oN 8 (.bin .lss (.t 7) (.c (.int .i64 2))))] [6,7]) (.cond (.t 8) (.seq (.region [ (oN 9 (.mov (.t 0))),(oN 2 (.mov (.t 9)))] [0,8,9]) (.ret)) (.skip))) (.seq (.seq (.region [ (oN 3 (.mov (.c (.int .i64 1))))] [2,8]) (.block 0 (.loop zcY))) (zc1)))
def zbe:List ARet:=[.tmp 2]
theorem zgL:zac Try.prog zcw (qRo [])=some (zdO.strip,zbe,61):=by kernel_rfl
def zhH:ACode:=.seq (.region [ (oN 1 (.rbox (.t 0))),(oN 2 (.mov (.c (.bool false))))] [0,2]) (.seq (.region [ (oN 3 (.fldaddr 0 1 (.t 1))),(oN 4 (.load false 1 (.t 3))),(oN 5 (.bin .geq (.t 4) (.c (.int .i64 6)))),(oN 6 (.mov (.t 5))),(oG 7 6 true (.fldaddr 0 1 (.t 1))),(oG 8 6 true (.load false 1 (.t 7))),(oG 9 6 true (.bin .leq (.t 8) (.c (.int .i64 10)))),(oN 10 (.pick (.t 6) (.t 9) (.c (.bool false)))),(oN 2 (.mov (.t 10)))] [1,3,4,5,6,7,8,9,10]) (.ret))
def zfg:List ARet:=[.tmp 2]
theorem zlo:zac Try.prog zdb (qRo [1])=some (zhH.strip,zfg,11):=by kernel_rfl
def zbc:ACode:=.seq (.region [ (oN 4 (.mov (.c (.bool false))))] [4]) (.seq (.region [ (oN 5 (.mov (.t 0))),(oN 6 (.mov (.t 1))),(oN 7 (.call zaz [(.t 5),(.t 6)])),(oN 8 (.bin .geq (.t 7) (.c (.int .i64 0)))),(oN 4 (.mov (.t 8)))] [0,1,5,6,7,8]) (.ret))
def za8:List ARet:=[.tmp 4]
theorem zda:zac Try.prog zae (qRo [])=some (zbc.strip,za8,9):=by kernel_rfl
def zcK:ACode:=.seq (.region [ (oN 4 (.mov (.c (.bool false))))] [4]) (.seq (.region [ (oN 5 (.mov (.t 0))),(oN 6 (.mov (.t 1))),(oN 7 (.call zb9 [(.t 5),(.t 6)])),(oN 8 (.bin .geq (.t 7) (.c (.int .i64 0)))),(oN 4 (.mov (.t 8)))] [0,1,5,6,7,8]) (.ret))
def zcI:List ARet:=[.tmp 4]
theorem ze1:zac Try.prog zbq (qRo [])=some (zcK.strip,zcI,9):=by kernel_rfl
def zi6:ACode:=.seq (.region [ (oN 3 (.mov (.c (.bool false))))] [3]) (.seq (.region [ (oN 4 (.mov (.t 0))),(oN 5 (.bin .lss (.t 4) (.c (.int .i64 0)))),(oN 6 (.mov (.t 5))),(oG 7 6 false (.mov (.t 0))),(oG 8 6 false (.fldaddr 1 1 (.t 1))),(oG 9 6 false (.load false 1 (.t 8))),(oG 10 6 false (.len (.t 9))),(oG 11 6 false (.bin .geq (.t 7) (.t 10))),(oN 12 (.pick (.t 6) (.c (.bool true)) (.t 11))),(oN 3 (.mov (.t 12)))] [0,1,4,5,6,7,8,9,10,11,12]) (.ret))
def zeY:List ARet:=[.tmp 3]
theorem zne:zac Try.prog zfK (qRo [])=some (zi6.strip,zeY,13):=by kernel_rfl
def zgX:ACode:=.seq (.region [ (oN 2 (.mov (.c (.int .i64 0))))] [2]) (.seq (.seq (.region [ (oN 3 (.mov (.t 0)))] [0]) (.block 0 (.seq (.seq (.region [ (oN 5 (.bin .eql (.t 3) (.c (.int .i64 1)))),(oN 4 (.mov (.t 5)))] [5]) (.cond (.t 4) (.skip) (.seq (.region [ (oN 6 (.bin .eql (.t 3) (.c (.int .i64 4)))),(oN 4 (.mov (.t 6)))] [6]) (.cond (.t 4) (.skip) (.seq (.region [ (oN 7 (.bin .eql (.t 3) (.c (.int .i64 7)))),(oN 4 (.mov (.t 7)))] [7]) (.cond (.t 4) (.skip) (.region [ (oN 8 (.bin .eql (.t 3) (.c (.int .i64 8)))),(oN 4 (.mov (.t 8)))] [8]))))))) (.cond (.t 4) (.seq (.region [ (oN 2 (.mov (.c (.int .i64 1))))] [3,4]) (.ret)) (.seq (.region [ (oN 10 (.bin .eql (.t 3) (.c (.int .i64 2)))),(oN 9 (.mov (.t 10)))] [4,10]) (.cond (.t 9) (.seq (.region [ (oN 2 (.mov (.c (.int .i64 2))))] [3,9]) (.ret)) (.seq (.seq (.region [ (oN 12 (.bin .eql (.t 3) (.c (.int .i64 3)))),(oN 11 (.mov (.t 12)))] [9,12]) (.cond (.t 11) (.skip) (.seq (.region [ (oN 13 (.bin .eql (.t 3) (.c (.int .i64 5)))),(oN 11 (.mov (.t 13)))] [13]) (.cond (.t 11) (.skip) (.seq (.region [ (oN 14 (.bin .eql (.t 3) (.c (.int .i64 6)))),(oN 11 (.mov (.t 14)))] [14]) (.cond (.t 11) (.skip) (.seq (.region [ (oN 15 (.bin .eql (.t 3) (.c (.int .i64 9)))),(oN 11 (.mov (.t 15)))] [15]) (.cond (.t 11) (.skip) (.region [ (oN 16 (.bin .eql (.t 3) (.c (.int .i64 10)))),(oN 11 (.mov (.t 16)))] [3,16]))))))))) (.cond (.t 11) (.seq (.region [ (oN 2 (.mov (.c (.int .i64 0))))] [3,11]) (.ret)) (.skip))))))))) (.seq (.region [ (oN 2 (.mov (.c (.int .i64 (-1)))))] [3,11]) (.ret)))
def zP:List ARet:=[.tmp 2]
theorem zkr:zac Try.prog zfi (qRo [])=some (zgX.strip,zP,17):=by kernel_rfl
def zh6:ACode:=.seq (.region [ (oN 1 (.rbox (.t 0))),(oN 2 (.mov (.c (.int .i64 0))))] [0,2]) (.seq (.block 0 (.seq (.region [ (oN 4 (.load true 5 (.t 1))),(oN 5 (.call zgv [(.t 4),(.c (.int .i64 64))])),(oN 6 (.un .not (.t 5))),(oN 3 (.mov (.t 6)))] [4,5,6]) (.cond (.t 3) (.seq (.region [ (oN 2 (.mov (.c (.int .i64 20))))] [1,3]) (.ret)) (.seq (.region [ (oN 8 (.load true 5 (.t 1))),(oN 9 (.call zaD [(.t 8)])),(oN 10 (.un .not (.t 9))),(oN 7 (.mov (.t 10)))] [1,3,8,9,10]) (.cond (.t 7) (.seq (.region [ (oN 2 (.mov (.c (.int .i64 2))))] [7]) (.ret)) (.skip)))))) (.seq (.region [ (oN 2 (.mov (.c (.int .i64 0))))] [7]) (.ret)))
def zev:List ARet:=[.tmp 2]
theorem zl4:zac Try.prog zgN (qRo [1])=some (zh6.strip,zev,11):=by kernel_rfl
def zbg:ACode:=.seq (.region [ (oN 1 (.rbox (.t 0))),(oN 2 (.mov (.c (.bool false))))] [0,2]) (.seq (.region [ (oN 3 (.alloc [.int .i64 0, .int .i64 0, .int .i64 0, .int .i64 0, .int .i64 0, .int .u32 0, .nilsl, .nilsl]))] []) (.seq (.region [ (oN 4 (.mov (.c (.int .i64 0))))] []) (.seq (.seq (.region [ (oN 5 (.fldaddr 0 1 (.t 1))),(oN 6 (.load false 1 (.t 5)))] [5]) (.block 0 (.seq (.seq (.region [ (oN 8 (.bin .eql (.t 6) (.c (.int .i64 1)))),(oN 7 (.mov (.t 8)))] [8]) (.cond (.t 7) (.skip) (.region [ (oN 9 (.bin .eql (.t 6) (.c (.int .i64 3)))),(oN 7 (.mov (.t 9)))] [9]))) (.cond (.t 7) (.seq (.region [ (oN 10 (.fldaddr 1 1 (.t 1))),(oN 11 (.load false 1 (.t 10))),(oN 12 (.fldaddr 1 1 (.t 3))),⟨none, .store 1 (.t 12) (.t 11),none⟩] [6,7,10,11,12]) (.seq (.region [ (oN 13 (.fldaddr 1 1 (.t 1))),(oN 14 (.load false 1 (.t 13))),(oN 15 (.call zfJ [(.t 14)])),(oN 16 (.un .not (.t 15)))] [13,14,15]) (.cond (.t 16) (.seq (.region [ (oN 2 (.mov (.c (.bool false))))] [1,3,4,16]) (.ret)) (.skip)))) (.seq (.region [ (oN 18 (.bin .eql (.t 6) (.c (.int .i64 2)))),(oN 17 (.mov (.t 18)))] [7,18]) (.cond (.t 17) (.seq (.region [ (oN 19 (.fldaddr 2 1 (.t 1))),(oN 20 (.load false 1 (.t 19))),(oN 21 (.fldaddr 2 1 (.t 3))),⟨none, .store 1 (.t 21) (.t 20),none⟩] [6,17,19,20,21]) (.seq (.region [ (oN 22 (.fldaddr 2 1 (.t 1))),(oN 23 (.load false 1 (.t 22))),(oN 24 (.call zhA [(.t 23)])),(oN 25 (.un .not (.t 24)))] [22,23,24]) (.cond (.t 25) (.seq (.region [ (oN 2 (.mov (.c (.bool false))))] [1,3,4,25]) (.ret)) (.skip)))) (.seq (.region [ (oN 27 (.bin .eql (.t 6) (.c (.int .i64 5)))),(oN 26 (.mov (.t 27)))] [17,27]) (.cond (.t 26) (.region [ (oN 28 (.fldaddr 5 1 (.t 1))),(oN 29 (.load false 1 (.t 28))),(oN 30 (.fldaddr 5 1 (.t 3))),⟨none, .store 1 (.t 30) (.t 29),none⟩] [6,26,28,29,30]) (.seq (.region [ (oN 32 (.bin .eql (.t 6) (.c (.int .i64 6)))),(oN 31 (.mov (.t 32)))] [26,32]) (.cond (.t 31) (.region [ (oN 33 (.fldaddr 3 1 (.t 1))),(oN 34 (.load false 1 (.t 33))),(oN 35 (.fldaddr 3 1 (.t 3))),⟨none, .store 1 (.t 35) (.t 34),none⟩] [6,31,33,34,35]) (.seq (.region [ (oN 37 (.bin .eql (.t 6) (.c (.int .i64 7)))),(oN 36 (.mov (.t 37)))] [31,37]) (.cond (.t 36) (.draw ( .step (oN 38 (.fldaddr 3 1 (.t 1))) ( .step (oN 39 (.load false 1 (.t 38))) ( .step (oN 40 (.fldaddr 4 1 (.t 1))) ( .step (oN 42 (.fldaddr 3 1 (.t 3))) ( .alt (oN 41 (.load false 1 (.t 40))) ( .alt ⟨none, .store 1 (.t 42) (.t 39),none⟩ ( .step (oN 43 (.fldaddr 4 1 (.t 3))) ( .alt ⟨none, .store 1 (.t 43) (.t 41),none⟩ ( .done) ( .stop))) ( .stop)) ( .alt ⟨none, .store 1 (.t 42) (.t 39),none⟩ ( .step (oN 41 (.load false 1 (.t 40))) ( .step (oN 43 (.fldaddr 4 1 (.t 3))) ( .alt ⟨none, .store 1 (.t 43) (.t 41),none⟩ ( .done) ( .stop)))) ( .stop))))))) [6,36,38,39,40,41,42,43]) (.seq (.region [ (oN 45 (.bin .eql (.t 6) (.c (.int .i64 8)))),(oN 44 (.mov (.t 45)))] [6,36,45]) (.cond (.t 44) (.seq (.region [ (oN 46 (.fldaddr 7 1 (.t 1))),(oN 47 (.load false 1 (.t 46))),(oN 48 (.len (.t 47))),(oN 4 (.mov (.t 48)))] [44,46,47,48]) (.seq (.region [ (oN 49 (.mov (.t 4))),(oN 50 (.bin .lss (.t 49) (.c (.int .i64 1)))),(oN 51 (.mov (.t 50))),(oG 52 51 false (.mov (.t 4))),(oG 53 51 false (.bin .gtr (.t 52) (.c (.int .i64 64)))),(oN 54 (.pick (.t 51) (.c (.bool true)) (.t 53)))] [49,50,51,52,53]) (.cond (.t 54) (.seq (.region [ (oN 2 (.mov (.c (.bool false))))] [1,3,4,54]) (.ret)) (.skip)))) (.skip))))))))))))))) (.seq (.region [ (oN 55 (.fldaddr 1 1 (.t 1))),(oN 56 (.load false 1 (.t 55))),(oN 57 (.fldaddr 1 1 (.t 3))),(oN 58 (.load false 1 (.t 57))),(oN 59 (.bin .eql (.t 56) (.t 58))),(oN 60 (.mov (.t 59))),(oG 61 60 true (.fldaddr 2 1 (.t 1))),(oG 62 60 true (.load false 1 (.t 61))),(oG 63 60 true (.fldaddr 2 1 (.t 3))),(oG 64 60 true (.load false 1 (.t 63))),(oG 65 60 true (.bin .eql (.t 62) (.t 64))),(oN 66 (.pick (.t 60) (.t 65) (.c (.bool false)))),(oN 67 (.mov (.t 66))),(oG 68 67 true (.fldaddr 5 1 (.t 1))),(oG 69 67 true (.load false 1 (.t 68))),(oG 70 67 true (.fldaddr 5 1 (.t 3))),(oG 71 67 true (.load false 1 (.t 70))),(oG 72 67 true (.bin .eql (.t 69) (.t 71))),(oN 73 (.pick (.t 67) (.t 72) (.c (.bool false)))),(oN 74 (.mov (.t 73))),(oG 75 74 true (.fldaddr 3 1 (.t 1))),(oG 76 74 true (.load false 1 (.t 75))),(oG 77 74 true (.fldaddr 3 1 (.t 3))),(oG 78 74 true (.load false 1 (.t 77))),(oG 79 74 true (.bin .eql (.t 76) (.t 78))),(oN 80 (.pick (.t 74) (.t 79) (.c (.bool false)))),(oN 81 (.mov (.t 80))),(oG 82 81 true (.fldaddr 4 1 (.t 1))),(oG 83 81 true (.load false 1 (.t 82))),(oG 84 81 true (.fldaddr 4 1 (.t 3))),(oG 85 81 true (.load false 1 (.t 84))),(oG 86 81 true (.bin .eql (.t 83) (.t 85))),(oN 87 (.pick (.t 81) (.t 86) (.c (.bool false)))),(oN 88 (.mov (.t 87))),(oG 89 88 true (.fldaddr 7 1 (.t 1))),(oG 90 88 true (.load false 1 (.t 89))),(oG 91 88 true (.len (.t 90))),(oG 92 88 true (.mov (.t 4))),(oG 93 88 true (.bin .eql (.t 91) (.t 92))),(oN 94 (.pick (.t 88) (.t 93) (.c (.bool false)))),(oN 2 (.mov (.t 94)))] [1,3,4,16,25,44,54,55,56,57,58,59,60,61,62,63,64,65,66,67,68,69,70,71,72,73,74,75,76,77,78,79,80,81,82,83,84,85,86,87,88,89,90,91,92,93,94]) (.ret)))))
def zd:List ARet:=[.tmp 2]
theorem zbA:zac Try.prog zaZ (qRo [1])=some (zbg.strip,zd,95):=by kernel_rfl
def za6:ACode:=.seq (.region [ (oN 9 (.bin .lss (.t 8) (.t 7)))] []) (.seq (.cond (.t 9) (.skip) (.exit 0)) (.seq (.block 1 (.seq (.region [ (oN 10 (.mov (.t 8))),(oN 5 (.mov (.t 10)))] [9,10]) (.seq (.region [ (oN 11 (.mov (.t 1))),(oN 12 (.mov (.t 0))),(oN 13 (.mov (.t 5))),(oN 14 (.idx 5 (.t 12) (.t 13))),(oN 15 (.load true 5 (.t 14))),(oN 16 (.callv (.t 11) [(.t 15)]))] [11,12,13,14,15]) (.cond (.t 16) (.seq (.region [ (oN 17 (.mov (.t 5))),(oN 4 (.mov (.t 17)))] [0,1,5,7,8,16,17]) (.ret)) (.skip))))) (.region [ (oN 18 (.bin .add (.t 8) (.c (.int .i64 1)))),(oN 8 (.mov (.t 18)))] [4,5,16,18])))
def za9:ACode:=.seq (.region [ (oN 4 (.mov (.c (.int .i64 (-1)))))] [0,1,7,8]) (.ret)
def zbw:ACode:=.seq (.region [ (oN 4 (.mov (.c (.int .i64 0))))] [4]) (.seq (.seq (.region [ (oN 6 (.mov (.t 0))),(oN 7 (.len (.t 6))),(oN 8 (.mov (.c (.int .i64 0))))] [6]) (.block 0 (.loop za6))) (za9))
def zah:List ARet:=[.tmp 4]
theorem zdB:zac Try.prog zav (qRo [])=some (zbw.strip,zah,19):=by kernel_rfl
def zbb:ACode:=.seq (.region [ (oN 9 (.bin .lss (.t 8) (.t 7)))] []) (.seq (.cond (.t 9) (.skip) (.exit 0)) (.seq (.block 1 (.seq (.region [ (oN 10 (.mov (.t 8))),(oN 5 (.mov (.t 10)))] [9,10]) (.seq (.region [ (oN 11 (.mov (.t 1))),(oN 12 (.mov (.t 0))),(oN 13 (.mov (.t 5))),(oN 14 (.idx 8 (.t 12) (.t 13))),(oN 15 (.load true 8 (.t 14))),(oN 16 (.callv (.t 11) [(.t 15)]))] [11,12,13,14,15]) (.cond (.t 16) (.seq (.region [ (oN 17 (.mov (.t 5))),(oN 4 (.mov (.t 17)))] [0,1,5,7,8,16,17]) (.ret)) (.skip))))) (.region [ (oN 18 (.bin .add (.t 8) (.c (.int .i64 1)))),(oN 8 (.mov (.t 18)))] [4,5,16,18])))
def za3:ACode:=.seq (.region [ (oN 4 (.mov (.c (.int .i64 (-1)))))] [0,1,7,8]) (.ret)
def zbu:ACode:=.seq (.region [ (oN 4 (.mov (.c (.int .i64 0))))] [4]) (.seq (.seq (.region [ (oN 6 (.mov (.t 0))),(oN 7 (.len (.t 6))),(oN 8 (.mov (.c (.int .i64 0))))] [6]) (.block 0 (.loop zbb))) (za3))
def zak:List ARet:=[.tmp 4]
theorem zdK:zac Try.prog zaz (qRo [])=some (zbu.strip,zak,19):=by kernel_rfl
def zcE:ACode:=.seq (.region [ (oN 9 (.bin .lss (.t 8) (.t 7)))] []) (.seq (.cond (.t 9) (.skip) (.exit 0)) (.seq (.block 1 (.seq (.region [ (oN 10 (.mov (.t 8))),(oN 5 (.mov (.t 10)))] [9,10]) (.seq (.region [ (oN 11 (.mov (.t 1))),(oN 12 (.mov (.t 0))),(oN 13 (.mov (.t 5))),(oN 14 (.idx 1 (.t 12) (.t 13))),(oN 15 (.load false 1 (.t 14))),(oN 16 (.callv (.t 11) [(.t 15)]))] [11,12,13,14,15]) (.cond (.t 16) (.seq (.region [ (oN 17 (.mov (.t 5))),(oN 4 (.mov (.t 17)))] [0,1,5,7,8,16,17]) (.ret)) (.skip))))) (.region [ (oN 18 (.bin .add (.t 8) (.c (.int .i64 1)))),(oN 8 (.mov (.t 18)))] [4,5,16,18])))
def zcH:ACode:=.seq (.region [ (oN 4 (.mov (.c (.int .i64 (-1)))))] [0,1,7,8]) (.ret)
def zdm:ACode:=.seq (.region [ (oN 4 (.mov (.c (.int .i64 0))))] [4]) (.seq (.seq (.region [ (oN 6 (.mov (.t 0))),(oN 7 (.len (.t 6))),(oN 8 (.mov (.c (.int .i64 0))))] [6]) (.block 0 (.loop zcE))) (zcH))
def zbW:List ARet:=[.tmp 4]
theorem zf9:zac Try.prog zb9 (qRo [])=some (zdm.strip,zbW,19):=by kernel_rfl
def zjN:ACode:=.seq (.region [ (oN 2 (.rbox (.t 0))),(oN 3 (.rbox (.t 1))),(oN 4 (.mov (.c (.bool false))))] [0,1,4]) (.seq (.region [ (oN 5 (.load false 1 (.t 3))),(oN 6 (.bin .geq (.t 5) (.c (.int .i64 1)))),(oN 7 (.mov (.t 6))),(oG 8 7 true (.fldaddr 4 1 (.t 2))),(oG 9 7 true (.load false 1 (.t 8))),(oG 10 7 true (.mkfn (.func zgO) [(.t 3)])),(oG 11 7 true (.call zy [(.t 9),(.t 10)])),(oG 12 7 true (.un .not (.t 11))),(oN 13 (.pick (.t 7) (.t 12) (.c (.bool false)))),(oN 4 (.mov (.t 13)))] [2,3,5,6,7,8,9,10,11,12,13]) (.ret))
def zhe:List ARet:=[.tmp 4]
theorem zoy:zac Try.prog zgv (qRo [2,3])=some (zjN.strip,zhe,14):=by kernel_rfl
def zaN:ACode:=.seq (.region [ (oN 1 (.rbox (.t 0))),(oN 2 (.mov (.c (.bool false))))] [0,2]) (.seq (.region [ (oN 5 (.fldaddr 0 1 (.t 1))),(oN 6 (.load false 1 (.t 5))),(oN 7 (.build [.int .i64 0, .int .u32 0, .int .i64 0, .int .i64 0, .nilsl] [(0,1,(.t 6))])),(oN 3 (.alloc [.int .i64 0, .int .u32 0, .int .i64 0, .int .i64 0, .nilsl])),⟨none, .store 5 (.t 3) (.t 7),none⟩] [5,6,7]) (.seq (.region [ (oN 4 (.mov (.c (.int .i64 0))))] []) (.seq (.block 0 (.seq (.region [ (oN 9 (.fldaddr 0 1 (.t 1))),(oN 10 (.load false 1 (.t 9))),(oN 11 (.bin .eql (.t 10) (.c (.int .i64 1)))),(oN 8 (.mov (.t 11)))] [9,10,11]) (.cond (.t 8) (.region [ (oN 12 (.fldaddr 1 1 (.t 1))),(oN 13 (.load false 1 (.t 12))),(oN 14 (.fldaddr 1 1 (.t 3))),⟨none, .store 1 (.t 14) (.t 13),none⟩] [8,12,13,14]) (.seq (.region [ (oN 16 (.fldaddr 0 1 (.t 1))),(oN 17 (.load false 1 (.t 16))),(oN 18 (.bin .eql (.t 17) (.c (.int .i64 2)))),(oN 19 (.mov (.t 18))),(oG 20 19 true (.fldaddr 2 1 (.t 1))),(oG 21 19 true (.load false 1 (.t 20))),(oG 22 19 true (.call zfJ [(.t 21)])),(oN 23 (.pick (.t 19) (.t 22) (.c (.bool false)))),(oN 15 (.mov (.t 23)))] [8,16,17,18,19,20,21,22,23]) (.cond (.t 15) (.region [ (oN 24 (.fldaddr 2 1 (.t 1))),(oN 25 (.load false 1 (.t 24))),(oN 26 (.fldaddr 2 1 (.t 3))),⟨none, .store 1 (.t 26) (.t 25),none⟩] [15,24,25,26]) (.seq (.region [ (oN 28 (.fldaddr 0 1 (.t 1))),(oN 29 (.load false 1 (.t 28))),(oN 30 (.bin .geq (.t 29) (.c (.int .i64 3)))),(oN 31 (.mov (.t 30))),(oG 32 31 true (.fldaddr 0 1 (.t 1))),(oG 33 31 true (.load false 1 (.t 32))),(oG 34 31 true (.bin .leq (.t 33) (.c (.int .i64 15)))),(oN 35 (.pick (.t 31) (.t 34) (.c (.bool false)))),(oN 27 (.mov (.t 35)))] [4,15,28,29,30,31,32,33,34,35]) (.cond (.t 27) (.region [ (oN 4 (.mov (.c (.int .i64 2))))] [27]) (.seq (.seq (.region [ (oN 37 (.fldaddr 0 1 (.t 1))),(oN 38 (.load false 1 (.t 37))),(oN 39 (.bin .eql (.t 38) (.c (.int .i64 16)))),(oN 36 (.mov (.t 39)))] [27,37,38,39]) (.cond (.t 36) (.skip) (.region [ (oN 40 (.fldaddr 0 1 (.t 1))),(oN 41 (.load false 1 (.t 40))),(oN 42 (.bin .eql (.t 41) (.c (.int .i64 17)))),(oN 36 (.mov (.t 42)))] [40,41,42]))) (.cond (.t 36) (.region [ (oN 4 (.mov (.c (.int .i64 1))))] [36]) (.seq (.seq (.region [ (oN 44 (.fldaddr 0 1 (.t 1))),(oN 45 (.load false 1 (.t 44))),(oN 46 (.bin .eql (.t 45) (.c (.int .i64 18)))),(oN 47 (.mov (.t 46))),(oG 48 47 true (.fldaddr 3 1 (.t 1))),(oG 49 47 true (.load false 1 (.t 48))),(oG 50 47 true (.call zhA [(.t 49)])),(oN 51 (.pick (.t 47) (.t 50) (.c (.bool false)))),(oN 43 (.mov (.t 51)))] [36,44,45,46,47,48,49,50,51]) (.cond (.t 43) (.skip) (.region [ (oN 52 (.fldaddr 0 1 (.t 1))),(oN 53 (.load false 1 (.t 52))),(oN 54 (.bin .eql (.t 53) (.c (.int .i64 19)))),(oN 55 (.mov (.t 54))),(oG 56 55 true (.fldaddr 3 1 (.t 1))),(oG 57 55 true (.load false 1 (.t 56))),(oG 58 55 true (.bin .eql (.t 57) (.c (.int .i64 1)))),(oG 59 55 true (.mov (.t 58))),(oG 60 59 false (.fldaddr 3 1 (.t 1))),(oG 61 59 false (.load false 1 (.t 60))),(oG 62 59 false (.bin .eql (.t 61) (.c (.int .i64 2)))),(oG 63 55 true (.pick (.t 59) (.c (.bool true)) (.t 62))),(oN 64 (.pick (.t 55) (.t 63) (.c (.bool false)))),(oN 43 (.mov (.t 64)))] [52,53,54,55,56,57,58,59,60,61,62,63,64]))) (.cond (.t 43) (.seq (.region [ (oN 4 (.mov (.c (.int .i64 1))))] [43]) (.region [ (oN 65 (.fldaddr 3 1 (.t 1))),(oN 66 (.load false 1 (.t 65))),(oN 67 (.fldaddr 3 1 (.t 3))),⟨none, .store 1 (.t 67) (.t 66),none⟩] [65,66,67])) (.seq (.region [ (oN 2 (.mov (.c (.bool false))))] [1,3,43]) (.ret))))))))))))) (.seq (.region [ (oN 68 (.fldaddr 1 1 (.t 1))),(oN 69 (.load false 1 (.t 68))),(oN 70 (.fldaddr 1 1 (.t 3))),(oN 71 (.load false 1 (.t 70))),(oN 72 (.bin .eql (.t 69) (.t 71))),(oN 73 (.mov (.t 72))),(oG 74 73 true (.fldaddr 2 1 (.t 1))),(oG 75 73 true (.load false 1 (.t 74))),(oG 76 73 true (.fldaddr 2 1 (.t 3))),(oG 77 73 true (.load false 1 (.t 76))),(oG 78 73 true (.bin .eql (.t 75) (.t 77))),(oN 79 (.pick (.t 73) (.t 78) (.c (.bool false)))),(oN 80 (.mov (.t 79))),(oG 81 80 true (.fldaddr 3 1 (.t 1))),(oG 82 80 true (.load false 1 (.t 81))),(oG 83 80 true (.fldaddr 3 1 (.t 3))),(oG 84 80 true (.load false 1 (.t 83))),(oG 85 80 true (.bin .eql (.t 82) (.t 84))),(oN 86 (.pick (.t 80) (.t 85) (.c (.bool false)))),(oN 87 (.mov (.t 86))),(oG 88 87 true (.fldaddr 4 1 (.t 1))),(oG 89 87 true (.load false 1 (.t 88))),(oG 90 87 true (.len (.t 89))),(oG 91 87 true (.mov (.t 4))),(oG 92 87 true (.bin .eql (.t 90) (.t 91))),(oN 93 (.pick (.t 87) (.t 92) (.c (.bool false)))),(oN 94 (.mov (.t 93))),(oG 95 94 true (.fldaddr 4 1 (.t 1))),(oG 96 94 true (.load false 1 (.t 95))),(oG 97 94 true (.call zy [(.t 96),(.c (.fn (.func z8) []))])),(oG 98 94 true (.un .not (.t 97))),(oN 99 (.pick (.t 94) (.t 98) (.c (.bool false)))),(oN 2 (.mov (.t 99)))] [1,3,4,68,69,70,71,72,73,74,75,76,77,78,79,80,81,82,83,84,85,86,87,88,89,90,91,92,93,94,95,96,97,98,99]) (.ret)))))
def zi:List ARet:=[.tmp 2]
theorem zbi:zac Try.prog zaD (qRo [1])=some (zaN.strip,zi,100):=by kernel_rfl
def zi2:ACode:=.seq (.region [ (oN 2 (.mov (.c (.bool false))))] [2]) (.seq (.region [ (oN 3 (.mov (.t 0))),(oN 4 (.bin .geq (.t 3) (.c (.int .i64 0)))),(oN 5 (.mov (.t 4))),(oG 6 5 true (.mov (.t 0))),(oG 7 5 true (.bin .lss (.t 6) (.c (.int .i64 65536)))),(oN 8 (.pick (.t 5) (.t 7) (.c (.bool false)))),(oN 2 (.mov (.t 8)))] [0,3,4,5,6,7,8]) (.ret))
def zgI:List ARet:=[.tmp 2]
theorem zm4:zac Try.prog zfJ (qRo [])=some (zi2.strip,zgI,9):=by kernel_rfl
def zk1:ACode:=.seq (.region [ (oN 2 (.mov (.c (.bool false))))] [2]) (.seq (.region [ (oN 3 (.mov (.t 0))),(oN 4 (.bin .eql (.t 3) (.c (.int .i64 1)))),(oN 5 (.mov (.t 4))),(oG 6 5 false (.mov (.t 0))),(oG 7 5 false (.bin .eql (.t 6) (.c (.int .i64 2)))),(oN 8 (.pick (.t 5) (.c (.bool true)) (.t 7))),(oN 9 (.mov (.t 8))),(oG 10 9 false (.mov (.t 0))),(oG 11 9 false (.bin .eql (.t 10) (.c (.int .i64 4)))),(oN 12 (.pick (.t 9) (.c (.bool true)) (.t 11))),(oN 2 (.mov (.t 12)))] [0,3,4,5,6,7,8,9,10,11,12]) (.ret))
def zgF:List ARet:=[.tmp 2]
theorem zoT:zac Try.prog zhA (qRo [])=some (zk1.strip,zgF,13):=by kernel_rfl
def zhZ:ACode:=.seq (.region [ (oN 2 (.rbox (.t 0))),(oN 3 (.mov (.c (.bool false))))] [0,3]) (.seq (.region [ (oN 4 (.load true 5 (.t 2))),(oN 5 (.load false 1 (.t 1))),(oN 6 (.bin .sub (.t 5) (.c (.int .i64 1)))),(oN 7 (.call zgv [(.t 4),(.t 6)])),(oN 8 (.un .not (.t 7))),(oN 3 (.mov (.t 8)))] [1,2,4,5,6,7,8]) (.ret))
def zh0:List ARet:=[.tmp 3]
theorem zmu:zac Try.prog zgO (qRo [2])=some (zhZ.strip,zh0,9):=by kernel_rfl
def zi4:ACode:=.seq (.region [ (oN 1 (.rbox (.t 0))),(oN 2 (.mov (.c (.bool false))))] [0,2]) (.seq (.region [ (oN 3 (.load true 5 (.t 1))),(oN 4 (.call zaD [(.t 3)])),(oN 5 (.un .not (.t 4))),(oN 2 (.mov (.t 5)))] [1,3,4,5]) (.ret))
def zi5:List ARet:=[.tmp 2]
theorem zm7:zac Try.prog z8 (qRo [1])=some (zi4.strip,zi5,6):=by kernel_rfl
end Go.Ab
namespace Go.Ab
end Go.Ab
namespace Go.Ab
open Go.RowKit Go.Proofs
theorem fldP {off n m:Nat} {c:List AV} {H:AH} {nx:Nat}:zcv off n (encP m c) H nx=⟨off+n≤m,True, .iptr n (fun j=>c.getD (off+j) .undef),H,nx⟩:=rfl
theorem ziY {n m:Nat} {c:List AV} {H:AH} {nx:Nat}:zdq true n (encP m c) H nx=⟨n≤m,(AV.agg (tab (fun j=>c.getD j .undef) n 0)).wf, .agg (tab (fun j=>c.getD j .undef) n 0),H,nx⟩:=rfl
theorem zdt:∀ {e:Ex},(encX e).length=5
 | .mk _ _ _ _ _=>by rw [zdW];rfl
theorem zcx:∀ {e:Ex},[(encX e).getD 0 .undef,(encX e).getD 1 .undef,(encX e).getD 2 .undef,(encX e).getD 3 .undef,(encX e).getD 4 .undef]=encX e
 | .mk _ _ _ _ _=>by rw [zdW];rfl
theorem zb:∀ {e:Ex},zF (encX e)=true
 | .mk _ _ _ _ _=>by rw [zdW];rfl
theorem zh:∀ {e:Nd},zF (encN e)=true
 | .mk _ _ _=>by rw [zv3];rfl
theorem flX {r:List AV} (h:r.all AV.flat=true):∀ {e:Ex},(AV.agg (encX e)::r).all AV.flat=true
 | .mk _ _ _ _ _=>by rw [zdW,List.all_cons,h];rfl
mutual
def zc9:Ex→Nat
 | .mk _ _ _ _ l=>1+zt l
def zt:List Ex→Nat
 | []=>0
 | e::l=>zc9 e+zt l
end
theorem zgk:∀ {l:List Ex} {y:Ex},y∈l→zc9 y≤zt l
 | [],y,hy=>by simp at hy
 |
  a::l,y,hy=>by
  rw [zt]
  rcases List.mem_cons.1 hy with rfl | hy
  · omega
  · have:=zgk hy;omega
mutual
theorem zgx:∀ (e:Ex) (m n:Int),-1≤n → -1≤zgu e m n∧(zgu e m n≤n)
 |
  .mk _ _ _ _ l,m,n,h=>by
  rw [zgu]
  split
  · omega
  ·
   rename_i hc
   have:=zkf l (m - 1) (n - 1) (by omega)
   omega
theorem zkf:∀ (l:List Ex) (m n:Int),-1≤n → -1≤zbR l m n∧zbR l m n≤n
 | [],m,n,h=>by rw [zbR];omega
 |
  e::l,m,n,h=>by
  rw [zbR]
  split
  · omega
  ·
   have h1:=zgx e m n h
   have:=zkf l m _ h1.1
   omega
end
theorem zkW {l:List Ex} {i:Nat} {m n:Int} (h:i < l.length) (hn:0≤n):zbR (l.drop i) m n=zbR (l.drop (i+1)) m (zgu l[i] m n):=by
 rw [List.drop_eq_getElem_cons h,zbR,if_neg (by omega)]
theorem zjt {l:List Ex} {m n:Int} (hn:n < 0):zbR l m n=n:=by
 cases l with
 | nil=>rw [zbR]
 | cons a l=>rw [zbR,if_pos hn]
theorem ztx {l:List Int} {H:AH}:zeB 1 (encL 1 (fun n=>[.int .i64 n]) l) H=some (l.map cI):=ztl (fun _ _=>rfl)
theorem zxz {H H2:AH} {σ:Nat→Nat→Option (Nat × Nat × Nat)} {D:Nat→Nat→Prop} {t:Bool}:∀ (e:Ex) (j:Nat),j < 5→Vw H H2 σ D t ((encX e).getD j .undef) ((encX e).getD j .undef)
 |
  .mk _ _ _ _ _,j,hj=>by
  rw [zdW]
  match j,hj with
  | 0,_=>exact .int _ _ _
  | 1,_=>exact .int _ _ _
  | 2,_=>exact .int _ _ _
  | 3,_=>exact .int _ _ _
  | 4,_=>exact .sl _ _ _ _
theorem zyf {H H2:AH} {σ:Nat→Nat→Option (Nat × Nat × Nat)} {D:Nat→Nat→Prop} {t:Bool}:∀ (e:Nd) (j:Nat),j < 5→Vw H H2 σ D t ((encN e).getD j .undef) ((encN e).getD j .undef)
 |
  .mk _ _ _,j,hj=>by
  rw [zv3]
  match j,hj with
  | 0,_=>exact .int _ _ _
  | 1,_=>exact .int _ _ _
  | 2,_=>exact .int _ _ _
  | 3,_=>exact .sl _ _ _ _
  | 4,_=>exact .sl _ _ _ _
theorem zxl {H H2:AH} {σ:Nat→Nat→Option (Nat × Nat × Nat)} {D:Nat→Nat→Prop} {t:Bool} {r q g:Nat} {l:List Nd} (hD:D r q) (hg:H.get r q=some (.row 5 (l.map encN) g)) (hb:l.length≤big):Vw H H2 σ D t (.own r q g 0 l.length) (encL 5 encN l) :=
 zhx hD hg hb fun a _ j hj=>zyf a j hj
theorem zrX {H H2:AH} {σ:Nat→Nat→Option (Nat × Nat × Nat)} {D:Nat→Nat→Prop} {t:Bool} {r q g:Nat} {l:List Ex} (hD:D r q) (hg:H.get r q=some (.row 5 (l.map encX) g)) (hb:l.length≤big):Vw H H2 σ D t (.own r q g 0 l.length) (encL 5 encX l) :=
 zhx hD hg hb fun a _ j hj=>zxz a j hj
theorem zaA {n:Nat} {c:List AV} (h:zF c=true):zq (List.replicate n c):=fun d hd=>by rw [List.eq_of_mem_replicate hd];exact h
def zv5 (v:Int):Bool:=decide (0≤v∧v < 65536)
def zn8 (w:Int):Bool:=decide (w=1∨w=2∨w=4)
theorem zgH (v:Int):zE Try.prog zfJ [.int .i64 v] (·=.bool (zv5 v)):=by
 refine fn_x zm4 rfl ?_
 unfold zi2 zv5
 by_cases h1:0≤v
 ·
  (repeat first | simp (disch:=try exact dis1) only [evD,Nat.reduceBEq,Nat.reduceAdd,Nat.reduceLeDiff,dT,zgI] | with_reducible intro _ | ((with_reducible apply And.intro);omega))
  exact ⟨_, .bool _ _,congrArg _ (decide_eq_decide.2 (by omega))⟩
 ·
  (repeat first | simp (disch:=try exact dis1) only [evD,Nat.reduceBEq,Nat.reduceAdd,Nat.reduceLeDiff,dF,zgI] | with_reducible intro _ | ((with_reducible apply And.intro);omega))
  exact ⟨_, .bool _ _,rfl⟩
theorem zk4 (w:Int):zE Try.prog zhA [.int .i64 w] (·=.bool (zn8 w)):=by
 refine fn_x zoT rfl ?_
 unfold zk1 zn8
 by_cases h1:w=1
 ·
  (repeat first | simp (disch:=try exact dis1) only [evD,Nat.reduceBEq,Nat.reduceAdd,Nat.reduceLeDiff,dT,zgF] | with_reducible intro _ | ((with_reducible apply And.intro);omega))
  exact ⟨_, .bool _ _,rfl⟩
 by_cases h2:w=2
 ·
  (repeat first | simp (disch:=try exact dis1) only [evD,Nat.reduceBEq,Nat.reduceAdd,Nat.reduceLeDiff,dF,dT,zgF] | with_reducible intro _ | ((with_reducible apply And.intro);omega))
  exact ⟨_, .bool _ _,rfl⟩
 ·
  (repeat first | simp (disch:=try exact dis1) only [evD,Nat.reduceBEq,Nat.reduceAdd,Nat.reduceLeDiff,dF,zgF] | with_reducible intro _ | ((with_reducible apply And.intro);omega))
  exact ⟨_, .bool _ _,congrArg _ (decide_eq_decide.2 (by omega))⟩
mutual
def zqj:Ex→Int→Bool
 | .mk _ _ _ _ l,m=>if m < 1 then true else zo7 l (m - 1)
def zo7:List Ex→Int→Bool
 | [],_=>false
 | e::l,m=>zqj e m||zo7 l m
end
theorem znn:∀ (l:List Ex) (m:Int),zo7 l m=l.any (zqj · m)
 | [],m=>by rw [zo7];rfl
 | e::l,m=>by rw [zo7,znn l m];rfl
def zu (op n v w:Int) (k:Nat):Bool:=decide ((op=1∧v=0∧w=0∧k=0)∨(op=2∧n=0∧w=0∧k=0∧0≤v∧v < 65536)∨((op=16∨op=17)∧n=0∧v=0∧w=0∧k=1)∨(op=18∧n=0∧v=0∧(w=1∨w=2∨w=4)∧k=1)∨(op=19∧n=0∧v=0∧(w=1∨w=2)∧k=1)∨(3≤op∧op≤15∧n=0∧v=0∧w=0∧k=2))
mutual
def zhX:Ex→Bool
 | .mk op n v w l=>zfr l&&zu op n v w l.length
def zfr:List Ex→Bool
 | []=>true
 | e::l=>zhX e&&zfr l
end
theorem zdv:∀ (l:List Ex),zfr l=l.all zhX
 | []=>by rw [zfr];rfl
 | e::l=>by rw [zfr,zdv l];rfl
def zmR (e:Ex):Int:=if zqj e 64=true then 20 else if zhX e=true then 0 else 2
structure PredE (fv:AV) (l:List Ex) (p:Ex→Bool):Prop where
 ex:∃ f caps,fv=.fn (.func f) caps∧zfu Try.prog f=true∧zF caps=true∧∀ s∈l,zE Try.prog f ([.agg (encX s)]++caps) (·=.bool (p s))
theorem zhc:∀ {l:List AV},zF l=true→l.all AV.flat=true
 | [],_=>rfl
 |
  a::l,h=>by
  simp only [zF,Bool.and_eq_true] at h
  simp only [List.all_cons,Bool.and_eq_true]
  refine ⟨?_,zhc h.2⟩
  cases a<;>first | rfl | exact absurd h.1 (by simp [AV.flat0])
theorem zqW {fv:AV} {l:List Ex} {p:Ex→Bool} (hp:PredE fv l p) {s:Ex} (hs:s∈l) {H:AH} {nx:Nat} {k:AV→AH→Nat→Prop} (hk:k (.bool (p s)) H nx):zms Try.prog fv [.agg (encX s)] H nx k:=by
 obtain ⟨f,caps,rfl,hg,hf,hx⟩:=hp.ex
 rw [zkd]
 refine ⟨hg,zp (zm (hx s hs) ?_) hk⟩
 simp only [List.cons_append,List.nil_append,List.all_cons,Bool.and_eq_true]
 exact ⟨by have:=flX (r:=[]) rfl (e:=s);simpa using this,zhc hf⟩
theorem zdT {fv:AV} {l:List Ex} {p:Ex→Bool} (hp:PredE fv l p) {H H2:AH} {σ:Nat→Nat→Option (Nat × Nat × Nat)} {D:Nat→Nat→Prop} {t:Bool}:Vw H H2 σ D t fv fv:=by
 obtain ⟨f,caps,rfl,hg,hf,hx⟩:=hp.ex
 refine .fn _ _ _ _ rfl fun i a b h1 h2=>?_
 rw [h1] at h2
 cases h2
 exact zdo (zbr hf h1)
def idxI (o:Option Nat):Int:=match o with | some i=>(i:Int) | none => -1
theorem ziU (l:List Ex) (fv:AV) (p:Ex→Bool) (hp:PredE fv l p):zE Try.prog zav [encL 5 encX l,fv] (·=.int .i64 (idxI (l.findIdx? p))):=by
 refine fn_x zdB rfl ?_
 unfold zbw
 have hB:=hBig
 (repeat first | simp (disch:=try exact dis1) only [evD,Nat.reduceBEq,Nat.reduceAdd,Nat.reduceLeDiff] | with_reducible intro _ | ((with_reducible apply And.intro);omega))
 refine zf (fun i:Nat=>([(0,encL 5 encX l),(1,fv),(7, .int .i64 l.length),(8, .int .i64 i)],[])) 0 (fun i=>i≤l.length∧∀ j (h:j < l.length),j < i→p l[j]=false) (fun i=>l.length - i) 0 ⟨Nat.zero_le _,fun j _ h=>by omega⟩ (Ent.keep rfl fin5) ?_
 intro i ⟨hi,hno⟩ wf
 unfold za6
 (repeat first | simp (disch:=try exact dis1) only [evD,Nat.reduceBEq,Nat.reduceAdd,Nat.reduceLeDiff] | with_reducible intro _ | ((with_reducible apply And.intro);omega))
 (refine z6 (fun h=>?_) (fun h=>?_))<;>(try simp only [dcd] at h)
 ·
  have hi':i < l.length:=by omega
  (repeat first | simp (disch:=try exact dis1) only [evD,Nat.reduceBEq,Nat.reduceAdd,Nat.reduceLeDiff,zz hi',zdt,zcx] | with_reducible intro _ | ((with_reducible apply And.intro);omega))
  refine zqW hp (List.getElem_mem hi') ?_
  (repeat first | simp (disch:=try exact dis1) only [evD,Nat.reduceBEq,Nat.reduceAdd,Nat.reduceLeDiff] | with_reducible intro _ | ((with_reducible apply And.intro);omega))
  (refine z6 (fun h2=>?_) (fun h2=>?_))<;>(try simp only [dcd] at h2)
  ·
   (repeat first | simp (disch:=try exact dis1) only [evD,Nat.reduceBEq,Nat.reduceAdd,Nat.reduceLeDiff,zah] | with_reducible intro _ | ((with_reducible apply And.intro);omega))
   have e:l.findIdx? p=some i:=by
    rw [List.findIdx?_eq_some_iff_getElem]
    exact ⟨hi',h2,fun j hj=>by rw [hno j (by omega) hj];simp⟩
   rw [e]
   exact ⟨_, .int _ _ _,rfl⟩
  ·
   (repeat first | simp (disch:=try exact dis1) only [evD,Nat.reduceBEq,Nat.reduceAdd,Nat.reduceLeDiff] | with_reducible intro _ | ((with_reducible apply And.intro);omega))
   refine ⟨i+1,⟨by omega,fun j hj hji=>?_⟩,by omega,Ent.keep rfl fin5⟩
   by_cases hje:j=i
   · subst hje;simpa using h2
   · exact hno j hj (by omega)
 ·
  unfold za9
  (repeat first | simp (disch:=try exact dis1) only [evD,Nat.reduceBEq,Nat.reduceAdd,Nat.reduceLeDiff,zah] | with_reducible intro _ | ((with_reducible apply And.intro);omega))
  have e:l.findIdx? p=none:=by
   rw [List.findIdx?_eq_none_iff]
   intro x hx
   obtain ⟨j,hj,rfl⟩:=List.mem_iff_getElem.1 hx
   exact hno j hj (by omega)
  rw [e]
  exact ⟨_, .int _ _ _,rfl⟩
theorem zw8 {l:List Ex} {p:Ex→Bool}:decide (idxI (l.findIdx? p) ≥ 0)=l.any p:=by
 cases h:l.findIdx? p with
 |
  none =>
  have:=List.findIdx?_eq_none_iff.1 h
  rw [decide_eq_false (by simp [idxI])]
  symm
  rw [List.any_eq_false]
  intro x hx
  rw [this x hx];simp
 |
  some i =>
  obtain ⟨h1,h2,_⟩:=List.findIdx?_eq_some_iff_getElem.1 h
  rw [decide_eq_true (by simp [idxI])]
  exact (zrx h1 h2).symm
theorem zB (l:List Ex) (fv:AV) (p:Ex→Bool) (hp:PredE fv l p):zE Try.prog zy [encL 5 encX l,fv] (·=.bool (l.any p)):=by
 refine fn_x zc8 rfl ?_
 unfold zba
 (repeat first | simp (disch:=try exact dis1) only [evD,Nat.reduceBEq,Nat.reduceAdd,Nat.reduceLeDiff] | with_reducible intro _ | ((with_reducible apply And.intro);omega))
 refine zp (zaQ (D:=noR) (ziU l fv p hp) (.cons (zaF rfl) (.cons (zdT hp) .nil)) (.inl rfl)) ?_
 (repeat first | simp (disch:=try exact dis1) only [evD,Nat.reduceBEq,Nat.reduceAdd,Nat.reduceLeDiff,za7] | with_reducible intro _ | ((with_reducible apply And.intro);omega))
 refine ⟨_, .bool _ _,?_⟩
 rw [← zw8]
theorem zol:∀ (k:Nat) (e:Ex) (m:Int),zc9 e≤k → -1000≤m→m≤1000→zE Try.prog zgv [.agg (encX e), .int .i64 m] (·=.bool (!zqj e m)):=by
 intro k
 induction k with
 | zero=>intro e m h;obtain ⟨_,_,_,_,l⟩:=e;rw [zc9] at h;omega
 | succ k ih =>
 intro e m hk hm1 hm2
 obtain ⟨op,nn,v,w,l⟩:=e
 refine fn_x zoy rfl ?_
 unfold zjN
 have hB:=hBig
 rw [zc9] at hk
 rw [zdW,zqj]
 by_cases h1:m < 1
 ·
  rw [if_pos h1]
  (repeat first | simp (disch:=try exact dis1) only [evD,Nat.reduceBEq,Nat.reduceAdd,Nat.reduceLeDiff,fldP,dF,encP,zhe] | with_reducible intro _ | ((with_reducible apply And.intro);omega))
  exact ⟨_, .bool _ _,rfl⟩
 ·
  rw [if_neg h1,znn]
  have hp:PredE (.fn (.func zgO) [encP 1 [.int .i64 m]]) l (zqj · (m - 1)):=by
   refine ⟨_,_,rfl,by kernel_rfl,rfl,fun s hs=>?_⟩
   have hm:=zgk hs
   refine fn_x zmu rfl ?_
   unfold zhZ
   (repeat first | simp (disch:=try exact dis1) only [evD,Nat.reduceBEq,Nat.reduceAdd,Nat.reduceLeDiff,zdt,zb,zcx,encP] | with_reducible intro _ | ((with_reducible apply And.intro);omega))
   refine zp (zm (ih s (m - 1) (by omega) (by omega) (by omega)) (flX rfl)) ?_
   (repeat first | simp (disch:=try exact dis1) only [evD,Nat.reduceBEq,Nat.reduceAdd,Nat.reduceLeDiff,zh0] | with_reducible intro _ | ((with_reducible apply And.intro);omega))
   exact ⟨_, .bool _ _,rfl⟩
  (repeat first | simp (disch:=try exact dis1) only [evD,Nat.reduceBEq,Nat.reduceAdd,Nat.reduceLeDiff,fldP,dT,encP] | with_reducible intro _ | ((with_reducible apply And.intro);omega))
  refine zp (zaQ (D:=noR) (zB l _ _ hp) (.cons (zaF rfl) (.cons (zdT hp) .nil)) (.inl rfl)) ?_
  (repeat first | simp (disch:=try exact dis1) only [evD,Nat.reduceBEq,Nat.reduceAdd,Nat.reduceLeDiff,zhe] | with_reducible intro _ | ((with_reducible apply And.intro);omega))
  exact ⟨_, .bool _ _,rfl⟩
theorem zpz {op nn v w:Int} {l:List Ex} (h:op=1) (hp:PredE (.fn (.func z8) []) l (fun x => !zhX x)):zE Try.prog zaD [.agg [.int .i64 op, .int .u32 nn, .int .i64 v, .int .i64 w,encL 5 encX l]] (·=.bool (zfr l&&zu op nn v w l.length)):=by
 refine fn_x zbi rfl ?_
 unfold zaN
 have hB:=hBig
 (repeat first | simp (disch:=try exact dis1) only [evD,Nat.reduceBEq,Nat.reduceAdd,Nat.reduceLeDiff,dT,dF,fldP,zb,zi] | with_reducible intro _ | ((with_reducible apply And.intro);omega))
 by_cases q0:v=0<;>(repeat first | simp (disch:=try exact dis1) only [evD,Nat.reduceBEq,Nat.reduceAdd,Nat.reduceLeDiff,dT,dF,fldP,zb,zi] | with_reducible intro _ | ((with_reducible apply And.intro);omega))
 case neg =>
  exact ⟨_, .bool _ _,congrArg AV.bool (by rw [show zu op nn v w l.length=false from by unfold zu;exact dF (by omega),Bool.and_false])⟩
 by_cases q1:w=0<;>(repeat first | simp (disch:=try exact dis1) only [evD,Nat.reduceBEq,Nat.reduceAdd,Nat.reduceLeDiff,dT,dF,fldP,zb,zi] | with_reducible intro _ | ((with_reducible apply And.intro);omega))
 case neg =>
  exact ⟨_, .bool _ _,congrArg AV.bool (by rw [show zu op nn v w l.length=false from by unfold zu;exact dF (by omega),Bool.and_false])⟩
 by_cases q2:l.length=0<;>(repeat first | simp (disch:=try exact dis1) only [evD,Nat.reduceBEq,Nat.reduceAdd,Nat.reduceLeDiff,dT,dF,fldP,zb,zi] | with_reducible intro _ | ((with_reducible apply And.intro);omega))
 case neg =>
  exact ⟨_, .bool _ _,congrArg AV.bool (by rw [show zu op nn v w l.length=false from by unfold zu;exact dF (by omega),Bool.and_false])⟩
 refine zp (zaQ (D:=noR) (zB l _ _ hp) (.cons (zaF rfl) (.cons (zdT hp) .nil)) (.inl rfl)) ?_
 (repeat first | simp (disch:=try exact dis1) only [evD,Nat.reduceBEq,Nat.reduceAdd,Nat.reduceLeDiff,dT,dF,fldP,zb,zi] | with_reducible intro _ | ((with_reducible apply And.intro);omega))
 exact ⟨_, .bool _ _,congrArg AV.bool (by rw [show zu op nn v w l.length=true from by unfold zu;exact dT (by omega),Bool.and_true,zdv,List.all_eq_not_any_not])⟩
theorem zpE {op nn v w:Int} {l:List Ex} (h:op=2) (hp:PredE (.fn (.func z8) []) l (fun x => !zhX x)):zE Try.prog zaD [.agg [.int .i64 op, .int .u32 nn, .int .i64 v, .int .i64 w,encL 5 encX l]] (·=.bool (zfr l&&zu op nn v w l.length)):=by
 refine fn_x zbi rfl ?_
 unfold zaN
 have hB:=hBig
 (repeat first | simp (disch:=try exact dis1) only [evD,Nat.reduceBEq,Nat.reduceAdd,Nat.reduceLeDiff,dT,dF,fldP,zb,zi] | with_reducible intro _ | ((with_reducible apply And.intro);omega))
 refine zp (zm (zgH v) rfl) ?_
 unfold zv5
 by_cases hv:0≤v∧v < 65536<;>(repeat first | simp (disch:=try exact dis1) only [evD,Nat.reduceBEq,Nat.reduceAdd,Nat.reduceLeDiff,dT,dF,fldP,zb,zi] | with_reducible intro _ | ((with_reducible apply And.intro);omega))
 case neg =>
  exact ⟨_, .bool _ _,congrArg AV.bool (by rw [show zu op nn v w l.length=false from by unfold zu;exact dF (by omega),Bool.and_false])⟩
 by_cases q0:nn=0<;>(repeat first | simp (disch:=try exact dis1) only [evD,Nat.reduceBEq,Nat.reduceAdd,Nat.reduceLeDiff,dT,dF,fldP,zb,zi] | with_reducible intro _ | ((with_reducible apply And.intro);omega))
 case neg =>
  exact ⟨_, .bool _ _,congrArg AV.bool (by rw [show zu op nn v w l.length=false from by unfold zu;exact dF (by omega),Bool.and_false])⟩
 by_cases q1:w=0<;>(repeat first | simp (disch:=try exact dis1) only [evD,Nat.reduceBEq,Nat.reduceAdd,Nat.reduceLeDiff,dT,dF,fldP,zb,zi] | with_reducible intro _ | ((with_reducible apply And.intro);omega))
 case neg =>
  exact ⟨_, .bool _ _,congrArg AV.bool (by rw [show zu op nn v w l.length=false from by unfold zu;exact dF (by omega),Bool.and_false])⟩
 by_cases q2:l.length=0<;>(repeat first | simp (disch:=try exact dis1) only [evD,Nat.reduceBEq,Nat.reduceAdd,Nat.reduceLeDiff,dT,dF,fldP,zb,zi] | with_reducible intro _ | ((with_reducible apply And.intro);omega))
 case neg =>
  exact ⟨_, .bool _ _,congrArg AV.bool (by rw [show zu op nn v w l.length=false from by unfold zu;exact dF (by omega),Bool.and_false])⟩
 refine zp (zaQ (D:=noR) (zB l _ _ hp) (.cons (zaF rfl) (.cons (zdT hp) .nil)) (.inl rfl)) ?_
 (repeat first | simp (disch:=try exact dis1) only [evD,Nat.reduceBEq,Nat.reduceAdd,Nat.reduceLeDiff,dT,dF,fldP,zb,zi] | with_reducible intro _ | ((with_reducible apply And.intro);omega))
 exact ⟨_, .bool _ _,congrArg AV.bool (by rw [show zu op nn v w l.length=true from by unfold zu;exact dT (by omega),Bool.and_true,zdv,List.all_eq_not_any_not])⟩
theorem zpp {op nn v w:Int} {l:List Ex} (h:3≤op) (h2:op≤15) (hp:PredE (.fn (.func z8) []) l (fun x => !zhX x)):zE Try.prog zaD [.agg [.int .i64 op, .int .u32 nn, .int .i64 v, .int .i64 w,encL 5 encX l]] (·=.bool (zfr l&&zu op nn v w l.length)):=by
 refine fn_x zbi rfl ?_
 unfold zaN
 have hB:=hBig
 (repeat first | simp (disch:=try exact dis1) only [evD,Nat.reduceBEq,Nat.reduceAdd,Nat.reduceLeDiff,dT,dF,fldP,zb,zi] | with_reducible intro _ | ((with_reducible apply And.intro);omega))
 by_cases q0:nn=0<;>(repeat first | simp (disch:=try exact dis1) only [evD,Nat.reduceBEq,Nat.reduceAdd,Nat.reduceLeDiff,dT,dF,fldP,zb,zi] | with_reducible intro _ | ((with_reducible apply And.intro);omega))
 case neg =>
  exact ⟨_, .bool _ _,congrArg AV.bool (by rw [show zu op nn v w l.length=false from by unfold zu;exact dF (by omega),Bool.and_false])⟩
 by_cases q1:v=0<;>(repeat first | simp (disch:=try exact dis1) only [evD,Nat.reduceBEq,Nat.reduceAdd,Nat.reduceLeDiff,dT,dF,fldP,zb,zi] | with_reducible intro _ | ((with_reducible apply And.intro);omega))
 case neg =>
  exact ⟨_, .bool _ _,congrArg AV.bool (by rw [show zu op nn v w l.length=false from by unfold zu;exact dF (by omega),Bool.and_false])⟩
 by_cases q2:w=0<;>(repeat first | simp (disch:=try exact dis1) only [evD,Nat.reduceBEq,Nat.reduceAdd,Nat.reduceLeDiff,dT,dF,fldP,zb,zi] | with_reducible intro _ | ((with_reducible apply And.intro);omega))
 case neg =>
  exact ⟨_, .bool _ _,congrArg AV.bool (by rw [show zu op nn v w l.length=false from by unfold zu;exact dF (by omega),Bool.and_false])⟩
 by_cases q3:l.length=2<;>(repeat first | simp (disch:=try exact dis1) only [evD,Nat.reduceBEq,Nat.reduceAdd,Nat.reduceLeDiff,dT,dF,fldP,zb,zi] | with_reducible intro _ | ((with_reducible apply And.intro);omega))
 case neg =>
  exact ⟨_, .bool _ _,congrArg AV.bool (by rw [show zu op nn v w l.length=false from by unfold zu;exact dF (by omega),Bool.and_false])⟩
 refine zp (zaQ (D:=noR) (zB l _ _ hp) (.cons (zaF rfl) (.cons (zdT hp) .nil)) (.inl rfl)) ?_
 (repeat first | simp (disch:=try exact dis1) only [evD,Nat.reduceBEq,Nat.reduceAdd,Nat.reduceLeDiff,dT,dF,fldP,zb,zi] | with_reducible intro _ | ((with_reducible apply And.intro);omega))
 exact ⟨_, .bool _ _,congrArg AV.bool (by rw [show zu op nn v w l.length=true from by unfold zu;exact dT (by omega),Bool.and_true,zdv,List.all_eq_not_any_not])⟩
theorem znZ {op nn v w:Int} {l:List Ex} (h:op=16) (hp:PredE (.fn (.func z8) []) l (fun x => !zhX x)):zE Try.prog zaD [.agg [.int .i64 op, .int .u32 nn, .int .i64 v, .int .i64 w,encL 5 encX l]] (·=.bool (zfr l&&zu op nn v w l.length)):=by
 refine fn_x zbi rfl ?_
 unfold zaN
 have hB:=hBig
 (repeat first | simp (disch:=try exact dis1) only [evD,Nat.reduceBEq,Nat.reduceAdd,Nat.reduceLeDiff,dT,dF,fldP,zb,zi] | with_reducible intro _ | ((with_reducible apply And.intro);omega))
 by_cases q0:nn=0<;>(repeat first | simp (disch:=try exact dis1) only [evD,Nat.reduceBEq,Nat.reduceAdd,Nat.reduceLeDiff,dT,dF,fldP,zb,zi] | with_reducible intro _ | ((with_reducible apply And.intro);omega))
 case neg =>
  exact ⟨_, .bool _ _,congrArg AV.bool (by rw [show zu op nn v w l.length=false from by unfold zu;exact dF (by omega),Bool.and_false])⟩
 by_cases q1:v=0<;>(repeat first | simp (disch:=try exact dis1) only [evD,Nat.reduceBEq,Nat.reduceAdd,Nat.reduceLeDiff,dT,dF,fldP,zb,zi] | with_reducible intro _ | ((with_reducible apply And.intro);omega))
 case neg =>
  exact ⟨_, .bool _ _,congrArg AV.bool (by rw [show zu op nn v w l.length=false from by unfold zu;exact dF (by omega),Bool.and_false])⟩
 by_cases q2:w=0<;>(repeat first | simp (disch:=try exact dis1) only [evD,Nat.reduceBEq,Nat.reduceAdd,Nat.reduceLeDiff,dT,dF,fldP,zb,zi] | with_reducible intro _ | ((with_reducible apply And.intro);omega))
 case neg =>
  exact ⟨_, .bool _ _,congrArg AV.bool (by rw [show zu op nn v w l.length=false from by unfold zu;exact dF (by omega),Bool.and_false])⟩
 by_cases q3:l.length=1<;>(repeat first | simp (disch:=try exact dis1) only [evD,Nat.reduceBEq,Nat.reduceAdd,Nat.reduceLeDiff,dT,dF,fldP,zb,zi] | with_reducible intro _ | ((with_reducible apply And.intro);omega))
 case neg =>
  exact ⟨_, .bool _ _,congrArg AV.bool (by rw [show zu op nn v w l.length=false from by unfold zu;exact dF (by omega),Bool.and_false])⟩
 refine zp (zaQ (D:=noR) (zB l _ _ hp) (.cons (zaF rfl) (.cons (zdT hp) .nil)) (.inl rfl)) ?_
 (repeat first | simp (disch:=try exact dis1) only [evD,Nat.reduceBEq,Nat.reduceAdd,Nat.reduceLeDiff,dT,dF,fldP,zb,zi] | with_reducible intro _ | ((with_reducible apply And.intro);omega))
 exact ⟨_, .bool _ _,congrArg AV.bool (by rw [show zu op nn v w l.length=true from by unfold zu;exact dT (by omega),Bool.and_true,zdv,List.all_eq_not_any_not])⟩
theorem zod {op nn v w:Int} {l:List Ex} (h:op=17) (hp:PredE (.fn (.func z8) []) l (fun x => !zhX x)):zE Try.prog zaD [.agg [.int .i64 op, .int .u32 nn, .int .i64 v, .int .i64 w,encL 5 encX l]] (·=.bool (zfr l&&zu op nn v w l.length)):=by
 refine fn_x zbi rfl ?_
 unfold zaN
 have hB:=hBig
 (repeat first | simp (disch:=try exact dis1) only [evD,Nat.reduceBEq,Nat.reduceAdd,Nat.reduceLeDiff,dT,dF,fldP,zb,zi] | with_reducible intro _ | ((with_reducible apply And.intro);omega))
 by_cases q0:nn=0<;>(repeat first | simp (disch:=try exact dis1) only [evD,Nat.reduceBEq,Nat.reduceAdd,Nat.reduceLeDiff,dT,dF,fldP,zb,zi] | with_reducible intro _ | ((with_reducible apply And.intro);omega))
 case neg =>
  exact ⟨_, .bool _ _,congrArg AV.bool (by rw [show zu op nn v w l.length=false from by unfold zu;exact dF (by omega),Bool.and_false])⟩
 by_cases q1:v=0<;>(repeat first | simp (disch:=try exact dis1) only [evD,Nat.reduceBEq,Nat.reduceAdd,Nat.reduceLeDiff,dT,dF,fldP,zb,zi] | with_reducible intro _ | ((with_reducible apply And.intro);omega))
 case neg =>
  exact ⟨_, .bool _ _,congrArg AV.bool (by rw [show zu op nn v w l.length=false from by unfold zu;exact dF (by omega),Bool.and_false])⟩
 by_cases q2:w=0<;>(repeat first | simp (disch:=try exact dis1) only [evD,Nat.reduceBEq,Nat.reduceAdd,Nat.reduceLeDiff,dT,dF,fldP,zb,zi] | with_reducible intro _ | ((with_reducible apply And.intro);omega))
 case neg =>
  exact ⟨_, .bool _ _,congrArg AV.bool (by rw [show zu op nn v w l.length=false from by unfold zu;exact dF (by omega),Bool.and_false])⟩
 by_cases q3:l.length=1<;>(repeat first | simp (disch:=try exact dis1) only [evD,Nat.reduceBEq,Nat.reduceAdd,Nat.reduceLeDiff,dT,dF,fldP,zb,zi] | with_reducible intro _ | ((with_reducible apply And.intro);omega))
 case neg =>
  exact ⟨_, .bool _ _,congrArg AV.bool (by rw [show zu op nn v w l.length=false from by unfold zu;exact dF (by omega),Bool.and_false])⟩
 refine zp (zaQ (D:=noR) (zB l _ _ hp) (.cons (zaF rfl) (.cons (zdT hp) .nil)) (.inl rfl)) ?_
 (repeat first | simp (disch:=try exact dis1) only [evD,Nat.reduceBEq,Nat.reduceAdd,Nat.reduceLeDiff,dT,dF,fldP,zb,zi] | with_reducible intro _ | ((with_reducible apply And.intro);omega))
 exact ⟨_, .bool _ _,congrArg AV.bool (by rw [show zu op nn v w l.length=true from by unfold zu;exact dT (by omega),Bool.and_true,zdv,List.all_eq_not_any_not])⟩
theorem zoF {op nn v w:Int} {l:List Ex} (h:op=18) (hp:PredE (.fn (.func z8) []) l (fun x => !zhX x)):zE Try.prog zaD [.agg [.int .i64 op, .int .u32 nn, .int .i64 v, .int .i64 w,encL 5 encX l]] (·=.bool (zfr l&&zu op nn v w l.length)):=by
 refine fn_x zbi rfl ?_
 unfold zaN
 have hB:=hBig
 (repeat first | simp (disch:=try exact dis1) only [evD,Nat.reduceBEq,Nat.reduceAdd,Nat.reduceLeDiff,dT,dF,fldP,zb,zi] | with_reducible intro _ | ((with_reducible apply And.intro);omega))
 refine zp (zm (zk4 w) rfl) ?_
 unfold zn8
 by_cases hv:w=1∨w=2∨w=4<;>(repeat first | simp (disch:=try exact dis1) only [evD,Nat.reduceBEq,Nat.reduceAdd,Nat.reduceLeDiff,dT,dF,fldP,zb,zi] | with_reducible intro _ | ((with_reducible apply And.intro);omega))
 case neg =>
  exact ⟨_, .bool _ _,congrArg AV.bool (by rw [show zu op nn v w l.length=false from by unfold zu;exact dF (by omega),Bool.and_false])⟩
 by_cases q0:nn=0<;>(repeat first | simp (disch:=try exact dis1) only [evD,Nat.reduceBEq,Nat.reduceAdd,Nat.reduceLeDiff,dT,dF,fldP,zb,zi] | with_reducible intro _ | ((with_reducible apply And.intro);omega))
 case neg =>
  exact ⟨_, .bool _ _,congrArg AV.bool (by rw [show zu op nn v w l.length=false from by unfold zu;exact dF (by omega),Bool.and_false])⟩
 by_cases q1:v=0<;>(repeat first | simp (disch:=try exact dis1) only [evD,Nat.reduceBEq,Nat.reduceAdd,Nat.reduceLeDiff,dT,dF,fldP,zb,zi] | with_reducible intro _ | ((with_reducible apply And.intro);omega))
 case neg =>
  exact ⟨_, .bool _ _,congrArg AV.bool (by rw [show zu op nn v w l.length=false from by unfold zu;exact dF (by omega),Bool.and_false])⟩
 by_cases q2:l.length=1<;>(repeat first | simp (disch:=try exact dis1) only [evD,Nat.reduceBEq,Nat.reduceAdd,Nat.reduceLeDiff,dT,dF,fldP,zb,zi] | with_reducible intro _ | ((with_reducible apply And.intro);omega))
 case neg =>
  exact ⟨_, .bool _ _,congrArg AV.bool (by rw [show zu op nn v w l.length=false from by unfold zu;exact dF (by omega),Bool.and_false])⟩
 refine zp (zaQ (D:=noR) (zB l _ _ hp) (.cons (zaF rfl) (.cons (zdT hp) .nil)) (.inl rfl)) ?_
 (repeat first | simp (disch:=try exact dis1) only [evD,Nat.reduceBEq,Nat.reduceAdd,Nat.reduceLeDiff,dT,dF,fldP,zb,zi] | with_reducible intro _ | ((with_reducible apply And.intro);omega))
 exact ⟨_, .bool _ _,congrArg AV.bool (by rw [show zu op nn v w l.length=true from by unfold zu;exact dT (by omega),Bool.and_true,zdv,List.all_eq_not_any_not])⟩
theorem zm8 {op nn v w:Int} {l:List Ex} (h:op=19) (hw:w=1) (hp:PredE (.fn (.func z8) []) l (fun x => !zhX x)):zE Try.prog zaD [.agg [.int .i64 op, .int .u32 nn, .int .i64 v, .int .i64 w,encL 5 encX l]] (·=.bool (zfr l&&zu op nn v w l.length)):=by
 refine fn_x zbi rfl ?_
 unfold zaN
 have hB:=hBig
 (repeat first | simp (disch:=try exact dis1) only [evD,Nat.reduceBEq,Nat.reduceAdd,Nat.reduceLeDiff,dT,dF,fldP,zb,zi] | with_reducible intro _ | ((with_reducible apply And.intro);omega))
 by_cases q0:nn=0<;>(repeat first | simp (disch:=try exact dis1) only [evD,Nat.reduceBEq,Nat.reduceAdd,Nat.reduceLeDiff,dT,dF,fldP,zb,zi] | with_reducible intro _ | ((with_reducible apply And.intro);omega))
 case neg =>
  exact ⟨_, .bool _ _,congrArg AV.bool (by rw [show zu op nn v w l.length=false from by unfold zu;exact dF (by omega),Bool.and_false])⟩
 by_cases q1:v=0<;>(repeat first | simp (disch:=try exact dis1) only [evD,Nat.reduceBEq,Nat.reduceAdd,Nat.reduceLeDiff,dT,dF,fldP,zb,zi] | with_reducible intro _ | ((with_reducible apply And.intro);omega))
 case neg =>
  exact ⟨_, .bool _ _,congrArg AV.bool (by rw [show zu op nn v w l.length=false from by unfold zu;exact dF (by omega),Bool.and_false])⟩
 by_cases q2:l.length=1<;>(repeat first | simp (disch:=try exact dis1) only [evD,Nat.reduceBEq,Nat.reduceAdd,Nat.reduceLeDiff,dT,dF,fldP,zb,zi] | with_reducible intro _ | ((with_reducible apply And.intro);omega))
 case neg =>
  exact ⟨_, .bool _ _,congrArg AV.bool (by rw [show zu op nn v w l.length=false from by unfold zu;exact dF (by omega),Bool.and_false])⟩
 refine zp (zaQ (D:=noR) (zB l _ _ hp) (.cons (zaF rfl) (.cons (zdT hp) .nil)) (.inl rfl)) ?_
 (repeat first | simp (disch:=try exact dis1) only [evD,Nat.reduceBEq,Nat.reduceAdd,Nat.reduceLeDiff,dT,dF,fldP,zb,zi] | with_reducible intro _ | ((with_reducible apply And.intro);omega))
 exact ⟨_, .bool _ _,congrArg AV.bool (by rw [show zu op nn v w l.length=true from by unfold zu;exact dT (by omega),Bool.and_true,zdv,List.all_eq_not_any_not])⟩
theorem znc {op nn v w:Int} {l:List Ex} (h:op=19) (hw:w=2) (hp:PredE (.fn (.func z8) []) l (fun x => !zhX x)):zE Try.prog zaD [.agg [.int .i64 op, .int .u32 nn, .int .i64 v, .int .i64 w,encL 5 encX l]] (·=.bool (zfr l&&zu op nn v w l.length)):=by
 refine fn_x zbi rfl ?_
 unfold zaN
 have hB:=hBig
 (repeat first | simp (disch:=try exact dis1) only [evD,Nat.reduceBEq,Nat.reduceAdd,Nat.reduceLeDiff,dT,dF,fldP,zb,zi] | with_reducible intro _ | ((with_reducible apply And.intro);omega))
 by_cases q0:nn=0<;>(repeat first | simp (disch:=try exact dis1) only [evD,Nat.reduceBEq,Nat.reduceAdd,Nat.reduceLeDiff,dT,dF,fldP,zb,zi] | with_reducible intro _ | ((with_reducible apply And.intro);omega))
 case neg =>
  exact ⟨_, .bool _ _,congrArg AV.bool (by rw [show zu op nn v w l.length=false from by unfold zu;exact dF (by omega),Bool.and_false])⟩
 by_cases q1:v=0<;>(repeat first | simp (disch:=try exact dis1) only [evD,Nat.reduceBEq,Nat.reduceAdd,Nat.reduceLeDiff,dT,dF,fldP,zb,zi] | with_reducible intro _ | ((with_reducible apply And.intro);omega))
 case neg =>
  exact ⟨_, .bool _ _,congrArg AV.bool (by rw [show zu op nn v w l.length=false from by unfold zu;exact dF (by omega),Bool.and_false])⟩
 by_cases q2:l.length=1<;>(repeat first | simp (disch:=try exact dis1) only [evD,Nat.reduceBEq,Nat.reduceAdd,Nat.reduceLeDiff,dT,dF,fldP,zb,zi] | with_reducible intro _ | ((with_reducible apply And.intro);omega))
 case neg =>
  exact ⟨_, .bool _ _,congrArg AV.bool (by rw [show zu op nn v w l.length=false from by unfold zu;exact dF (by omega),Bool.and_false])⟩
 refine zp (zaQ (D:=noR) (zB l _ _ hp) (.cons (zaF rfl) (.cons (zdT hp) .nil)) (.inl rfl)) ?_
 (repeat first | simp (disch:=try exact dis1) only [evD,Nat.reduceBEq,Nat.reduceAdd,Nat.reduceLeDiff,dT,dF,fldP,zb,zi] | with_reducible intro _ | ((with_reducible apply And.intro);omega))
 exact ⟨_, .bool _ _,congrArg AV.bool (by rw [show zu op nn v w l.length=true from by unfold zu;exact dT (by omega),Bool.and_true,zdv,List.all_eq_not_any_not])⟩
theorem zm6 {op nn v w:Int} {l:List Ex} (h:op=19) (h1:w≠1) (h2:w≠2) (hp:PredE (.fn (.func z8) []) l (fun x => !zhX x)):zE Try.prog zaD [.agg [.int .i64 op, .int .u32 nn, .int .i64 v, .int .i64 w,encL 5 encX l]] (·=.bool (zfr l&&zu op nn v w l.length)):=by
 refine fn_x zbi rfl ?_
 unfold zaN
 have hB:=hBig
 (repeat first | simp (disch:=try exact dis1) only [evD,Nat.reduceBEq,Nat.reduceAdd,Nat.reduceLeDiff,dT,dF,fldP,zb,zi] | with_reducible intro _ | ((with_reducible apply And.intro);omega))
 exact ⟨_, .bool _ _,congrArg AV.bool (by rw [show zu op nn v w l.length=false from by unfold zu;exact dF (by omega),Bool.and_false])⟩
theorem zqU {op nn v w:Int} {l:List Ex} (h0:op < 1) (hp:PredE (.fn (.func z8) []) l (fun x => !zhX x)):zE Try.prog zaD [.agg [.int .i64 op, .int .u32 nn, .int .i64 v, .int .i64 w,encL 5 encX l]] (·=.bool (zfr l&&zu op nn v w l.length)):=by
 refine fn_x zbi rfl ?_
 unfold zaN
 have hB:=hBig
 (repeat first | simp (disch:=try exact dis1) only [evD,Nat.reduceBEq,Nat.reduceAdd,Nat.reduceLeDiff,dT,dF,fldP,zb,zi] | with_reducible intro _ | ((with_reducible apply And.intro);omega))
 exact ⟨_, .bool _ _,congrArg AV.bool (by rw [show zu op nn v w l.length=false from by unfold zu;exact dF (by omega),Bool.and_false])⟩
theorem zqr {op nn v w:Int} {l:List Ex} (h0:19 < op) (hp:PredE (.fn (.func z8) []) l (fun x => !zhX x)):zE Try.prog zaD [.agg [.int .i64 op, .int .u32 nn, .int .i64 v, .int .i64 w,encL 5 encX l]] (·=.bool (zfr l&&zu op nn v w l.length)):=by
 refine fn_x zbi rfl ?_
 unfold zaN
 have hB:=hBig
 (repeat first | simp (disch:=try exact dis1) only [evD,Nat.reduceBEq,Nat.reduceAdd,Nat.reduceLeDiff,dT,dF,fldP,zb,zi] | with_reducible intro _ | ((with_reducible apply And.intro);omega))
 exact ⟨_, .bool _ _,congrArg AV.bool (by rw [show zu op nn v w l.length=false from by unfold zu;exact dF (by omega),Bool.and_false])⟩
theorem zoZ:∀ (k:Nat) (e:Ex),zc9 e≤k→zE Try.prog zaD [.agg (encX e)] (·=.bool (zhX e)):=by
 intro k
 induction k with
 | zero=>intro e h;obtain ⟨_,_,_,_,l⟩:=e;rw [zc9] at h;omega
 | succ k ih =>
 intro e hk
 obtain ⟨op,nn,v,w,l⟩:=e
 rw [zc9] at hk
 rw [zdW,zhX]
 have hp:PredE (.fn (.func z8) []) l (fun x => !zhX x):=by
  refine ⟨_,_,rfl,by kernel_rfl,rfl,fun s hs=>?_⟩
  have hm:=zgk hs
  refine fn_x zm7 rfl ?_
  unfold zi4
  have hB:=hBig
  (repeat first | simp (disch:=try exact dis1) only [evD,Nat.reduceBEq,Nat.reduceAdd,Nat.reduceLeDiff,zdt,zb,zcx,encP] | with_reducible intro _ | ((with_reducible apply And.intro);omega))
  refine zp (zm (ih s (by omega)) (flX rfl)) ?_
  (repeat first | simp (disch:=try exact dis1) only [evD,Nat.reduceBEq,Nat.reduceAdd,Nat.reduceLeDiff,zi5] | with_reducible intro _ | ((with_reducible apply And.intro);omega))
  exact ⟨_, .bool _ _,rfl⟩
 by_cases h1:op=1
 · exact zpz h1 hp
 by_cases h2:op=2
 · exact zpE h2 hp
 by_cases h3:3≤op∧op≤15
 · exact zpp h3.1 h3.2 hp
 by_cases h16:op=16
 · exact znZ h16 hp
 by_cases h17:op=17
 · exact zod h17 hp
 by_cases h18:op=18
 · exact zoF h18 hp
 by_cases h19:op=19
 ·
  by_cases w1:w=1
  · exact zm8 h19 w1 hp
  by_cases w2:w=2
  · exact znc h19 w2 hp
  exact zm6 h19 w1 w2 hp
 by_cases h0:op < 1
 · exact zqU h0 hp
 exact zqr (by omega) hp
theorem zlM (e:Ex):zE Try.prog zgN [.agg (encX e)] (·=.int .i64 (zmR e)):=by
 refine fn_x zl4 rfl ?_
 unfold zh6 zmR
 have hB:=hBig
 (repeat first | simp (disch:=try exact dis1) only [evD,Nat.reduceBEq,Nat.reduceAdd,Nat.reduceLeDiff,zdt,zb,zcx] | with_reducible intro _ | ((with_reducible apply And.intro);omega))
 refine zp (zm (zol (zc9 e) e 64 (Nat.le_refl _) (by omega) (by omega)) (flX rfl)) ?_
 cases zqj e 64 with
 |
  true =>
  (repeat first | simp (disch:=try exact dis1) only [evD,Nat.reduceBEq,Nat.reduceAdd,Nat.reduceLeDiff,zev] | with_reducible intro _ | ((with_reducible apply And.intro);omega))
  exact ⟨_, .int _ _ _,rfl⟩
 |
  false =>
  (repeat first | simp (disch:=try exact dis1) only [evD,Nat.reduceBEq,Nat.reduceAdd,Nat.reduceLeDiff,zdt,zb,zcx] | with_reducible intro _ | ((with_reducible apply And.intro);omega))
  refine zp (zm (zoZ (zc9 e) e (Nat.le_refl _)) (flX rfl)) ?_
  cases zhX e with
  |
   true =>
   (repeat first | simp (disch:=try exact dis1) only [evD,Nat.reduceBEq,Nat.reduceAdd,Nat.reduceLeDiff,zev] | with_reducible intro _ | ((with_reducible apply And.intro);omega))
   exact ⟨_, .int _ _ _,rfl⟩
  |
   false =>
   (repeat first | simp (disch:=try exact dis1) only [evD,Nat.reduceBEq,Nat.reduceAdd,Nat.reduceLeDiff,zev] | with_reducible intro _ | ((with_reducible apply And.intro);omega))
   exact ⟨_, .int _ _ _,rfl⟩
def zaX (op:Int):Int:=if op=2 then 2 else if op=1∨op=4∨op=7∨op=8 then 1 else if op=3∨op=5∨op=6∨op=9∨op=10 then 0 else -1
def zr (op var width next els tgt:Int) (k:Nat):Bool:=decide ((((op=1∨op=3)∨var=0)∧(op=2∨width=0)∧((op=6∨op=7)∨next=0)∧(op=7∨els=0)∧(op=5∨tgt=0)∧(op=8∨k=0))∧(0≤var∧var < 65536)∧(op=2→width=1∨width=2∨width=4)∧(op=8→1≤k∧k≤64))
theorem zky (op:Int):zE Try.prog zfi [.int .i64 op] (·=.int .i64 (zaX op)):=by
 refine fn_x zkr rfl ?_
 unfold zgX
 by_cases h1:op=1
 ·
  have hr:zaX op=1:=by unfold zaX;subst h1;rfl
  rw [hr]
  (repeat first | simp (disch:=try exact dis1) only [evD,Nat.reduceBEq,Nat.reduceAdd,Nat.reduceLeDiff,dT,dF,zP] | with_reducible intro _ | ((with_reducible apply And.intro);omega))
  exact ⟨_, .int _ _ _,rfl⟩
 by_cases h4:op=4
 ·
  have hr:zaX op=1:=by unfold zaX;subst h4;rfl
  rw [hr]
  (repeat first | simp (disch:=try exact dis1) only [evD,Nat.reduceBEq,Nat.reduceAdd,Nat.reduceLeDiff,dT,dF,zP] | with_reducible intro _ | ((with_reducible apply And.intro);omega))
  exact ⟨_, .int _ _ _,rfl⟩
 by_cases h7:op=7
 ·
  have hr:zaX op=1:=by unfold zaX;subst h7;rfl
  rw [hr]
  (repeat first | simp (disch:=try exact dis1) only [evD,Nat.reduceBEq,Nat.reduceAdd,Nat.reduceLeDiff,dT,dF,zP] | with_reducible intro _ | ((with_reducible apply And.intro);omega))
  exact ⟨_, .int _ _ _,rfl⟩
 by_cases h8:op=8
 ·
  have hr:zaX op=1:=by unfold zaX;subst h8;rfl
  rw [hr]
  (repeat first | simp (disch:=try exact dis1) only [evD,Nat.reduceBEq,Nat.reduceAdd,Nat.reduceLeDiff,dT,dF,zP] | with_reducible intro _ | ((with_reducible apply And.intro);omega))
  exact ⟨_, .int _ _ _,rfl⟩
 by_cases h2:op=2
 ·
  have hr:zaX op=2:=by unfold zaX;subst h2;rfl
  rw [hr]
  (repeat first | simp (disch:=try exact dis1) only [evD,Nat.reduceBEq,Nat.reduceAdd,Nat.reduceLeDiff,dT,dF,zP] | with_reducible intro _ | ((with_reducible apply And.intro);omega))
  exact ⟨_, .int _ _ _,rfl⟩
 by_cases h3:op=3
 ·
  have hr:zaX op=0:=by unfold zaX;subst h3;rfl
  rw [hr]
  (repeat first | simp (disch:=try exact dis1) only [evD,Nat.reduceBEq,Nat.reduceAdd,Nat.reduceLeDiff,dT,dF,zP] | with_reducible intro _ | ((with_reducible apply And.intro);omega))
  exact ⟨_, .int _ _ _,rfl⟩
 by_cases h5:op=5
 ·
  have hr:zaX op=0:=by unfold zaX;subst h5;rfl
  rw [hr]
  (repeat first | simp (disch:=try exact dis1) only [evD,Nat.reduceBEq,Nat.reduceAdd,Nat.reduceLeDiff,dT,dF,zP] | with_reducible intro _ | ((with_reducible apply And.intro);omega))
  exact ⟨_, .int _ _ _,rfl⟩
 by_cases h6:op=6
 ·
  have hr:zaX op=0:=by unfold zaX;subst h6;rfl
  rw [hr]
  (repeat first | simp (disch:=try exact dis1) only [evD,Nat.reduceBEq,Nat.reduceAdd,Nat.reduceLeDiff,dT,dF,zP] | with_reducible intro _ | ((with_reducible apply And.intro);omega))
  exact ⟨_, .int _ _ _,rfl⟩
 by_cases h9:op=9
 ·
  have hr:zaX op=0:=by unfold zaX;subst h9;rfl
  rw [hr]
  (repeat first | simp (disch:=try exact dis1) only [evD,Nat.reduceBEq,Nat.reduceAdd,Nat.reduceLeDiff,dT,dF,zP] | with_reducible intro _ | ((with_reducible apply And.intro);omega))
  exact ⟨_, .int _ _ _,rfl⟩
 by_cases h10:op=10
 ·
  have hr:zaX op=0:=by unfold zaX;subst h10;rfl
  rw [hr]
  (repeat first | simp (disch:=try exact dis1) only [evD,Nat.reduceBEq,Nat.reduceAdd,Nat.reduceLeDiff,dT,dF,zP] | with_reducible intro _ | ((with_reducible apply And.intro);omega))
  exact ⟨_, .int _ _ _,rfl⟩
 have hr:zaX op = -1:=by unfold zaX;rw [if_neg (by omega),if_neg (by omega),if_neg (by omega)]
 rw [hr]
 (repeat first | simp (disch:=try exact dis1) only [evD,Nat.reduceBEq,Nat.reduceAdd,Nat.reduceLeDiff,dT,dF,zP] | with_reducible intro _ | ((with_reducible apply And.intro);omega))
 exact ⟨_, .int _ _ _,rfl⟩
theorem zql (op var width next els tgt:Int) (e:List Ex) (cs:List Int) (h:op=1):zE Try.prog zaZ [.agg [.int .i64 op, .int .i64 var, .int .i64 width, .int .i64 next, .int .i64 els, .int .u32 tgt,encL 5 encX e,za cs]] (·=.bool (zr op var width next els tgt cs.length)):=by
 refine fn_x zbA rfl ?_
 unfold zbg
 have hB:=hBig
 (repeat first | simp (disch:=try exact dis1) only [evD,Nat.reduceBEq,Nat.reduceAdd,Nat.reduceLeDiff,dT,dF,fldP,za,zd] | with_reducible intro _ | ((with_reducible apply And.intro);omega))
 refine zp (zm (zgH var) rfl) ?_
 unfold zv5
 by_cases hv:0≤var∧var < 65536<;>(repeat first | simp (disch:=try exact dis1) only [evD,Nat.reduceBEq,Nat.reduceAdd,Nat.reduceLeDiff,dT,dF,fldP,za,zd] | with_reducible intro _ | ((with_reducible apply And.intro);omega))
 case neg =>
  exact ⟨_, .bool _ _,congrArg AV.bool (by unfold zr;exact lb)⟩
 by_cases q0:width=0<;>(repeat first | simp (disch:=try exact dis1) only [evD,Nat.reduceBEq,Nat.reduceAdd,Nat.reduceLeDiff,dT,dF,fldP,za,zd] | with_reducible intro _ | ((with_reducible apply And.intro);omega))
 case neg =>
  exact ⟨_, .bool _ _,congrArg AV.bool (by unfold zr;exact lb)⟩
 by_cases q1:tgt=0<;>(repeat first | simp (disch:=try exact dis1) only [evD,Nat.reduceBEq,Nat.reduceAdd,Nat.reduceLeDiff,dT,dF,fldP,za,zd] | with_reducible intro _ | ((with_reducible apply And.intro);omega))
 case neg =>
  exact ⟨_, .bool _ _,congrArg AV.bool (by unfold zr;exact lb)⟩
 by_cases q2:next=0<;>(repeat first | simp (disch:=try exact dis1) only [evD,Nat.reduceBEq,Nat.reduceAdd,Nat.reduceLeDiff,dT,dF,fldP,za,zd] | with_reducible intro _ | ((with_reducible apply And.intro);omega))
 case neg =>
  exact ⟨_, .bool _ _,congrArg AV.bool (by unfold zr;exact lb)⟩
 by_cases q3:els=0<;>(repeat first | simp (disch:=try exact dis1) only [evD,Nat.reduceBEq,Nat.reduceAdd,Nat.reduceLeDiff,dT,dF,fldP,za,zd] | with_reducible intro _ | ((with_reducible apply And.intro);omega))
 case neg =>
  exact ⟨_, .bool _ _,congrArg AV.bool (by unfold zr;exact lb)⟩
 exact ⟨_, .bool _ _,congrArg AV.bool (by unfold zr;exact lb)⟩
theorem zqH (op var width next els tgt:Int) (e:List Ex) (cs:List Int) (h:op=2):zE Try.prog zaZ [.agg [.int .i64 op, .int .i64 var, .int .i64 width, .int .i64 next, .int .i64 els, .int .u32 tgt,encL 5 encX e,za cs]] (·=.bool (zr op var width next els tgt cs.length)):=by
 refine fn_x zbA rfl ?_
 unfold zbg
 have hB:=hBig
 (repeat first | simp (disch:=try exact dis1) only [evD,Nat.reduceBEq,Nat.reduceAdd,Nat.reduceLeDiff,dT,dF,fldP,za,zd] | with_reducible intro _ | ((with_reducible apply And.intro);omega))
 refine zp (zm (zk4 width) rfl) ?_
 unfold zn8
 by_cases hv:width=1∨width=2∨width=4<;>(repeat first | simp (disch:=try exact dis1) only [evD,Nat.reduceBEq,Nat.reduceAdd,Nat.reduceLeDiff,dT,dF,fldP,za,zd] | with_reducible intro _ | ((with_reducible apply And.intro);omega))
 case neg =>
  exact ⟨_, .bool _ _,congrArg AV.bool (by unfold zr;exact lb)⟩
 by_cases q0:var=0<;>(repeat first | simp (disch:=try exact dis1) only [evD,Nat.reduceBEq,Nat.reduceAdd,Nat.reduceLeDiff,dT,dF,fldP,za,zd] | with_reducible intro _ | ((with_reducible apply And.intro);omega))
 case neg =>
  exact ⟨_, .bool _ _,congrArg AV.bool (by unfold zr;exact lb)⟩
 by_cases q1:tgt=0<;>(repeat first | simp (disch:=try exact dis1) only [evD,Nat.reduceBEq,Nat.reduceAdd,Nat.reduceLeDiff,dT,dF,fldP,za,zd] | with_reducible intro _ | ((with_reducible apply And.intro);omega))
 case neg =>
  exact ⟨_, .bool _ _,congrArg AV.bool (by unfold zr;exact lb)⟩
 by_cases q2:next=0<;>(repeat first | simp (disch:=try exact dis1) only [evD,Nat.reduceBEq,Nat.reduceAdd,Nat.reduceLeDiff,dT,dF,fldP,za,zd] | with_reducible intro _ | ((with_reducible apply And.intro);omega))
 case neg =>
  exact ⟨_, .bool _ _,congrArg AV.bool (by unfold zr;exact lb)⟩
 by_cases q3:els=0<;>(repeat first | simp (disch:=try exact dis1) only [evD,Nat.reduceBEq,Nat.reduceAdd,Nat.reduceLeDiff,dT,dF,fldP,za,zd] | with_reducible intro _ | ((with_reducible apply And.intro);omega))
 case neg =>
  exact ⟨_, .bool _ _,congrArg AV.bool (by unfold zr;exact lb)⟩
 exact ⟨_, .bool _ _,congrArg AV.bool (by unfold zr;exact lb)⟩
theorem zq5 (op var width next els tgt:Int) (e:List Ex) (cs:List Int) (h:op=3):zE Try.prog zaZ [.agg [.int .i64 op, .int .i64 var, .int .i64 width, .int .i64 next, .int .i64 els, .int .u32 tgt,encL 5 encX e,za cs]] (·=.bool (zr op var width next els tgt cs.length)):=by
 refine fn_x zbA rfl ?_
 unfold zbg
 have hB:=hBig
 (repeat first | simp (disch:=try exact dis1) only [evD,Nat.reduceBEq,Nat.reduceAdd,Nat.reduceLeDiff,dT,dF,fldP,za,zd] | with_reducible intro _ | ((with_reducible apply And.intro);omega))
 refine zp (zm (zgH var) rfl) ?_
 unfold zv5
 by_cases hv:0≤var∧var < 65536<;>(repeat first | simp (disch:=try exact dis1) only [evD,Nat.reduceBEq,Nat.reduceAdd,Nat.reduceLeDiff,dT,dF,fldP,za,zd] | with_reducible intro _ | ((with_reducible apply And.intro);omega))
 case neg =>
  exact ⟨_, .bool _ _,congrArg AV.bool (by unfold zr;exact lb)⟩
 by_cases q0:width=0<;>(repeat first | simp (disch:=try exact dis1) only [evD,Nat.reduceBEq,Nat.reduceAdd,Nat.reduceLeDiff,dT,dF,fldP,za,zd] | with_reducible intro _ | ((with_reducible apply And.intro);omega))
 case neg =>
  exact ⟨_, .bool _ _,congrArg AV.bool (by unfold zr;exact lb)⟩
 by_cases q1:tgt=0<;>(repeat first | simp (disch:=try exact dis1) only [evD,Nat.reduceBEq,Nat.reduceAdd,Nat.reduceLeDiff,dT,dF,fldP,za,zd] | with_reducible intro _ | ((with_reducible apply And.intro);omega))
 case neg =>
  exact ⟨_, .bool _ _,congrArg AV.bool (by unfold zr;exact lb)⟩
 by_cases q2:next=0<;>(repeat first | simp (disch:=try exact dis1) only [evD,Nat.reduceBEq,Nat.reduceAdd,Nat.reduceLeDiff,dT,dF,fldP,za,zd] | with_reducible intro _ | ((with_reducible apply And.intro);omega))
 case neg =>
  exact ⟨_, .bool _ _,congrArg AV.bool (by unfold zr;exact lb)⟩
 by_cases q3:els=0<;>(repeat first | simp (disch:=try exact dis1) only [evD,Nat.reduceBEq,Nat.reduceAdd,Nat.reduceLeDiff,dT,dF,fldP,za,zd] | with_reducible intro _ | ((with_reducible apply And.intro);omega))
 case neg =>
  exact ⟨_, .bool _ _,congrArg AV.bool (by unfold zr;exact lb)⟩
 exact ⟨_, .bool _ _,congrArg AV.bool (by unfold zr;exact lb)⟩
theorem zrf (op var width next els tgt:Int) (e:List Ex) (cs:List Int) (h:op=4):zE Try.prog zaZ [.agg [.int .i64 op, .int .i64 var, .int .i64 width, .int .i64 next, .int .i64 els, .int .u32 tgt,encL 5 encX e,za cs]] (·=.bool (zr op var width next els tgt cs.length)):=by
 refine fn_x zbA rfl ?_
 unfold zbg
 have hB:=hBig
 (repeat first | simp (disch:=try exact dis1) only [evD,Nat.reduceBEq,Nat.reduceAdd,Nat.reduceLeDiff,dT,dF,fldP,za,zd] | with_reducible intro _ | ((with_reducible apply And.intro);omega))
 by_cases q0:var=0<;>(repeat first | simp (disch:=try exact dis1) only [evD,Nat.reduceBEq,Nat.reduceAdd,Nat.reduceLeDiff,dT,dF,fldP,za,zd] | with_reducible intro _ | ((with_reducible apply And.intro);omega))
 case neg =>
  exact ⟨_, .bool _ _,congrArg AV.bool (by unfold zr;exact lb)⟩
 by_cases q1:width=0<;>(repeat first | simp (disch:=try exact dis1) only [evD,Nat.reduceBEq,Nat.reduceAdd,Nat.reduceLeDiff,dT,dF,fldP,za,zd] | with_reducible intro _ | ((with_reducible apply And.intro);omega))
 case neg =>
  exact ⟨_, .bool _ _,congrArg AV.bool (by unfold zr;exact lb)⟩
 by_cases q2:tgt=0<;>(repeat first | simp (disch:=try exact dis1) only [evD,Nat.reduceBEq,Nat.reduceAdd,Nat.reduceLeDiff,dT,dF,fldP,za,zd] | with_reducible intro _ | ((with_reducible apply And.intro);omega))
 case neg =>
  exact ⟨_, .bool _ _,congrArg AV.bool (by unfold zr;exact lb)⟩
 by_cases q3:next=0<;>(repeat first | simp (disch:=try exact dis1) only [evD,Nat.reduceBEq,Nat.reduceAdd,Nat.reduceLeDiff,dT,dF,fldP,za,zd] | with_reducible intro _ | ((with_reducible apply And.intro);omega))
 case neg =>
  exact ⟨_, .bool _ _,congrArg AV.bool (by unfold zr;exact lb)⟩
 by_cases q4:els=0<;>(repeat first | simp (disch:=try exact dis1) only [evD,Nat.reduceBEq,Nat.reduceAdd,Nat.reduceLeDiff,dT,dF,fldP,za,zd] | with_reducible intro _ | ((with_reducible apply And.intro);omega))
 case neg =>
  exact ⟨_, .bool _ _,congrArg AV.bool (by unfold zr;exact lb)⟩
 exact ⟨_, .bool _ _,congrArg AV.bool (by unfold zr;exact lb)⟩
theorem zrz (op var width next els tgt:Int) (e:List Ex) (cs:List Int) (h:op=5):zE Try.prog zaZ [.agg [.int .i64 op, .int .i64 var, .int .i64 width, .int .i64 next, .int .i64 els, .int .u32 tgt,encL 5 encX e,za cs]] (·=.bool (zr op var width next els tgt cs.length)):=by
 refine fn_x zbA rfl ?_
 unfold zbg
 have hB:=hBig
 (repeat first | simp (disch:=try exact dis1) only [evD,Nat.reduceBEq,Nat.reduceAdd,Nat.reduceLeDiff,dT,dF,fldP,za,zd] | with_reducible intro _ | ((with_reducible apply And.intro);omega))
 by_cases q0:var=0<;>(repeat first | simp (disch:=try exact dis1) only [evD,Nat.reduceBEq,Nat.reduceAdd,Nat.reduceLeDiff,dT,dF,fldP,za,zd] | with_reducible intro _ | ((with_reducible apply And.intro);omega))
 case neg =>
  exact ⟨_, .bool _ _,congrArg AV.bool (by unfold zr;exact lb)⟩
 by_cases q1:width=0<;>(repeat first | simp (disch:=try exact dis1) only [evD,Nat.reduceBEq,Nat.reduceAdd,Nat.reduceLeDiff,dT,dF,fldP,za,zd] | with_reducible intro _ | ((with_reducible apply And.intro);omega))
 case neg =>
  exact ⟨_, .bool _ _,congrArg AV.bool (by unfold zr;exact lb)⟩
 by_cases q2:next=0<;>(repeat first | simp (disch:=try exact dis1) only [evD,Nat.reduceBEq,Nat.reduceAdd,Nat.reduceLeDiff,dT,dF,fldP,za,zd] | with_reducible intro _ | ((with_reducible apply And.intro);omega))
 case neg =>
  exact ⟨_, .bool _ _,congrArg AV.bool (by unfold zr;exact lb)⟩
 by_cases q3:els=0<;>(repeat first | simp (disch:=try exact dis1) only [evD,Nat.reduceBEq,Nat.reduceAdd,Nat.reduceLeDiff,dT,dF,fldP,za,zd] | with_reducible intro _ | ((with_reducible apply And.intro);omega))
 case neg =>
  exact ⟨_, .bool _ _,congrArg AV.bool (by unfold zr;exact lb)⟩
 exact ⟨_, .bool _ _,congrArg AV.bool (by unfold zr;exact lb)⟩
theorem zqp (op var width next els tgt:Int) (e:List Ex) (cs:List Int) (h:op=6):zE Try.prog zaZ [.agg [.int .i64 op, .int .i64 var, .int .i64 width, .int .i64 next, .int .i64 els, .int .u32 tgt,encL 5 encX e,za cs]] (·=.bool (zr op var width next els tgt cs.length)):=by
 refine fn_x zbA rfl ?_
 unfold zbg
 have hB:=hBig
 (repeat first | simp (disch:=try exact dis1) only [evD,Nat.reduceBEq,Nat.reduceAdd,Nat.reduceLeDiff,dT,dF,fldP,za,zd] | with_reducible intro _ | ((with_reducible apply And.intro);omega))
 by_cases q0:var=0<;>(repeat first | simp (disch:=try exact dis1) only [evD,Nat.reduceBEq,Nat.reduceAdd,Nat.reduceLeDiff,dT,dF,fldP,za,zd] | with_reducible intro _ | ((with_reducible apply And.intro);omega))
 case neg =>
  exact ⟨_, .bool _ _,congrArg AV.bool (by unfold zr;exact lb)⟩
 by_cases q1:width=0<;>(repeat first | simp (disch:=try exact dis1) only [evD,Nat.reduceBEq,Nat.reduceAdd,Nat.reduceLeDiff,dT,dF,fldP,za,zd] | with_reducible intro _ | ((with_reducible apply And.intro);omega))
 case neg =>
  exact ⟨_, .bool _ _,congrArg AV.bool (by unfold zr;exact lb)⟩
 by_cases q2:tgt=0<;>(repeat first | simp (disch:=try exact dis1) only [evD,Nat.reduceBEq,Nat.reduceAdd,Nat.reduceLeDiff,dT,dF,fldP,za,zd] | with_reducible intro _ | ((with_reducible apply And.intro);omega))
 case neg =>
  exact ⟨_, .bool _ _,congrArg AV.bool (by unfold zr;exact lb)⟩
 by_cases q3:els=0<;>(repeat first | simp (disch:=try exact dis1) only [evD,Nat.reduceBEq,Nat.reduceAdd,Nat.reduceLeDiff,dT,dF,fldP,za,zd] | with_reducible intro _ | ((with_reducible apply And.intro);omega))
 case neg =>
  exact ⟨_, .bool _ _,congrArg AV.bool (by unfold zr;exact lb)⟩
 exact ⟨_, .bool _ _,congrArg AV.bool (by unfold zr;exact lb)⟩
theorem zqz (op var width next els tgt:Int) (e:List Ex) (cs:List Int) (h:op=7):zE Try.prog zaZ [.agg [.int .i64 op, .int .i64 var, .int .i64 width, .int .i64 next, .int .i64 els, .int .u32 tgt,encL 5 encX e,za cs]] (·=.bool (zr op var width next els tgt cs.length)):=by
 refine fn_x zbA rfl ?_
 unfold zbg
 have hB:=hBig
 by_cases q0:var=0
 case neg =>
  ((repeat first | simp (disch:=try exact dis1) only [evD,Nat.reduceBEq,Nat.reduceAdd,Nat.reduceLeDiff,dT,dF,fldP,za,zd] | with_reducible intro _ | ((with_reducible apply And.intro);omega));(repeat' with_reducible apply And.intro)<;>(repeat first | simp (disch:=try exact dis1) only [evD,Nat.reduceBEq,Nat.reduceAdd,Nat.reduceLeDiff,dT,dF,fldP,za,zd] | with_reducible intro _ | ((with_reducible apply And.intro);omega));all_goals (exact ⟨_, .bool _ _,congrArg AV.bool (by unfold zr;exact lb)⟩))
 by_cases q1:width=0
 case neg =>
  ((repeat first | simp (disch:=try exact dis1) only [evD,Nat.reduceBEq,Nat.reduceAdd,Nat.reduceLeDiff,dT,dF,fldP,za,zd] | with_reducible intro _ | ((with_reducible apply And.intro);omega));(repeat' with_reducible apply And.intro)<;>(repeat first | simp (disch:=try exact dis1) only [evD,Nat.reduceBEq,Nat.reduceAdd,Nat.reduceLeDiff,dT,dF,fldP,za,zd] | with_reducible intro _ | ((with_reducible apply And.intro);omega));all_goals (exact ⟨_, .bool _ _,congrArg AV.bool (by unfold zr;exact lb)⟩))
 by_cases q2:tgt=0
 case neg =>
  ((repeat first | simp (disch:=try exact dis1) only [evD,Nat.reduceBEq,Nat.reduceAdd,Nat.reduceLeDiff,dT,dF,fldP,za,zd] | with_reducible intro _ | ((with_reducible apply And.intro);omega));(repeat' with_reducible apply And.intro)<;>(repeat first | simp (disch:=try exact dis1) only [evD,Nat.reduceBEq,Nat.reduceAdd,Nat.reduceLeDiff,dT,dF,fldP,za,zd] | with_reducible intro _ | ((with_reducible apply And.intro);omega));all_goals (exact ⟨_, .bool _ _,congrArg AV.bool (by unfold zr;exact lb)⟩))
 by_cases q3:cs.length=0
 case neg =>
  ((repeat first | simp (disch:=try exact dis1) only [evD,Nat.reduceBEq,Nat.reduceAdd,Nat.reduceLeDiff,dT,dF,fldP,za,zd] | with_reducible intro _ | ((with_reducible apply And.intro);omega));(repeat' with_reducible apply And.intro)<;>(repeat first | simp (disch:=try exact dis1) only [evD,Nat.reduceBEq,Nat.reduceAdd,Nat.reduceLeDiff,dT,dF,fldP,za,zd] | with_reducible intro _ | ((with_reducible apply And.intro);omega));all_goals (exact ⟨_, .bool _ _,congrArg AV.bool (by unfold zr;exact lb)⟩))
 ((repeat first | simp (disch:=try exact dis1) only [evD,Nat.reduceBEq,Nat.reduceAdd,Nat.reduceLeDiff,dT,dF,fldP,za,zd] | with_reducible intro _ | ((with_reducible apply And.intro);omega));(repeat' with_reducible apply And.intro)<;>(repeat first | simp (disch:=try exact dis1) only [evD,Nat.reduceBEq,Nat.reduceAdd,Nat.reduceLeDiff,dT,dF,fldP,za,zd] | with_reducible intro _ | ((with_reducible apply And.intro);omega));all_goals (exact ⟨_, .bool _ _,congrArg AV.bool (by unfold zr;exact lb)⟩))
theorem zqR (op var width next els tgt:Int) (e:List Ex) (cs:List Int) (h:op=8):zE Try.prog zaZ [.agg [.int .i64 op, .int .i64 var, .int .i64 width, .int .i64 next, .int .i64 els, .int .u32 tgt,encL 5 encX e,za cs]] (·=.bool (zr op var width next els tgt cs.length)):=by
 refine fn_x zbA rfl ?_
 unfold zbg
 have hB:=hBig
 (repeat first | simp (disch:=try exact dis1) only [evD,Nat.reduceBEq,Nat.reduceAdd,Nat.reduceLeDiff,dT,dF,fldP,za,zd] | with_reducible intro _ | ((with_reducible apply And.intro);omega))
 by_cases g1:1≤cs.length<;>(repeat first | simp (disch:=try exact dis1) only [evD,Nat.reduceBEq,Nat.reduceAdd,Nat.reduceLeDiff,dT,dF,fldP,za,zd] | with_reducible intro _ | ((with_reducible apply And.intro);omega))
 case neg =>
  exact ⟨_, .bool _ _,congrArg AV.bool (by unfold zr;exact lb)⟩
 by_cases g2:cs.length≤64<;>(repeat first | simp (disch:=try exact dis1) only [evD,Nat.reduceBEq,Nat.reduceAdd,Nat.reduceLeDiff,dT,dF,fldP,za,zd] | with_reducible intro _ | ((with_reducible apply And.intro);omega))
 case neg =>
  exact ⟨_, .bool _ _,congrArg AV.bool (by unfold zr;exact lb)⟩
 by_cases q0:var=0<;>(repeat first | simp (disch:=try exact dis1) only [evD,Nat.reduceBEq,Nat.reduceAdd,Nat.reduceLeDiff,dT,dF,fldP,za,zd] | with_reducible intro _ | ((with_reducible apply And.intro);omega))
 case neg =>
  exact ⟨_, .bool _ _,congrArg AV.bool (by unfold zr;exact lb)⟩
 by_cases q1:width=0<;>(repeat first | simp (disch:=try exact dis1) only [evD,Nat.reduceBEq,Nat.reduceAdd,Nat.reduceLeDiff,dT,dF,fldP,za,zd] | with_reducible intro _ | ((with_reducible apply And.intro);omega))
 case neg =>
  exact ⟨_, .bool _ _,congrArg AV.bool (by unfold zr;exact lb)⟩
 by_cases q2:tgt=0<;>(repeat first | simp (disch:=try exact dis1) only [evD,Nat.reduceBEq,Nat.reduceAdd,Nat.reduceLeDiff,dT,dF,fldP,za,zd] | with_reducible intro _ | ((with_reducible apply And.intro);omega))
 case neg =>
  exact ⟨_, .bool _ _,congrArg AV.bool (by unfold zr;exact lb)⟩
 by_cases q3:next=0<;>(repeat first | simp (disch:=try exact dis1) only [evD,Nat.reduceBEq,Nat.reduceAdd,Nat.reduceLeDiff,dT,dF,fldP,za,zd] | with_reducible intro _ | ((with_reducible apply And.intro);omega))
 case neg =>
  exact ⟨_, .bool _ _,congrArg AV.bool (by unfold zr;exact lb)⟩
 by_cases q4:els=0<;>(repeat first | simp (disch:=try exact dis1) only [evD,Nat.reduceBEq,Nat.reduceAdd,Nat.reduceLeDiff,dT,dF,fldP,za,zd] | with_reducible intro _ | ((with_reducible apply And.intro);omega))
 case neg =>
  exact ⟨_, .bool _ _,congrArg AV.bool (by unfold zr;exact lb)⟩
 exact ⟨_, .bool _ _,congrArg AV.bool (by unfold zr;exact lb)⟩
theorem zrQ (op var width next els tgt:Int) (e:List Ex) (cs:List Int) (h:op=9):zE Try.prog zaZ [.agg [.int .i64 op, .int .i64 var, .int .i64 width, .int .i64 next, .int .i64 els, .int .u32 tgt,encL 5 encX e,za cs]] (·=.bool (zr op var width next els tgt cs.length)):=by
 refine fn_x zbA rfl ?_
 unfold zbg
 have hB:=hBig
 (repeat first | simp (disch:=try exact dis1) only [evD,Nat.reduceBEq,Nat.reduceAdd,Nat.reduceLeDiff,dT,dF,fldP,za,zd] | with_reducible intro _ | ((with_reducible apply And.intro);omega))
 by_cases q0:var=0<;>(repeat first | simp (disch:=try exact dis1) only [evD,Nat.reduceBEq,Nat.reduceAdd,Nat.reduceLeDiff,dT,dF,fldP,za,zd] | with_reducible intro _ | ((with_reducible apply And.intro);omega))
 case neg =>
  exact ⟨_, .bool _ _,congrArg AV.bool (by unfold zr;exact lb)⟩
 by_cases q1:width=0<;>(repeat first | simp (disch:=try exact dis1) only [evD,Nat.reduceBEq,Nat.reduceAdd,Nat.reduceLeDiff,dT,dF,fldP,za,zd] | with_reducible intro _ | ((with_reducible apply And.intro);omega))
 case neg =>
  exact ⟨_, .bool _ _,congrArg AV.bool (by unfold zr;exact lb)⟩
 by_cases q2:tgt=0<;>(repeat first | simp (disch:=try exact dis1) only [evD,Nat.reduceBEq,Nat.reduceAdd,Nat.reduceLeDiff,dT,dF,fldP,za,zd] | with_reducible intro _ | ((with_reducible apply And.intro);omega))
 case neg =>
  exact ⟨_, .bool _ _,congrArg AV.bool (by unfold zr;exact lb)⟩
 by_cases q3:next=0<;>(repeat first | simp (disch:=try exact dis1) only [evD,Nat.reduceBEq,Nat.reduceAdd,Nat.reduceLeDiff,dT,dF,fldP,za,zd] | with_reducible intro _ | ((with_reducible apply And.intro);omega))
 case neg =>
  exact ⟨_, .bool _ _,congrArg AV.bool (by unfold zr;exact lb)⟩
 by_cases q4:els=0<;>(repeat first | simp (disch:=try exact dis1) only [evD,Nat.reduceBEq,Nat.reduceAdd,Nat.reduceLeDiff,dT,dF,fldP,za,zd] | with_reducible intro _ | ((with_reducible apply And.intro);omega))
 case neg =>
  exact ⟨_, .bool _ _,congrArg AV.bool (by unfold zr;exact lb)⟩
 exact ⟨_, .bool _ _,congrArg AV.bool (by unfold zr;exact lb)⟩
theorem zp4 (op var width next els tgt:Int) (e:List Ex) (cs:List Int) (h:op=10):zE Try.prog zaZ [.agg [.int .i64 op, .int .i64 var, .int .i64 width, .int .i64 next, .int .i64 els, .int .u32 tgt,encL 5 encX e,za cs]] (·=.bool (zr op var width next els tgt cs.length)):=by
 refine fn_x zbA rfl ?_
 unfold zbg
 have hB:=hBig
 (repeat first | simp (disch:=try exact dis1) only [evD,Nat.reduceBEq,Nat.reduceAdd,Nat.reduceLeDiff,dT,dF,fldP,za,zd] | with_reducible intro _ | ((with_reducible apply And.intro);omega))
 by_cases q0:var=0<;>(repeat first | simp (disch:=try exact dis1) only [evD,Nat.reduceBEq,Nat.reduceAdd,Nat.reduceLeDiff,dT,dF,fldP,za,zd] | with_reducible intro _ | ((with_reducible apply And.intro);omega))
 case neg =>
  exact ⟨_, .bool _ _,congrArg AV.bool (by unfold zr;exact lb)⟩
 by_cases q1:width=0<;>(repeat first | simp (disch:=try exact dis1) only [evD,Nat.reduceBEq,Nat.reduceAdd,Nat.reduceLeDiff,dT,dF,fldP,za,zd] | with_reducible intro _ | ((with_reducible apply And.intro);omega))
 case neg =>
  exact ⟨_, .bool _ _,congrArg AV.bool (by unfold zr;exact lb)⟩
 by_cases q2:tgt=0<;>(repeat first | simp (disch:=try exact dis1) only [evD,Nat.reduceBEq,Nat.reduceAdd,Nat.reduceLeDiff,dT,dF,fldP,za,zd] | with_reducible intro _ | ((with_reducible apply And.intro);omega))
 case neg =>
  exact ⟨_, .bool _ _,congrArg AV.bool (by unfold zr;exact lb)⟩
 by_cases q3:next=0<;>(repeat first | simp (disch:=try exact dis1) only [evD,Nat.reduceBEq,Nat.reduceAdd,Nat.reduceLeDiff,dT,dF,fldP,za,zd] | with_reducible intro _ | ((with_reducible apply And.intro);omega))
 case neg =>
  exact ⟨_, .bool _ _,congrArg AV.bool (by unfold zr;exact lb)⟩
 by_cases q4:els=0<;>(repeat first | simp (disch:=try exact dis1) only [evD,Nat.reduceBEq,Nat.reduceAdd,Nat.reduceLeDiff,dT,dF,fldP,za,zd] | with_reducible intro _ | ((with_reducible apply And.intro);omega))
 case neg =>
  exact ⟨_, .bool _ _,congrArg AV.bool (by unfold zr;exact lb)⟩
 exact ⟨_, .bool _ _,congrArg AV.bool (by unfold zr;exact lb)⟩
theorem zqg (op var width next els tgt:Int) (e:List Ex) (cs:List Int) (h1:1≤op) (h2:op≤10):zE Try.prog zaZ [.agg [.int .i64 op, .int .i64 var, .int .i64 width, .int .i64 next, .int .i64 els, .int .u32 tgt,encL 5 encX e,za cs]] (·=.bool (zr op var width next els tgt cs.length)):=by
 by_cases h10:op=1
 · exact zql op var width next els tgt e cs h10
 by_cases h20:op=2
 · exact zqH op var width next els tgt e cs h20
 by_cases h30:op=3
 · exact zq5 op var width next els tgt e cs h30
 by_cases h40:op=4
 · exact zrf op var width next els tgt e cs h40
 by_cases h50:op=5
 · exact zrz op var width next els tgt e cs h50
 by_cases h60:op=6
 · exact zqp op var width next els tgt e cs h60
 by_cases h70:op=7
 · exact zqz op var width next els tgt e cs h70
 by_cases h80:op=8
 · exact zqR op var width next els tgt e cs h80
 by_cases h90:op=9
 · exact zrQ op var width next els tgt e cs h90
 by_cases h100:op=10
 · exact zp4 op var width next els tgt e cs h100
 omega
def zj4:List Ex→Int
 | []=>0
 | x::l=>if zmR x≠0 then zmR x else zj4 l
theorem zqF {l:List Ex} {i:Nat} (h:i < l.length):zj4 (l.drop i)=if zmR l[i]≠0 then zmR l[i] else zj4 (l.drop (i+1)):=by
 rw [List.drop_eq_getElem_cons h,zj4]
def zug (op var width next els tgt:Int) (e:List Ex) (cs:List Int):Int :=
 if (op < 1∨10 < op)∨zaX op≠e.length then 2 else if zj4 e≠0 then zj4 e else if zr op var width next els tgt cs.length=true then 0 else 2
theorem zqQ {op:Int}:zaX op < 0↔(op < 1∨10 < op):=by
 unfold zaX
 constructor
 ·
  intro h
  repeat' split at h
  all_goals omega
 ·
  intro h
  rw [if_neg (by omega),if_neg (by omega),if_neg (by omega)]
  omega
theorem zl7 (op var width next els tgt:Int) (e:List Ex) (cs:List Int):zE Try.prog zeX [.agg [.int .i64 op, .int .i64 var, .int .i64 width, .int .i64 next, .int .i64 els, .int .u32 tgt,encL 5 encX e,za cs]] (·=.int .i64 (zug op var width next els tgt e cs)):=by
 refine fn_x zmY rfl ?_
 unfold zic zug
 have hB:=hBig
 (repeat first | simp (disch:=try exact dis1) only [evD,Nat.reduceBEq,Nat.reduceAdd,Nat.reduceLeDiff,dT,dF,fldP,za,zaL] | with_reducible intro _ | ((with_reducible apply And.intro);omega))
 refine zp (zm (zky op) rfl) ?_
 have hneg:=zqQ (op:=op)
 generalize zaX op=n at hneg ⊢
 by_cases h1:n < 0
 ·
  rw [if_pos (.inl (hneg.1 h1))]
  (repeat first | simp (disch:=try exact dis1) only [evD,Nat.reduceBEq,Nat.reduceAdd,Nat.reduceLeDiff,dT,dF,fldP,za,zaL] | with_reducible intro _ | ((with_reducible apply And.intro);omega))
  exact ⟨_, .int _ _ _,rfl⟩
 have hop:¬ (op < 1∨10 < op):=fun h=>h1 (hneg.2 h)
 (repeat first | simp (disch:=try exact dis1) only [evD,Nat.reduceBEq,Nat.reduceAdd,Nat.reduceLeDiff,dT,dF,fldP,za,zaL] | with_reducible intro _ | ((with_reducible apply And.intro);omega))
 by_cases h3:n=e.length
 case neg =>
  rw [if_pos (.inr h3)]
  (repeat first | simp (disch:=try exact dis1) only [evD,Nat.reduceBEq,Nat.reduceAdd,Nat.reduceLeDiff,dT,dF,fldP,za,zaL] | with_reducible intro _ | ((with_reducible apply And.intro);omega))
  exact ⟨_, .int _ _ _,rfl⟩
 rw [if_neg (by omega)]
 (repeat first | simp (disch:=try exact dis1) only [evD,Nat.reduceBEq,Nat.reduceAdd,Nat.reduceLeDiff,dT,dF,fldP,za,zaL] | with_reducible intro _ | ((with_reducible apply And.intro);omega))
 refine zf (fun i:Nat=>([(1,encP 8 [.int .i64 op, .int .i64 var, .int .i64 width, .int .i64 next, .int .i64 els, .int .u32 tgt,encL 5 encX e,za cs]),(20,encL 5 encX e),(21, .int .i64 e.length),(22, .int .i64 i)],[])) 0 (fun i=>i≤e.length∧zj4 (e.drop i)=zj4 e) (fun i=>e.length - i) 0 ⟨Nat.zero_le _,rfl⟩ (Ent.keep rfl fin5) ?_
 rintro i ⟨hi,hgo⟩ wf
 unfold zgy
 by_cases hl:i < e.length
 ·
  rw [zqF hl] at hgo
  (repeat first | simp (disch:=try exact dis1) only [evD,Nat.reduceBEq,Nat.reduceAdd,Nat.reduceLeDiff,fldP,dT,zz hl,zdt,zcx] | with_reducible intro _ | ((with_reducible apply And.intro);omega))
  refine zp (zm (zlM e[i]) (flX rfl)) ?_
  by_cases hx:zmR e[i]=0
  ·
   rw [if_neg (by omega)] at hgo
   (repeat first | simp (disch:=try exact dis1) only [evD,Nat.reduceBEq,Nat.reduceAdd,Nat.reduceLeDiff,dF] | with_reducible intro _ | ((with_reducible apply And.intro);omega))
   exact ⟨i+1,⟨by omega,hgo⟩,by omega,(Ent.tab [] [] rfl (by (try simp only [evWB,Nat.reduceBEq,Nat.reduceAdd,Nat.reduceSub,Nat.reduceLeDiff,Nat.reduceLT,implies_true])<;>exact fin2) (by (try simp only [evWB,Nat.reduceBEq,Nat.reduceAdd,Nat.reduceSub,Nat.reduceLeDiff,Nat.reduceLT,implies_true])<;>exact fin2))⟩
  ·
   rw [if_pos hx] at hgo
   rw [← hgo,if_pos hx]
   (repeat first | simp (disch:=try exact dis1) only [evD,Nat.reduceBEq,Nat.reduceAdd,Nat.reduceLeDiff,dT,zaL] | with_reducible intro _ | ((with_reducible apply And.intro);omega))
   exact ⟨_, .int _ _ _,rfl⟩
 rw [List.drop_of_length_le (by omega),zj4] at hgo
 rw [← hgo,if_neg (by omega)]
 (repeat first | simp (disch:=try exact dis1) only [evD,Nat.reduceBEq,Nat.reduceAdd,Nat.reduceLeDiff,fldP,dF] | with_reducible intro _ | ((with_reducible apply And.intro);omega))
 unfold zgq
 (repeat first | simp (disch:=try exact dis1) only [evD,Nat.reduceBEq,Nat.reduceAdd,Nat.reduceLeDiff,fldP,ziY,tab,List.getD_cons_zero,List.getD_cons_succ,za] | with_reducible intro _ | ((with_reducible apply And.intro);omega))
 refine zp (zm (zqg op var width next els tgt e cs (by omega) (by omega)) rfl) ?_
 cases zr op var width next els tgt cs.length with
 |
  false =>
  (repeat first | simp (disch:=try exact dis1) only [evD,Nat.reduceBEq,Nat.reduceAdd,Nat.reduceLeDiff,dT,dF,fldP,za,zaL] | with_reducible intro _ | ((with_reducible apply And.intro);omega))
  exact ⟨_, .int _ _ _,rfl⟩
 |
  true =>
  (repeat first | simp (disch:=try exact dis1) only [evD,Nat.reduceBEq,Nat.reduceAdd,Nat.reduceLeDiff,dT,dF,fldP,za,zaL] | with_reducible intro _ | ((with_reducible apply And.intro);omega))
  exact ⟨_, .int _ _ _,rfl⟩
structure St where
 op:Int
 var:Int
 width:Int
 next:Int
 els:Int
 tgt:Int
 e:List Ex
 cases:List Int
def St.cells (s:St):List AV:=[.int .i64 s.op, .int .i64 s.var, .int .i64 s.width, .int .i64 s.next, .int .i64 s.els, .int .u32 s.tgt,encL 5 encX s.e,za s.cases]
structure Bl where
 addr:Int
 stmts:List St
def Bl.cells (b:Bl):List AV:=[.int .u32 b.addr,encL 8 St.cells b.stmts]
structure G where
 addr:Int
 blocks:List Bl
def G.cells (g:G):List AV:=[.int .u32 g.addr,encL 2 Bl.cells g.blocks]
theorem St.len (s:St):s.cells.length=8:=rfl
theorem St.flat (s:St):zF s.cells=true:=rfl
theorem St.eight (s:St):[s.cells.getD 0 .undef,s.cells.getD 1 .undef,s.cells.getD 2 .undef,s.cells.getD 3 .undef,s.cells.getD 4 .undef,s.cells.getD 5 .undef,s.cells.getD 6 .undef,s.cells.getD 7 .undef]=s.cells:=rfl
def zna (s:St):Bool:=decide (6≤s.op∧s.op≤10)
def zj9 (s:St):List Int:=if s.op=6 then [s.next] else if s.op=7 then [s.next,s.els] else if s.op=8 then s.cases else []
def St.check (s:St):Int:=zug s.op s.var s.width s.next s.els s.tgt s.e s.cases
theorem zl2 (s:St):zE Try.prog zeX [.agg s.cells] (·=.int .i64 s.check):=zl7 _ _ _ _ _ _ _ _
theorem zhO (s:St):zE Try.prog zdb [.agg s.cells] (·=.bool (zna s)):=by
 refine fn_x zlo rfl ?_
 unfold zhH
 have hB:=hBig
 obtain ⟨op,var,width,next,els,tgt,e,cs⟩:=s
 unfold zna
 by_cases h1:6≤op
 ·
  (repeat first | simp (disch:=try exact dis1) only [evD,Nat.reduceBEq,Nat.reduceAdd,Nat.reduceLeDiff,dT,fldP,za,St.cells,zfg] | with_reducible intro _ | ((with_reducible apply And.intro);omega))
  exact ⟨_, .bool _ _,congrArg AV.bool (decide_eq_decide.2 (by omega))⟩
 ·
  (repeat first | simp (disch:=try exact dis1) only [evD,Nat.reduceBEq,Nat.reduceAdd,Nat.reduceLeDiff,dF,fldP,za,St.cells,zfg] | with_reducible intro _ | ((with_reducible apply And.intro);omega))
  exact ⟨_, .bool _ _,rfl⟩
end Go.Ab
namespace Go.Ab
open Go.RowKit Go.Proofs Go.Proofs.Ytdhlfajcofgpkaa
section
variable {HH:Type} {enc:TypeId × Value→HH} {w:World} {base:Nat} {spare:Nat→Bool} {held:Bool} {L:Nat→Prop} (hL:∀ b,¬ L b)
include hL
theorem zxa {fuel:Nat} {cs:List Value} {y:DataW HH × List MemPlace} (h:DataW.trod enc Try.prog w base spare held fuel 44 cs=some y):∃ s:St,ElOk w L cs s.cells:=by
 have hcx:Try.prog.cellsOf 47=5:=by kernel_rfl
 obtain ⟨xs,n,rfl,rfl,hlen,hxs,hf⟩:=DataW.trod_struct Try.underlying44 h
 have hc:Try.prog.cellsOf 44=8:=by kernel_rfl
 have hc3:Try.prog.cellsOf 3=1:=by kernel_rfl
 have hc22:Try.prog.cellsOf 22=1:=by kernel_rfl
 have hc32:Try.prog.cellsOf 32=1:=by kernel_rfl
 have hc42:Try.prog.cellsOf 42=1:=by kernel_rfl
 rw [hc] at hlen
 have hget:∀ i,i < 8→xs[i]? = some (xs.getD i (.nil,[])):=fun i hi=>by
  rw [List.getD_eq_getElem?_getD,List.getElem?_eq_getElem (by rw [hxs];exact hi)]
  rfl
 match cs,hlen with
 |
  [c0,c1,c2,c3,c4,c5,c6,c7],_ =>
  have f0:DataW.trod enc Try.prog w base spare held n 3 (([c0,c1,c2,c3,c4,c5,c6,c7].drop 0).take (Try.prog.cellsOf 3))=some (xs.getD 0 (.nil,[])):=(hf 0 _ rfl).trans (hget 0 (by decide))
  rw [hc3] at f0
  replace f0:DataW.trod enc Try.prog w base spare held n 3 [c0]=some (xs.getD 0 (.nil,[])):=f0
  have f1:DataW.trod enc Try.prog w base spare held n 3 (([c0,c1,c2,c3,c4,c5,c6,c7].drop 1).take (Try.prog.cellsOf 3))=some (xs.getD 1 (.nil,[])):=(hf 1 _ rfl).trans (hget 1 (by decide))
  rw [hc3] at f1
  replace f1:DataW.trod enc Try.prog w base spare held n 3 [c1]=some (xs.getD 1 (.nil,[])):=f1
  have f2:DataW.trod enc Try.prog w base spare held n 3 (([c0,c1,c2,c3,c4,c5,c6,c7].drop 2).take (Try.prog.cellsOf 3))=some (xs.getD 2 (.nil,[])):=(hf 2 _ rfl).trans (hget 2 (by decide))
  rw [hc3] at f2
  replace f2:DataW.trod enc Try.prog w base spare held n 3 [c2]=some (xs.getD 2 (.nil,[])):=f2
  have f3:DataW.trod enc Try.prog w base spare held n 3 (([c0,c1,c2,c3,c4,c5,c6,c7].drop 3).take (Try.prog.cellsOf 3))=some (xs.getD 3 (.nil,[])):=(hf 3 _ rfl).trans (hget 3 (by decide))
  rw [hc3] at f3
  replace f3:DataW.trod enc Try.prog w base spare held n 3 [c3]=some (xs.getD 3 (.nil,[])):=f3
  have f4:DataW.trod enc Try.prog w base spare held n 3 (([c0,c1,c2,c3,c4,c5,c6,c7].drop 4).take (Try.prog.cellsOf 3))=some (xs.getD 4 (.nil,[])):=(hf 4 _ rfl).trans (hget 4 (by decide))
  rw [hc3] at f4
  replace f4:DataW.trod enc Try.prog w base spare held n 3 [c4]=some (xs.getD 4 (.nil,[])):=f4
  have f5:DataW.trod enc Try.prog w base spare held n 22 (([c0,c1,c2,c3,c4,c5,c6,c7].drop 5).take (Try.prog.cellsOf 22))=some (xs.getD 5 (.nil,[])):=(hf 5 _ rfl).trans (hget 5 (by decide))
  rw [hc22] at f5
  replace f5:DataW.trod enc Try.prog w base spare held n 22 [c5]=some (xs.getD 5 (.nil,[])):=f5
  have f6:DataW.trod enc Try.prog w base spare held n 42 (([c0,c1,c2,c3,c4,c5,c6,c7].drop 6).take (Try.prog.cellsOf 42))=some (xs.getD 6 (.nil,[])):=(hf 6 _ rfl).trans (hget 6 (by decide))
  rw [hc42] at f6
  replace f6:DataW.trod enc Try.prog w base spare held n 42 [c6]=some (xs.getD 6 (.nil,[])):=f6
  have f7:DataW.trod enc Try.prog w base spare held n 32 (([c0,c1,c2,c3,c4,c5,c6,c7].drop 7).take (Try.prog.cellsOf 32))=some (xs.getD 7 (.nil,[])):=(hf 7 _ rfl).trans (hget 7 (by decide))
  rw [hc32] at f7
  replace f7:DataW.trod enc Try.prog w base spare held n 32 [c7]=some (xs.getD 7 (.nil,[])):=f7
  obtain ⟨n0,h0,w0⟩:=zgZ Try.underlying3 f0
  obtain ⟨n1,h1,w1⟩:=zgZ Try.underlying3 f1
  obtain ⟨n2,h2,w2⟩:=zgZ Try.underlying3 f2
  obtain ⟨n3,h3,w3⟩:=zgZ Try.underlying3 f3
  obtain ⟨n4,h4,w4⟩:=zgZ Try.underlying3 f4
  obtain ⟨n5,h5,w5⟩:=zgZ Try.underlying22 f5
  obtain ⟨l6,v6,h6,o6,w6⟩:=zqf (L:=L) (α:=Ex) (cells:=encX) hL Try.underlying42 hcx (fun fuel' hf' cs y h _=>zy6 hL fuel' fuel' (Nat.le_refl _) cs y h) f6
  obtain ⟨l7,v7,h7,o7,w7⟩:=zzK Try.underlying32 Try.underlying3 hc3 hL f7
  cases h0;cases h1;cases h2;cases h3;cases h4;cases h5;cases h6;cases h7
  refine ⟨⟨n0,n1,n2,n3,n4,n5,l6,l7⟩,fun j hj=>?_⟩
  match j with
  | 0=>exact ⟨.int _ _ _ w0,rfl⟩
  | 1=>exact ⟨.int _ _ _ w1,rfl⟩
  | 2=>exact ⟨.int _ _ _ w2,rfl⟩
  | 3=>exact ⟨.int _ _ _ w3,rfl⟩
  | 4=>exact ⟨.int _ _ _ w4,rfl⟩
  | 5=>exact ⟨.int _ _ _ w5,rfl⟩
  | 6=>exact ⟨w6 _,o6⟩
  | 7=>exact ⟨w7 _,o7⟩
  | j+8=>exact absurd hj (by simp)
theorem zxd {fuel:Nat} {cs:List Value} {y:DataW HH × List MemPlace} (h:DataW.trod enc Try.prog w base spare held fuel 41 cs=some y):∃ b:Bl,ElOk w L cs b.cells:=by
 have hcs:Try.prog.cellsOf 44=8:=by kernel_rfl
 obtain ⟨xs,n,rfl,rfl,hlen,hxs,hf⟩:=DataW.trod_struct Try.underlying41 h
 have hc:Try.prog.cellsOf 41=2:=by kernel_rfl
 have hc22:Try.prog.cellsOf 22=1:=by kernel_rfl
 have hc39:Try.prog.cellsOf 39=1:=by kernel_rfl
 rw [hc] at hlen
 have hget:∀ i,i < 2→xs[i]? = some (xs.getD i (.nil,[])):=fun i hi=>by
  rw [List.getD_eq_getElem?_getD,List.getElem?_eq_getElem (by rw [hxs];exact hi)]
  rfl
 match cs,hlen with
 |
  [c0,c1],_ =>
  have f0:DataW.trod enc Try.prog w base spare held n 22 (([c0,c1].drop 0).take (Try.prog.cellsOf 22))=some (xs.getD 0 (.nil,[])):=(hf 0 _ rfl).trans (hget 0 (by decide))
  rw [hc22] at f0
  replace f0:DataW.trod enc Try.prog w base spare held n 22 [c0]=some (xs.getD 0 (.nil,[])):=f0
  have f1:DataW.trod enc Try.prog w base spare held n 39 (([c0,c1].drop 1).take (Try.prog.cellsOf 39))=some (xs.getD 1 (.nil,[])):=(hf 1 _ rfl).trans (hget 1 (by decide))
  rw [hc39] at f1
  replace f1:DataW.trod enc Try.prog w base spare held n 39 [c1]=some (xs.getD 1 (.nil,[])):=f1
  obtain ⟨n0,h0,w0⟩:=zgZ Try.underlying22 f0
  obtain ⟨l1,v1,h1,o1,w1⟩:=zov (α:=St) (cells:=St.cells) (L:=L) Try.underlying39 hcs hL (fun _ _ _ h _=>zxa hL h) f1
  cases h0;cases h1
  refine ⟨⟨n0,l1⟩,fun j hj=>?_⟩
  match j with
  | 0=>exact ⟨.int _ _ _ w0,rfl⟩
  | 1=>exact ⟨w1 _,o1⟩
  | j+2=>exact absurd hj (by simp)
theorem zxv {fuel:Nat} {cs:List Value} {y:DataW HH × List MemPlace} (h:DataW.trod enc Try.prog w base spare held fuel 25 cs=some y):∃ g:G,cs.length=2∧ElOk w L cs g.cells∧∀ j,j < 2→∀ ι,VR w L ι (cs.getD j undef) (g.cells.getD j .undef):=by
 have hcb:Try.prog.cellsOf 41=2:=by kernel_rfl
 obtain ⟨xs,n,rfl,rfl,hlen,hxs,hf⟩:=DataW.trod_struct Try.underlying25 h
 have hc:Try.prog.cellsOf 25=2:=by kernel_rfl
 have hc22:Try.prog.cellsOf 22=1:=by kernel_rfl
 have hc23:Try.prog.cellsOf 23=1:=by kernel_rfl
 rw [hc] at hlen
 have hget:∀ i,i < 2→xs[i]? = some (xs.getD i (.nil,[])):=fun i hi=>by
  rw [List.getD_eq_getElem?_getD,List.getElem?_eq_getElem (by rw [hxs];exact hi)]
  rfl
 match cs,hlen with
 |
  [c0,c1],_ =>
  have f0:DataW.trod enc Try.prog w base spare held n 22 (([c0,c1].drop 0).take (Try.prog.cellsOf 22))=some (xs.getD 0 (.nil,[])):=(hf 0 _ rfl).trans (hget 0 (by decide))
  rw [hc22] at f0
  replace f0:DataW.trod enc Try.prog w base spare held n 22 [c0]=some (xs.getD 0 (.nil,[])):=f0
  have f1:DataW.trod enc Try.prog w base spare held n 23 (([c0,c1].drop 1).take (Try.prog.cellsOf 23))=some (xs.getD 1 (.nil,[])):=(hf 1 _ rfl).trans (hget 1 (by decide))
  rw [hc23] at f1
  replace f1:DataW.trod enc Try.prog w base spare held n 23 [c1]=some (xs.getD 1 (.nil,[])):=f1
  obtain ⟨n0,h0,w0⟩:=zgZ Try.underlying22 f0
  obtain ⟨l1,v1,h1,o1,w1⟩:=zov (α:=Bl) (cells:=Bl.cells) (L:=L) Try.underlying23 hcb hL (fun _ _ _ h _=>zxd hL h) f1
  cases h0;cases h1
  refine ⟨⟨n0,l1⟩,rfl,fun j hj=>?_,fun j hj ι=>?_⟩
  ·
   match j with
   | 0=>exact ⟨.int _ _ _ w0,rfl⟩
   | 1=>exact ⟨w1 _,o1⟩
   | j+2=>exact absurd hj (by simp)
  ·
   match j with
   | 0=>exact .int _ _ _ w0
   | 1=>exact w1 _
   | j+2=>omega
theorem open_graph {v:Value} {d:DataW HH} {ps:List MemPlace} (hv:Value.okWide Try.prog w .any base 25 v) {b2:Nat} (h:DataW.Trod enc Try.prog w b2 spare held 25 v d ps):∃ g:G,True∧∀ ι,VR w L ι v (.agg g.cells):=by
 obtain ⟨fuel,hf⟩:=h
 unfold Value.okWide at hv
 rw [Try.underlying25] at hv
 simp only at hv
 obtain ⟨cs,rfl,_,_⟩:=hv
 have hf':DataW.trod enc Try.prog w b2 spare held fuel 25 cs.toList=some (d,ps):=hf
 obtain ⟨g,h1,h2,h3⟩:=zxv hL hf'
 refine ⟨g,trivial,fun ι=>.agg ι cs _ (by
  have:cs.size=2:=by simpa using h1
  rw [this];rfl) (fun i v hi=>?_) (fun i v a hi ha=>?_)⟩
 ·
  have hi2:i < cs.size:=by
   rcases Nat.lt_or_ge i cs.size with h | h
   · exact h
   · rw [Array.getElem?_eq_none h] at hi;cases hi
  have:=(h2 i (by simpa using hi2)).2
  rw [List.getD_eq_getElem?_getD,Array.getElem?_toList,hi] at this
  exact this
 ·
  have hi2:i < cs.size:=by
   rcases Nat.lt_or_ge i cs.size with h | h
   · exact h
   · rw [Array.getElem?_eq_none h] at hi;cases hi
  have hi3:i < 2:=by rw [← h1];simpa using hi2
  have:=h3 i hi3 ι
  rw [List.getD_eq_getElem?_getD,Array.getElem?_toList,hi,List.getD_eq_getElem?_getD,ha] at this
  exact this
end
end Go.Ab
namespace Go.Ab
open Go.RowKit Go.Proofs Go.Maps Go.Sort Go.Shelf
end Go.Ab
