/-
  Part 6 of the proof: how the calls of this program run, over values instead of memory, and what each function computes.
-/
import Derived.Test.YtdhlfajcofgpkaaGreatRows
import Derived.WalkKit
import Derived.OpenShut
import Derived.ShutString
import Derived.ChangeOld
import Derived.Below
import Derived.Test.YtdhlfajcofgpkaaGreatProg
import Derived.KernelRfl
import Derived.Test.YtdhlfajcofgpkaaGreatKe
set_option maxRecDepth 100000
set_option linter.unusedVariables false
set_option linter.unusedSimpArgs false
set_option linter.unnecessarySimpa false
set_option linter.unusedSectionVars false
namespace Go.Ab
open Go.RowKit
inductive Ex where
 | mk (op n var width:Int) (l:List Ex)
structure NdF where
 kind:Int
 block:Int
 label:Int
inductive Nd where
 | mk (f:NdF) (cond:List Ex) (l:List Nd)
def Ex.l:Ex→List Ex
 | .mk _ _ _ _ l=>l
mutual
def encX:Ex→List AV
 | .mk op n v w l=>[.int .i64 op, .int .u32 n, .int .i64 v, .int .i64 w, .sl 5 l.length (fun i j=>((zxf l).getD i []).getD j .undef)]
def zxf:List Ex→List (List AV)
 | []=>[]
 | e::l=>encX e::zxf l
end
theorem zsb:∀ l:List Ex,zxf l=l.map encX
 | []=>by rw [zxf];rfl
 | e::l=>by rw [zxf,zsb l];rfl
theorem zbu (op n v w:Int) (l:List Ex):encX (.mk op n v w l)=[.int .i64 op, .int .u32 n, .int .i64 v, .int .i64 w,encL 5 encX l]:=by
 rw [encX,zsb]
 rfl
mutual
def encN:Nd→List AV
 | .mk f c l=>[.int .i64 f.kind, .int .i64 f.block, .int .i64 f.label,encL 5 encX c, .sl 5 l.length (fun i j=>((zxs l).getD i []).getD j .undef)]
def zxs:List Nd→List (List AV)
 | []=>[]
 | e::l=>encN e::zxs l
end
theorem zqD:∀ l:List Nd,zxs l=l.map encN
 | []=>by rw [zxs];rfl
 | e::l=>by rw [zxs,zqD l];rfl
theorem zwP (f:NdF) (c:List Ex) (l:List Nd):encN (.mk f c l)=[.int .i64 f.kind, .int .i64 f.block, .int .i64 f.label,encL 5 encX c,encL 5 encN l]:=by
 rw [encN,zqD]
 rfl
mutual
def zf3:Ex→Int→Int→Int
 | .mk _ _ _ _ l,most,left=>if most < 1∨left < 1∨4 < l.length then -1 else zbe l (most - 1) (left - 1)
def zbe:List Ex→Int→Int→Int
 | [],_,n=>n
 | e::l,most,n=>if n < 0 then n else zbe l most (zf3 e most n)
end
end Go.Ab
namespace Go.Ab
open Go.RowKit Go.Proofs Go.Proofs.YtdhlfajcofgpkaaGreat
section
variable {HH:Type} {enc:TypeId × Value→HH} {w:World} {base:Nat} {spare:Nat→Bool} {held:Bool} {L:Nat→Prop} (hL:∀ b,¬ L b)
include hL
theorem zr7 {P:Program} {α:Type} {cells:α→List AV} {t e:TypeId} {sz:Nat} {fuel:Nat} (ht:P.underlying t=some (.slice e)) (hs:P.cellsOf e=sz)
  (hel:∀ fuel',fuel' < fuel→∀ cs y,DataW.trod enc P w base spare held fuel' e cs=some y→cs.length=sz→∃ x:α,ElOk w L cs (cells x)) {cs:List Value} {y:DataW HH × List MemPlace}
  (h:DataW.trod enc P w base spare held fuel t cs=some y):∃ (l:List α) (v:Value),cs=[v]∧v.oneCell'=true∧∀ ι,VR w L ι v (encL sz cells l):=by
 rcases DataW.trod_slice ht h with ⟨rfl,rfl⟩ | ⟨a,len,cap,elems,rest,n,rfl,rfl,rfl,hb,hl,hc,he,hi,_,_⟩
 · exact ⟨[],_,rfl,rfl,fun ι=>.sl0 _ _ _⟩
 ·
  rw [hs] at hi
  have key:∀ i:Fin len,∃ p:α × List Value,p.2.length=sz∧(∀ j,j < sz→w.cell? ((a.add (i.1 * sz)).add j)=some (p.2.getD j undef))∧ElOk w L p.2 (cells p.1):=by
   intro i
   have h1:=hi i.1 i.2
   rw [List.getElem?_eq_getElem (by omega),Option.bind_eq_some_iff] at h1
   obtain ⟨cs',h2,h3⟩:=h1
   obtain ⟨h4,h5⟩:=zqH h2
   obtain ⟨x,hx⟩:=hel _ (Nat.lt_succ_self _) _ _ h3 h4
   exact ⟨(x,cs'),h4,h5,hx⟩
  obtain ⟨F,hF⟩:=Classical.axiomOfChoice key
  refine ⟨List.ofFn fun i=>(F i).1,_,rfl,rfl,fun ι=>?_⟩
  have hlen:(List.ofFn fun i=>(F i).1).length=len:=List.length_ofFn
  unfold encL
  rw [hlen]
  refine .sl ι a sz len cap _ (fun i j=>if hi:i < len then (F ⟨i,hi⟩).2.getD j undef else undef) hl (by unfold maxLen at hc;unfold big;omega) (fun i j hi hj=>?_) (fun _=>hL _) (fun i j hi hj=>?_)
  ·
   obtain ⟨h1,h2,h3⟩:=hF ⟨i,hi⟩
   rw [dif_pos hi]
   exact ⟨h2 j hj,(h3 j (by omega)).2⟩
  ·
   obtain ⟨h1,h2,h3⟩:=hF ⟨i,hi⟩
   rw [dif_pos hi]
   have e:((List.ofFn fun i=>(F i).1).map cells).getD i []=cells (F ⟨i,hi⟩).1:=by
    rw [zja (a:=(F ⟨i,hi⟩).1)]
    rw [List.getElem?_eq_getElem (by rw [hlen];exact hi),List.getElem_ofFn]
   rw [e]
   exact (h3 j (by omega)).1
theorem zBT:∀ (k fuel:Nat),fuel≤k→∀ (cs:List Value) (y:DataW HH × List MemPlace),DataW.trod enc Tryz.prog w base spare held fuel 66 cs=some y→∃ e:Ex,ElOk w L cs (encX e):=by
 intro k
 induction k with
 |
  zero =>
  intro fuel hk cs y h
  obtain ⟨xs,n,h0,_⟩:=DataW.trod_struct Tryz.underlying66 h
  omega
 | succ k ih =>
 intro fuel hk cs y h
 obtain ⟨xs,n,rfl,rfl,hlen,hxs,hf⟩:=DataW.trod_struct Tryz.underlying66 h
 have hc:Tryz.prog.cellsOf 66=5:=by kernel_rfl
 have hc3:Tryz.prog.cellsOf 3=1:=by kernel_rfl
 have hc22:Tryz.prog.cellsOf 22=1:=by kernel_rfl
 have hc52:Tryz.prog.cellsOf 52=1:=by kernel_rfl
 rw [hc] at hlen
 have hget:∀ i,i < 5→xs[i]? = some (xs.getD i (.nil,[])):=fun i hi=>by
  rw [List.getD_eq_getElem?_getD,List.getElem?_eq_getElem (by rw [hxs];exact hi)]
  rfl
 match cs,hlen with
 |
  [c0,c1,c2,c3,c4],_ =>
  have f0:DataW.trod enc Tryz.prog w base spare held n 3 (([c0,c1,c2,c3,c4].drop 0).take (Tryz.prog.cellsOf 3))=some (xs.getD 0 (.nil,[])):=(hf 0 _ rfl).trans (hget 0 (by decide))
  rw [hc3] at f0
  replace f0:DataW.trod enc Tryz.prog w base spare held n 3 [c0]=some (xs.getD 0 (.nil,[])):=f0
  have f1:DataW.trod enc Tryz.prog w base spare held n 22 (([c0,c1,c2,c3,c4].drop 1).take (Tryz.prog.cellsOf 22))=some (xs.getD 1 (.nil,[])):=(hf 1 _ rfl).trans (hget 1 (by decide))
  rw [hc22] at f1
  replace f1:DataW.trod enc Tryz.prog w base spare held n 22 [c1]=some (xs.getD 1 (.nil,[])):=f1
  have f2:DataW.trod enc Tryz.prog w base spare held n 3 (([c0,c1,c2,c3,c4].drop 2).take (Tryz.prog.cellsOf 3))=some (xs.getD 2 (.nil,[])):=(hf 2 _ rfl).trans (hget 2 (by decide))
  rw [hc3] at f2
  replace f2:DataW.trod enc Tryz.prog w base spare held n 3 [c2]=some (xs.getD 2 (.nil,[])):=f2
  have f3:DataW.trod enc Tryz.prog w base spare held n 3 (([c0,c1,c2,c3,c4].drop 3).take (Tryz.prog.cellsOf 3))=some (xs.getD 3 (.nil,[])):=(hf 3 _ rfl).trans (hget 3 (by decide))
  rw [hc3] at f3
  replace f3:DataW.trod enc Tryz.prog w base spare held n 3 [c3]=some (xs.getD 3 (.nil,[])):=f3
  have f4:DataW.trod enc Tryz.prog w base spare held n 52 (([c0,c1,c2,c3,c4].drop 4).take (Tryz.prog.cellsOf 52))=some (xs.getD 4 (.nil,[])):=(hf 4 _ rfl).trans (hget 4 (by decide))
  rw [hc52] at f4
  replace f4:DataW.trod enc Tryz.prog w base spare held n 52 [c4]=some (xs.getD 4 (.nil,[])):=f4
  obtain ⟨n0,h0,w0⟩:=zgA Tryz.underlying3 f0
  obtain ⟨n1,h1,w1⟩:=zgA Tryz.underlying22 f1
  obtain ⟨n2,h2,w2⟩:=zgA Tryz.underlying3 f2
  obtain ⟨n3,h3,w3⟩:=zgA Tryz.underlying3 f3
  obtain ⟨l4,v4,h4,o4,w4⟩:=zr7 (L:=L) (α:=Ex) (cells:=encX) hL Tryz.underlying52 hc (fun fuel' hf' cs y h _=>ih fuel' (by omega) cs y h) f4
  cases h0;cases h1;cases h2;cases h3;cases h4
  refine ⟨.mk n0 n1 n2 n3 l4,fun j hj=>?_⟩
  rw [zbu]
  match j with
  | 0=>exact ⟨.int _ _ _ w0,rfl⟩
  | 1=>exact ⟨.int _ _ _ w1,rfl⟩
  | 2=>exact ⟨.int _ _ _ w2,rfl⟩
  | 3=>exact ⟨.int _ _ _ w3,rfl⟩
  | 4=>exact ⟨w4 _,o4⟩
  | j+5=>exact absurd hj (by simp)
end
theorem zzZ {H:AH} {v:AV} {b:Bool} (h:Frz H v (.bool b)):v=.bool b:=by
 unfold Frz at h
 generalize he:AV.bool b=x at h
 cases h<;>first | (cases he;done) | (cases he;rfl)
theorem row_true {P:Program} {f:FuncId} {args:List AV} {vs:Array Value} {w:World} (h:zz P f args (·=.bool true)) (hv:∀ L:Nat→Prop,(∀ b,¬ L b)→VRs w L noI vs.toList args) :
  Calls P f vs w fun e w'=>e=.returned (.bool true)∧Below w.heap.size w w':=by
 have hno:∀ b,¬ Lt (fun _=>False) noI [] b:=fun b hb=>hb.elim (fun h=>h) (zid b)
 refine (h w (fun _=>False) noI vs (.empty (fun b hb=>hb.elim)) (hv _ hno)).mono fun e w' ⟨v,ι',H',nx',a,h1,h2,_,h4,a2,h5,h6⟩=>?_
 subst h1 h6
 have:=zzZ h5
 subst this
 cases h4
 exact ⟨rfl,h2.ext.os,h2.ext.tape,h2.ext.output,h2.ext.size,fun k hk=>h2.ext.block k hk (zid k)⟩
end Go.Ab
namespace Go.Ab
def zdj:Nat:=7
def zjW:Nat:=9
def zb2:Nat:=10
def zce:Nat:=13
def zel:Nat:=14
def zkw:Nat:=17
def zfs:Nat:=18
def zkW:Nat:=19
def znw:Nat:=20
def zd7:Nat:=21
def zdo:Nat:=22
def zlb:Nat:=23
def zds:Nat:=24
def zkY:Nat:=25
def zeu:Nat:=26
def zdO:Nat:=27
def zfO:Nat:=28
def zly:Nat:=29
def zfC:Nat:=30
def zer:Nat:=33
def zxP:Nat:=34
def zx4:Nat:=35
def ztg:Nat:=36
def zyh:Nat:=37
def zwa:Nat:=38
def ztc:Nat:=39
def zml:Nat:=40
def zfB:Nat:=42
def zdK:Nat:=43
def zbp:Nat:=44
def zx:Nat:=45
def zc:Nat:=46
def zct:Nat:=47
def zde:Nat:=48
def zay:Nat:=49
def zgh:Nat:=50
def zdc:Nat:=51
def zO:Nat:=53
def z6:Nat:=54
def znc:Nat:=55
def zi7:Nat:=56
def zeU:Nat:=57
def zr:Nat:=58
def zgj:Nat:=59
def zgX:Nat:=60
def zfc:Nat:=61
def zed:Nat:=62
def zj3:Nat:=63
def zd6:Nat:=64
def zcI:Nat:=65
def zbg:Nat:=66
def zdr:Nat:=67
def zb7:Nat:=68
def zG:Nat:=69
def zbn:Nat:=70
def zdR:Nat:=71
def zk6:Nat:=72
def zjN:Nat:=73
def zfw:Nat:=74
def zaw:Nat:=75
def zhd:Nat:=76
def zfL:Nat:=78
def zi9:Nat:=79
def zfo:Nat:=80
def zbE:Nat:=81
def ze7:Nat:=82
def zi8:Nat:=83
def zec:Nat:=84
def zn3:Nat:=85
def zcj:Nat:=86
def zab:Nat:=87
def za3:Nat:=88
def zeQ:Nat:=89
def zeq:Nat:=90
def zgn:Nat:=91
def zaG:Nat:=92
def zao:Nat:=94
def zfX:Nat:=95
def zd5:Nat:=96
def zg3:Nat:=100
def zhn:Nat:=101
def zcD:Nat:=102
def zk8:Nat:=112
def zaq:Nat:=113
def zbk:Nat:=114
def zf4:Nat:=115
def zav:Nat:=116
def zeW:Nat:=117
def zg6:Nat:=118
def zgm:Nat:=144
def z7:Nat:=145
end Go.Ab
namespace Go.Ab
open Go.RowKit Go.Proofs
def zeG:ACode:=.seq (.seq (.region [ (oN 13 (.mov (.t 4))),(oN 14 (.fldaddr 1 1 (.t 1))),(oN 15 (.load false 1 (.t 14))),(oN 16 (.len (.t 15))),(oN 17 (.bin .lss (.t 13) (.t 16)))] [13,14,15,16]) (.cond (.t 17) (.skip) (.exit 0))) (.seq (.block 1 (.region [ (oN 20 (.mov (.t 3))),(oN 21 (.fldaddr 1 1 (.t 1))),(oN 22 (.load false 1 (.t 21))),(oN 23 (.mov (.t 4))),(oN 24 (.idx 2 (.t 22) (.t 23))),(oN 25 (.fldaddr 1 1 (.t 24))),(oN 26 (.load false 1 (.t 25))),(oN 27 (.len (.t 26))),(oN 28 (.bin .add (.t 20) (.t 27))),(oN 3 (.mov (.t 28)))] [17,20,21,22,23,24,25,26,27,28])) (.region [ (oN 18 (.mov (.t 4))),(oN 19 (.bin .add (.t 18) (.c (.int .i64 1)))),(oN 4 (.mov (.t 19)))] [18,19]))
def zeB:ACode:=.seq (.seq (.region [ (oN 35 (.mov (.t 5))),(oN 36 (.fldaddr 1 1 (.t 1))),(oN 37 (.load false 1 (.t 36))),(oN 38 (.len (.t 37))),(oN 39 (.bin .lss (.t 35) (.t 38)))] [35,36,37,38]) (.cond (.t 39) (.skip) (.exit 2))) (.seq (.block 3 (.seq (.draw ( .step (oN 42 (.fldaddr 1 1 (.t 1))) ( .step (oN 43 (.load false 1 (.t 42))) ( .step (oN 44 (.mov (.t 5))) ( .step (oN 45 (.idx 2 (.t 43) (.t 44))) ( .step (oN 46 (.load true 2 (.t 45))) ( .step (oN 47 (.fldaddr 1 1 (.t 1))) ( .step (oN 48 (.load false 1 (.t 47))) ( .step (oN 49 (.len (.t 48))) ( .step (oN 50 (.callq zgh [(.t 46),(.t 49)])) ( .step (oN 51 (.un .not (.t 50))) ( .done))))))))))) [39,42,43,44,45,46,47,48,49,50]) (.cond (.t 51) (.seq (.region [ (oN 2 (.mov (.c (.int .i64 18))))] [1,5,51]) (.ret)) (.skip)))) (.region [ (oN 40 (.mov (.t 5))),(oN 41 (.bin .add (.t 40) (.c (.int .i64 1)))),(oN 5 (.mov (.t 41)))] [2,40,41,51]))
def zeK:ACode:=.seq (.seq (.region [ (oN 59 (.mov (.t 7))),(oN 60 (.fldaddr 1 1 (.t 1))),(oN 61 (.load false 1 (.t 60))),(oN 62 (.mov (.t 6))),(oN 63 (.idx 2 (.t 61) (.t 62))),(oN 64 (.fldaddr 1 1 (.t 63))),(oN 65 (.load false 1 (.t 64))),(oN 66 (.len (.t 65))),(oN 67 (.bin .lss (.t 59) (.t 66)))] [59,60,61,62,63,64,65,66]) (.cond (.t 67) (.skip) (.exit 6))) (.seq (.block 7 (.seq (.region [ (oN 70 (.fldaddr 1 1 (.t 1))),(oN 71 (.load false 1 (.t 70))),(oN 72 (.mov (.t 6))),(oN 73 (.idx 2 (.t 71) (.t 72))),(oN 74 (.fldaddr 1 1 (.t 73))),(oN 75 (.load false 1 (.t 74))),(oN 76 (.mov (.t 7))),(oN 77 (.idx 8 (.t 75) (.t 76))),(oN 78 (.load true 8 (.t 77))),(oN 79 (.call zdc [(.t 78)])),(oN 8 (.mov (.t 79)))] [67,70,71,72,73,74,75,76,77,78,79]) (.seq (.region [ (oN 80 (.mov (.t 8))),(oN 81 (.bin .neq (.t 80) (.c (.int .i64 0))))] [80]) (.cond (.t 81) (.seq (.region [ (oN 82 (.mov (.t 8))),(oN 2 (.mov (.t 82)))] [1,6,7,8,81,82]) (.ret)) (.skip))))) (.region [ (oN 68 (.mov (.t 7))),(oN 69 (.bin .add (.t 68) (.c (.int .i64 1)))),(oN 7 (.mov (.t 69)))] [2,8,68,69,81]))
def zew:ACode:=.region [ (oN 57 (.mov (.t 6))),(oN 58 (.bin .add (.t 57) (.c (.int .i64 1)))),(oN 6 (.mov (.t 58)))] [7,57,58]
def zeP:ACode:=.seq (.seq (.region [ (oN 52 (.mov (.t 6))),(oN 53 (.fldaddr 1 1 (.t 1))),(oN 54 (.load false 1 (.t 53))),(oN 55 (.len (.t 54))),(oN 56 (.bin .lss (.t 52) (.t 55)))] [52,53,54,55]) (.cond (.t 56) (.skip) (.exit 4))) (.seq (.block 5 (.seq (.region [ (oN 7 (.mov (.c (.int .i64 0))))] [56]) (.block 6 (.loop zeK)))) (zew))
def zeN:ACode:=.seq (.region [ (oN 2 (.mov (.c (.int .i64 0))))] [1,6]) (.ret)
def zeD:ACode:=.seq (.seq (.region [ (oN 6 (.mov (.c (.int .i64 0))))] [5]) (.block 4 (.loop zeP))) (zeN)
def zez:ACode:=.seq (.seq (.region [ (oN 29 (.mov (.t 3))),(oN 30 (.bin .gtr (.t 29) (.c (.int .i64 1024))))] [3,4,29]) (.cond (.t 30) (.seq (.region [ (oN 2 (.mov (.c (.int .i64 6))))] [1,30]) (.ret)) (.skip))) (.seq (.seq (.region [ (oN 31 (.fldaddr 1 1 (.t 1))),(oN 32 (.load false 1 (.t 31))),(oN 33 (.len (.t 32))),(oN 34 (.bin .eql (.t 33) (.c (.int .i64 0))))] [2,30,31,32,33]) (.cond (.t 34) (.seq (.region [ (oN 2 (.mov (.c (.int .i64 18))))] [1,34]) (.ret)) (.skip))) (.seq (.seq (.region [ (oN 5 (.mov (.c (.int .i64 0))))] [2,34]) (.block 2 (.loop zeB))) (zeD)))
def zgy:ACode:=.seq (.region [ (oN 1 (.rbox (.t 0))),(oN 2 (.mov (.c (.int .i64 0))))] [0,2]) (.seq (.seq (.region [ (oN 9 (.fldaddr 1 1 (.t 1))),(oN 10 (.load false 1 (.t 9))),(oN 11 (.len (.t 10))),(oN 12 (.bin .gtr (.t 11) (.c (.int .i64 256))))] [9,10,11]) (.cond (.t 12) (.seq (.region [ (oN 2 (.mov (.c (.int .i64 6))))] [1,12]) (.ret)) (.skip))) (.seq (.region [ (oN 3 (.mov (.c (.int .i64 0))))] [2,12]) (.seq (.seq (.region [ (oN 4 (.mov (.c (.int .i64 0))))] []) (.block 0 (.loop zeG))) (zez))))
def zaF:List ARet:=[.tmp 2]
theorem zlq:zV Tryz.prog zel (qRo [1])=some (zgy.strip,zaF,83):=by kernel_rfl
def zfd:ACode:=.seq (.region [ (oN 15 (.bin .lss (.t 14) (.t 13)))] []) (.seq (.cond (.t 15) (.skip) (.exit 0)) (.seq (.block 1 (.seq (.region [ (oN 16 (.idx 2 (.t 12) (.t 14))),(oN 17 (.load true 2 (.t 16))),(oN 5 (.alloc [.int .u32 0, .nilsl])),⟨none, .store 2 (.t 5) (.t 17),none⟩] [15,16,17]) (.region [ (oN 18 (.mov (.t 3))),(oN 19 (.fldaddr 1 1 (.t 5))),(oN 20 (.load false 1 (.t 19))),(oN 21 (.len (.t 20))),(oN 22 (.bin .add (.t 18) (.t 21))),(oN 3 (.mov (.t 22)))] [5,18,19,20,21,22]))) (.region [ (oN 23 (.bin .add (.t 14) (.c (.int .i64 1)))),(oN 14 (.mov (.t 23)))] [23])))
def zfE:ACode:=.seq (.region [ (oN 46 (.bin .lss (.t 45) (.t 44)))] []) (.seq (.cond (.t 46) (.skip) (.exit 4)) (.seq (.block 5 (.seq (.region [ (oN 47 (.idx 8 (.t 43) (.t 45))),(oN 48 (.load true 8 (.t 47))),(oN 9 (.alloc [.int .i64 0, .int .i64 0, .int .i64 0, .int .i64 0, .int .i64 0, .int .u32 0, .nilsl, .nilsl])),⟨none, .store 8 (.t 9) (.t 48),none⟩] [46,47,48]) (.seq (.region [ (oN 49 (.load true 8 (.t 9))),(oN 50 (.call zd6 [(.t 49)])),(oN 10 (.mov (.t 50)))] [9,49,50]) (.seq (.region [ (oN 51 (.mov (.t 10))),(oN 52 (.bin .neq (.t 51) (.c (.int .i64 0))))] [51]) (.cond (.t 52) (.seq (.region [ (oN 53 (.mov (.t 10))),(oN 2 (.mov (.t 53)))] [10,36,37,38,43,44,45,52,53]) (.ret)) (.skip)))))) (.region [ (oN 54 (.bin .add (.t 45) (.c (.int .i64 1)))),(oN 45 (.mov (.t 54)))] [2,10,52,54])))
def zff:ACode:=.region [ (oN 55 (.bin .add (.t 38) (.c (.int .i64 1)))),(oN 38 (.mov (.t 55)))] [43,44,45,55]
def zfy:ACode:=.seq (.region [ (oN 39 (.bin .lss (.t 38) (.t 37)))] []) (.seq (.cond (.t 39) (.skip) (.exit 2)) (.seq (.block 3 (.seq (.region [ (oN 40 (.idx 2 (.t 36) (.t 38))),(oN 41 (.load true 2 (.t 40))),(oN 7 (.alloc [.int .u32 0, .nilsl])),⟨none, .store 2 (.t 7) (.t 41),none⟩] [39,40,41]) (.seq (.region [ (oN 42 (.fldaddr 1 1 (.t 7))),(oN 43 (.load false 1 (.t 42))),(oN 44 (.len (.t 43))),(oN 45 (.mov (.c (.int .i64 0))))] [7,42]) (.block 4 (.loop zfE))))) (zff)))
def zfA:ACode:=.seq (.region [ (oN 2 (.mov (.c (.int .i64 0))))] [36,37,38]) (.ret)
def zfn:ACode:=.seq (.seq (.region [ (oN 24 (.fldaddr 1 1 (.t 1))),(oN 25 (.load false 1 (.t 24))),(oN 26 (.len (.t 25))),(oN 27 (.bin .gtr (.t 26) (.c (.int .i64 256)))),(oN 28 (.mov (.t 27))),(oG 29 28 false (.mov (.t 3))),(oG 30 28 false (.bin .gtr (.t 29) (.c (.int .i64 1024)))),(oN 31 (.pick (.t 28) (.c (.bool true)) (.t 30)))] [3,12,13,14,24,25,26,27,28,29,30]) (.cond (.t 31) (.seq (.region [ (oN 2 (.mov (.c (.int .i64 6))))] [1,31]) (.ret)) (.skip))) (.seq (.seq (.region [ (oN 32 (.load true 2 (.t 1))),(oN 33 (.call zj3 [(.t 32)])),(oN 34 (.un .not (.t 33)))] [2,31,32,33]) (.cond (.t 34) (.seq (.region [ (oN 2 (.mov (.c (.int .i64 18))))] [1,34]) (.ret)) (.skip))) (.seq (.seq (.region [ (oN 35 (.fldaddr 1 1 (.t 1))),(oN 36 (.load false 1 (.t 35))),(oN 37 (.len (.t 36))),(oN 38 (.mov (.c (.int .i64 0))))] [1,2,34,35]) (.block 2 (.loop zfy))) (zfA)))
def zhC:ACode:=.seq (.region [ (oN 1 (.rbox (.t 0))),(oN 2 (.mov (.c (.int .i64 0))))] [0,2]) (.seq (.region [ (oN 3 (.mov (.c (.int .i64 0))))] []) (.seq (.seq (.region [ (oN 11 (.fldaddr 1 1 (.t 1))),(oN 12 (.load false 1 (.t 11))),(oN 13 (.len (.t 12))),(oN 14 (.mov (.c (.int .i64 0))))] [11]) (.block 0 (.loop zfd))) (zfn)))
def zbo:List ARet:=[.tmp 2]
theorem zmw:zV Tryz.prog zfB (qRo [1])=some (zhC.strip,zbo,56):=by kernel_rfl
def zfP:ACode:=.seq (.seq (.region [ (oN 12 (.mov (.t 5))),(oN 13 (.fldaddr 1 1 (.t 2))),(oN 14 (.load false 1 (.t 13))),(oN 15 (.len (.t 14))),(oN 16 (.bin .lss (.t 12) (.t 15)))] [12,13,14,15]) (.cond (.t 16) (.skip) (.exit 0))) (.seq (.block 1 (.seq (.draw ( .step (oN 19 (.fldaddr 1 1 (.t 2))) ( .step (oN 20 (.load false 1 (.t 19))) ( .step (oN 21 (.mov (.t 5))) ( .step (oN 22 (.idx 8 (.t 20) (.t 21))) ( .step (oN 23 (.load true 8 (.t 22))) ( .step (oN 24 (.callq zk6 [(.t 23)])) ( .step (oN 25 (.mov (.t 5))) ( .step (oN 26 (.fldaddr 1 1 (.t 2))) ( .step (oN 27 (.load false 1 (.t 26))) ( .step (oN 28 (.len (.t 27))) ( .step (oN 29 (.bin .sub (.t 28) (.c (.int .i64 1)))) ( .step (oN 30 (.bin .eql (.t 25) (.t 29))) ( .step (oN 31 (.eqb true (.t 24) (.t 30))) ( .done)))))))))))))) [16,19,20,21,22,23,24,25,26,27,28,29,30]) (.cond (.t 31) (.seq (.region [ (oN 4 (.mov (.c (.bool false))))] [1,2,5,31]) (.ret)) (.skip)))) (.region [ (oN 17 (.mov (.t 5))),(oN 18 (.bin .add (.t 17) (.c (.int .i64 1)))),(oN 5 (.mov (.t 18)))] [4,17,18,31]))
def zfY:ACode:=.seq (.seq (.region [ (oN 41 (.mov (.t 7))),(oN 42 (.mov (.t 6))),(oN 43 (.len (.t 42))),(oN 44 (.bin .lss (.t 41) (.t 43)))] [41,42,43]) (.cond (.t 44) (.skip) (.exit 2))) (.seq (.block 3 (.seq (.region [ (oN 47 (.mov (.t 6))),(oN 48 (.mov (.t 7))),(oN 49 (.idx 1 (.t 47) (.t 48))),(oN 50 (.load false 1 (.t 49))),(oN 51 (.bin .lss (.t 50) (.c (.int .i64 0)))),(oN 52 (.mov (.t 51))),(oG 53 52 false (.mov (.t 6))),(oG 54 52 false (.mov (.t 7))),(oG 55 52 false (.idx 1 (.t 53) (.t 54))),(oG 56 52 false (.load false 1 (.t 55))),(oG 57 52 false (.mov (.t 1))),(oG 58 52 false (.bin .geq (.t 56) (.t 57))),(oN 59 (.pick (.t 52) (.c (.bool true)) (.t 58)))] [44,47,48,49,50,51,52,53,54,55,56,57,58]) (.cond (.t 59) (.seq (.region [ (oN 4 (.mov (.c (.bool false))))] [1,6,7,59]) (.ret)) (.skip)))) (.region [ (oN 45 (.mov (.t 7))),(oN 46 (.bin .add (.t 45) (.c (.int .i64 1)))),(oN 7 (.mov (.t 46)))] [4,45,46,59]))
def zge:ACode:=.seq (.region [ (oN 4 (.mov (.c (.bool true))))] [1,6,7]) (.ret)
def zfV:ACode:=.seq (.region [ (oN 32 (.fldaddr 1 1 (.t 2))),(oN 33 (.load false 1 (.t 32))),(oN 34 (.fldaddr 1 1 (.t 2))),(oN 35 (.load false 1 (.t 34))),(oN 36 (.len (.t 35))),(oN 37 (.bin .sub (.t 36) (.c (.int .i64 1)))),(oN 38 (.idx 8 (.t 33) (.t 37))),(oN 39 (.load true 8 (.t 38))),(oN 40 (.call zeU [(.t 39)])),(oN 6 (.mov (.t 40)))] [2,5,32,33,34,35,36,37,38,39,40]) (.seq (.seq (.region [ (oN 7 (.mov (.c (.int .i64 0))))] []) (.block 2 (.loop zfY))) (zge))
def zh7:ACode:=.seq (.region [ (oN 2 (.rbox (.t 0))),(oN 4 (.mov (.c (.bool false))))] [0,4]) (.seq (.seq (.region [ (oN 8 (.fldaddr 1 1 (.t 2))),(oN 9 (.load false 1 (.t 8))),(oN 10 (.len (.t 9))),(oN 11 (.bin .eql (.t 10) (.c (.int .i64 0))))] [8,9,10]) (.cond (.t 11) (.seq (.region [ (oN 4 (.mov (.c (.bool false))))] [1,2,11]) (.ret)) (.skip))) (.seq (.seq (.region [ (oN 5 (.mov (.c (.int .i64 0))))] [4,11]) (.block 0 (.loop zfP))) (zfV)))
def zbd:List ARet:=[.tmp 4]
theorem zmL:zV Tryz.prog zgh (qRo [2])=some (zh7.strip,zbd,60):=by kernel_rfl
def zfx:ACode:=.seq (.seq (.region [ (oN 22 (.mov (.t 3))),(oN 23 (.fldaddr 6 1 (.t 1))),(oN 24 (.load false 1 (.t 23))),(oN 25 (.len (.t 24))),(oN 26 (.bin .lss (.t 22) (.t 25)))] [22,23,24,25]) (.cond (.t 26) (.skip) (.exit 0))) (.seq (.block 1 (.seq (.region [ (oN 29 (.fldaddr 6 1 (.t 1))),(oN 30 (.load false 1 (.t 29))),(oN 31 (.mov (.t 3))),(oN 32 (.idx 5 (.t 30) (.t 31))),(oN 33 (.load true 5 (.t 32))),(oN 34 (.call zfw [(.t 33)])),(oN 4 (.mov (.t 34)))] [26,29,30,31,32,33,34]) (.seq (.region [ (oN 35 (.mov (.t 4))),(oN 36 (.bin .neq (.t 35) (.c (.int .i64 0))))] [35]) (.cond (.t 36) (.seq (.region [ (oN 37 (.mov (.t 4))),(oN 2 (.mov (.t 37)))] [1,3,4,36,37]) (.ret)) (.skip))))) (.region [ (oN 27 (.mov (.t 3))),(oN 28 (.bin .add (.t 27) (.c (.int .i64 1)))),(oN 3 (.mov (.t 28)))] [2,4,27,28,36]))
def ze8:ACode:=.seq (.seq (.region [ (oN 38 (.load true 8 (.t 1))),(oN 39 (.call zaw [(.t 38)])),(oN 40 (.un .not (.t 39))),(oN 41 (.mov (.t 40))),(oG 42 41 false (.fldaddr 1 1 (.t 1))),(oG 43 41 false (.load false 1 (.t 42))),(oG 44 41 false (.call zhd [(.t 43)])),(oG 45 41 false (.un .not (.t 44))),(oN 46 (.pick (.t 41) (.c (.bool true)) (.t 45))),(oN 47 (.mov (.t 46))),(oG 48 47 false (.fldaddr 0 1 (.t 1))),(oG 49 47 false (.load false 1 (.t 48))),(oG 50 47 false (.bin .eql (.t 49) (.c (.int .i64 2)))),(oG 51 47 false (.mov (.t 50))),(oG 52 51 true (.fldaddr 2 1 (.t 1))),(oG 53 51 true (.load false 1 (.t 52))),(oG 54 51 true (.bin .neq (.t 53) (.c (.int .i64 1)))),(oG 55 47 false (.pick (.t 51) (.t 54) (.c (.bool false)))),(oG 56 47 false (.mov (.t 55))),(oG 57 56 true (.fldaddr 2 1 (.t 1))),(oG 58 56 true (.load false 1 (.t 57))),(oG 59 56 true (.bin .neq (.t 58) (.c (.int .i64 2)))),(oG 60 47 false (.pick (.t 56) (.t 59) (.c (.bool false)))),(oG 61 47 false (.mov (.t 60))),(oG 62 61 true (.fldaddr 2 1 (.t 1))),(oG 63 61 true (.load false 1 (.t 62))),(oG 64 61 true (.bin .neq (.t 63) (.c (.int .i64 4)))),(oG 65 47 false (.pick (.t 61) (.t 64) (.c (.bool false)))),(oN 66 (.pick (.t 47) (.c (.bool true)) (.t 65)))] [3,38,39,40,41,42,43,44,45,46,47,48,49,50,51,52,53,54,55,56,57,58,59,60,61,62,63,64,65]) (.cond (.t 66) (.seq (.region [ (oN 2 (.mov (.c (.int .i64 2))))] [1,66]) (.ret)) (.skip))) (.seq (.seq (.region [ (oN 67 (.fldaddr 0 1 (.t 1))),(oN 68 (.load false 1 (.t 67))),(oN 69 (.bin .eql (.t 68) (.c (.int .i64 8)))),(oN 70 (.mov (.t 69))),(oG 71 70 true (.fldaddr 7 1 (.t 1))),(oG 72 70 true (.load false 1 (.t 71))),(oG 73 70 true (.len (.t 72))),(oG 74 70 true (.bin .lss (.t 73) (.c (.int .i64 1)))),(oG 75 70 true (.mov (.t 74))),(oG 76 75 false (.fldaddr 7 1 (.t 1))),(oG 77 75 false (.load false 1 (.t 76))),(oG 78 75 false (.len (.t 77))),(oG 79 75 false (.bin .gtr (.t 78) (.c (.int .i64 64)))),(oG 80 70 true (.pick (.t 75) (.c (.bool true)) (.t 79))),(oN 81 (.pick (.t 70) (.t 80) (.c (.bool false))))] [1,2,66,67,68,69,70,71,72,73,74,75,76,77,78,79,80]) (.cond (.t 81) (.seq (.region [ (oN 2 (.mov (.c (.int .i64 2))))] [81]) (.ret)) (.skip))) (.seq (.region [ (oN 2 (.mov (.c (.int .i64 0))))] [81]) (.ret)))
def zhP:ACode:=.seq (.region [ (oN 1 (.rbox (.t 0))),(oN 2 (.mov (.c (.int .i64 0))))] [0,2]) (.seq (.seq (.draw ( .step (oN 5 (.fldaddr 0 1 (.t 1))) ( .step (oN 6 (.load false 1 (.t 5))) ( .step (oN 7 (.bin .lss (.t 6) (.c (.int .i64 1)))) ( .step (oN 8 (.mov (.t 7))) ( .step (oG 9 8 false (.fldaddr 0 1 (.t 1))) ( .step (oG 10 8 false (.load false 1 (.t 9))) ( .step (oG 11 8 false (.bin .gtr (.t 10) (.c (.int .i64 10)))) ( .step (oN 12 (.pick (.t 8) (.c (.bool true)) (.t 11))) ( .step (oN 13 (.mov (.t 12))) ( .step (oG 14 13 false (.fldaddr 6 1 (.t 1))) ( .step (oG 15 13 false (.load false 1 (.t 14))) ( .step (oG 16 13 false (.len (.t 15))) ( .step (oG 17 13 false (.fldaddr 0 1 (.t 1))) ( .step (oG 18 13 false (.load false 1 (.t 17))) ( .step (oG 19 13 false (.callq zjN [(.t 18)])) ( .step (oG 20 13 false (.bin .neq (.t 16) (.t 19))) ( .step (oN 21 (.pick (.t 13) (.c (.bool true)) (.t 20))) ( .done)))))))))))))))))) [5,6,7,8,9,10,11,12,13,14,15,16,17,18,19,20]) (.cond (.t 21) (.seq (.region [ (oN 2 (.mov (.c (.int .i64 2))))] [1,21]) (.ret)) (.skip))) (.seq (.seq (.region [ (oN 3 (.mov (.c (.int .i64 0))))] [2,21]) (.block 0 (.loop zfx))) (ze8)))
def zA:List ARet:=[.tmp 2]
theorem zmg:zV Tryz.prog zdc (qRo [1])=some (zhP.strip,zA,82):=by kernel_rfl
def zjp:ACode:=.seq (.region [ (oN 1 (.rbox (.t 0))),(oN 2 (.mknil 1))] [0,2]) (.seq (.seq (.region [ (oN 3 (.fldaddr 0 1 (.t 1))),(oN 4 (.load false 1 (.t 3)))] [3]) (.block 0 (.seq (.region [ (oN 6 (.bin .eql (.t 4) (.c (.int .i64 6)))),(oN 5 (.mov (.t 6)))] [6]) (.cond (.t 5) (.seq (.region [ (oN 7 (.fldaddr 3 1 (.t 1))),(oN 8 (.load false 1 (.t 7))),(oN 9 (.buildSl 1 1 [.int .i64 0] [(0,(.t 8))])),(oN 2 (.mov (.t 9)))] [1,4,5,7,8,9]) (.ret)) (.seq (.region [ (oN 11 (.bin .eql (.t 4) (.c (.int .i64 7)))),(oN 10 (.mov (.t 11)))] [5,11]) (.cond (.t 10) (.seq (.region [ (oN 12 (.fldaddr 3 1 (.t 1))),(oN 13 (.load false 1 (.t 12))),(oN 14 (.fldaddr 4 1 (.t 1))),(oN 15 (.load false 1 (.t 14))),(oN 16 (.buildSl 1 2 [.int .i64 0] [(0,(.t 13)),(1,(.t 15))])),(oN 2 (.mov (.t 16)))] [1,4,10,12,13,14,15,16]) (.ret)) (.seq (.region [ (oN 18 (.bin .eql (.t 4) (.c (.int .i64 8)))),(oN 17 (.mov (.t 18)))] [4,10,18]) (.cond (.t 17) (.seq (.region [ (oN 19 (.fldaddr 7 1 (.t 1))),(oN 20 (.load false 1 (.t 19))),(oN 2 (.mov (.t 20)))] [1,17,19,20]) (.ret)) (.skip))))))))) (.seq (.region [ (oN 2 (.mknil 1))] [1,17]) (.ret)))
def zcB:List ARet:=[.tmp 2]
theorem zoo:zV Tryz.prog zeU (qRo [1])=some (zjp.strip,zcB,21):=by kernel_rfl
def ziD:ACode:=.seq (.seq (.region [ (oN 23 (.mov (.t 8))),(oN 24 (.fldaddr 4 1 (.t 3))),(oN 25 (.load false 1 (.t 24))),(oN 26 (.len (.t 25))),(oN 27 (.bin .lss (.t 23) (.t 26))),(oN 28 (.mov (.t 27))),(oG 29 28 true (.mov (.t 7))),(oG 30 28 true (.bin .geq (.t 29) (.c (.int .i64 0)))),(oN 31 (.pick (.t 28) (.t 30) (.c (.bool false))))] [23,24,25,26,27,28,29,30]) (.cond (.t 31) (.skip) (.exit 0))) (.seq (.block 1 (.region [ (oN 34 (.fldaddr 4 1 (.t 3))),(oN 35 (.load false 1 (.t 34))),(oN 36 (.mov (.t 8))),(oN 37 (.idx 5 (.t 35) (.t 36))),(oN 38 (.load true 5 (.t 37))),(oN 39 (.mov (.t 1))),(oN 40 (.bin .sub (.t 39) (.c (.int .i64 1)))),(oN 41 (.mov (.t 7))),(oN 42 (.call zgX [(.t 38),(.t 40),(.t 41)])),(oN 7 (.mov (.t 42)))] [31,34,35,36,37,38,39,40,41,42])) (.region [ (oN 32 (.mov (.t 8))),(oN 33 (.bin .add (.t 32) (.c (.int .i64 1)))),(oN 8 (.mov (.t 33)))] [32,33]))
def zfp:ACode:=.seq (.region [ (oN 43 (.mov (.t 7))),(oN 6 (.mov (.t 43)))] [1,3,7,8,43]) (.ret)
def zl0:ACode:=.seq (.region [ (oN 3 (.rbox (.t 0))),(oN 6 (.mov (.c (.int .i64 0))))] [0,6]) (.seq (.seq (.region [ (oN 9 (.mov (.t 1))),(oN 10 (.bin .lss (.t 9) (.c (.int .i64 1)))),(oN 11 (.mov (.t 10))),(oG 12 11 false (.mov (.t 2))),(oG 13 11 false (.bin .lss (.t 12) (.c (.int .i64 1)))),(oN 14 (.pick (.t 11) (.c (.bool true)) (.t 13))),(oN 15 (.mov (.t 14))),(oG 16 15 false (.fldaddr 4 1 (.t 3))),(oG 17 15 false (.load false 1 (.t 16))),(oG 18 15 false (.len (.t 17))),(oG 19 15 false (.bin .gtr (.t 18) (.c (.int .i64 4)))),(oN 20 (.pick (.t 15) (.c (.bool true)) (.t 19)))] [9,10,11,12,13,14,15,16,17,18,19]) (.cond (.t 20) (.seq (.region [ (oN 6 (.mov (.c (.int .i64 (-1)))))] [1,2,3,20]) (.ret)) (.skip))) (.seq (.region [ (oN 21 (.mov (.t 2))),(oN 22 (.bin .sub (.t 21) (.c (.int .i64 1)))),(oN 7 (.mov (.t 22)))] [2,6,20,21,22]) (.seq (.seq (.region [ (oN 8 (.mov (.c (.int .i64 0))))] []) (.block 0 (.loop ziD))) (zfp))))
def zc5:List ARet:=[.tmp 6]
theorem zrb:zV Tryz.prog zgX (qRo [3])=some (zl0.strip,zc5,44):=by kernel_rfl
def zh1:ACode:=.seq (.region [ (oN 14 (.bin .lss (.t 13) (.t 12)))] []) (.seq (.cond (.t 14) (.skip) (.exit 0)) (.seq (.block 1 (.seq (.region [ (oN 15 (.idx 2 (.t 11) (.t 13))),(oN 16 (.load true 2 (.t 15))),(oN 4 (.alloc [.int .u32 0, .nilsl])),⟨none, .store 2 (.t 4) (.t 16),none⟩] [14,15,16]) (.seq (.region [ (oN 17 (.fldaddr 1 1 (.t 4))),(oN 18 (.load false 1 (.t 17))),(oN 19 (.len (.t 18))),(oN 5 (.mov (.t 19)))] [17,18,19]) (.seq (.seq (.region [ (oN 20 (.mov (.t 5))),(oN 21 (.bin .eql (.t 20) (.c (.int .i64 0)))),(oN 22 (.mov (.t 21))),(oG 23 22 false (.fldaddr 1 1 (.t 4))),(oG 24 22 false (.load false 1 (.t 23))),(oG 25 22 false (.mov (.t 5))),(oG 26 22 false (.bin .sub (.t 25) (.c (.int .i64 1)))),(oG 27 22 false (.idx 8 (.t 24) (.t 26))),(oG 28 22 false (.load true 8 (.t 27))),(oG 29 22 false (.call zcj [(.t 28)])),(oG 30 22 false (.un .not (.t 29))),(oN 31 (.pick (.t 22) (.c (.bool true)) (.t 30))),(oN 32 (.mov (.t 31))),(oG 33 32 false (.fldaddr 1 1 (.t 4))),(oG 34 32 false (.load false 1 (.t 33))),(oG 35 32 false (.mov (.t 5))),(oG 36 32 false (.bin .sub (.t 35) (.c (.int .i64 1)))),(oG 37 32 false (.slice 8 (.t 34) none (some (.t 36)))),(oG 38 32 false (.call zab [(.t 37),(.c (.fn (.func zcj) []))])),(oN 39 (.pick (.t 32) (.c (.bool true)) (.t 38)))] [5,20,21,22,23,24,25,26,27,28,29,30,31,32,33,34,35,36,37,38]) (.cond (.t 39) (.seq (.region [ (oN 2 (.mov (.c (.bool false))))] [1,4,11,12,13,39]) (.ret)) (.skip))) (.seq (.region [ (oN 40 (.load true 2 (.t 4))),(oN 41 (.call zdr [(.t 40)])),(oN 42 (.mkfn (.func zeQ) [(.t 1)])),(oN 43 (.call za3 [(.t 41),(.t 42)]))] [2,4,39,40,41,42]) (.cond (.t 43) (.seq (.region [ (oN 2 (.mov (.c (.bool false))))] [1,11,12,13,43]) (.ret)) (.skip))))))) (.region [ (oN 44 (.bin .add (.t 13) (.c (.int .i64 1)))),(oN 13 (.mov (.t 44)))] [2,43,44])))
def ziy:ACode:=.seq (.region [ (oN 2 (.mov (.c (.bool true))))] [1,11,12,13]) (.ret)
def zlF:ACode:=.seq (.region [ (oN 1 (.rbox (.t 0))),(oN 2 (.mov (.c (.bool false))))] [0,2]) (.seq (.seq (.region [ (oN 6 (.fldaddr 1 1 (.t 1))),(oN 7 (.load false 1 (.t 6))),(oN 8 (.len (.t 7))),(oN 9 (.bin .eql (.t 8) (.c (.int .i64 0))))] [6,7,8]) (.cond (.t 9) (.seq (.region [ (oN 2 (.mov (.c (.bool false))))] [1,9]) (.ret)) (.skip))) (.seq (.seq (.region [ (oN 10 (.fldaddr 1 1 (.t 1))),(oN 11 (.load false 1 (.t 10))),(oN 12 (.len (.t 11))),(oN 13 (.mov (.c (.int .i64 0))))] [2,9,10]) (.block 0 (.loop zh1))) (ziy)))
def zch:List ARet:=[.tmp 2]
theorem zrT:zV Tryz.prog zj3 (qRo [1])=some (zlF.strip,zch,45):=by kernel_rfl
def zgb:ACode:=.seq (.region [ (oN 23 (.bin .lss (.t 22) (.t 21)))] []) (.seq (.cond (.t 23) (.skip) (.exit 0)) (.seq (.block 1 (.seq (.region [ (oN 24 (.idx 5 (.t 20) (.t 22))),(oN 25 (.load true 5 (.t 24))),(oN 5 (.alloc [.int .i64 0, .int .u32 0, .int .i64 0, .int .i64 0, .nilsl])),⟨none, .store 5 (.t 5) (.t 25),none⟩] [23,24,25]) (.seq (.region [ (oN 26 (.load true 5 (.t 5))),(oN 27 (.call zgn [(.t 26)])),(oN 6 (.mov (.t 27)))] [5,26,27]) (.seq (.region [ (oN 28 (.mov (.t 6))),(oN 29 (.bin .neq (.t 28) (.c (.int .i64 0))))] [28]) (.cond (.t 29) (.seq (.region [ (oN 30 (.mov (.t 6))),(oN 2 (.mov (.t 30)))] [1,6,20,21,22,29,30]) (.ret)) (.skip)))))) (.region [ (oN 31 (.bin .add (.t 22) (.c (.int .i64 1)))),(oN 22 (.mov (.t 31)))] [2,6,29,31])))
def zfI:ACode:=.seq (.seq (.region [ (oN 32 (.load true 8 (.t 1))),(oN 33 (.call zaG [(.t 32)])),(oN 34 (.un .not (.t 33)))] [1,20,21,22,32,33]) (.cond (.t 34) (.seq (.region [ (oN 2 (.mov (.c (.int .i64 2))))] [34]) (.ret)) (.skip))) (.seq (.region [ (oN 2 (.mov (.c (.int .i64 0))))] [34]) (.ret))
def ziI:ACode:=.seq (.region [ (oN 1 (.rbox (.t 0))),(oN 2 (.mov (.c (.int .i64 0))))] [0,2]) (.seq (.seq (.region [ (oN 7 (.fldaddr 0 1 (.t 1))),(oN 8 (.load false 1 (.t 7))),(oN 9 (.call zeq [(.t 8)])),(oN 3 (.mov (.t 9)))] [7,8,9]) (.seq (.region [ (oN 10 (.mov (.t 3))),(oN 11 (.bin .lss (.t 10) (.c (.int .i64 0)))),(oN 12 (.mov (.t 11))),(oG 13 12 false (.mov (.t 3))),(oG 14 12 false (.fldaddr 6 1 (.t 1))),(oG 15 12 false (.load false 1 (.t 14))),(oG 16 12 false (.len (.t 15))),(oG 17 12 false (.bin .neq (.t 13) (.t 16))),(oN 18 (.pick (.t 12) (.c (.bool true)) (.t 17)))] [3,10,11,12,13,14,15,16,17]) (.cond (.t 18) (.seq (.region [ (oN 2 (.mov (.c (.int .i64 2))))] [1,18]) (.ret)) (.skip)))) (.seq (.seq (.region [ (oN 19 (.fldaddr 6 1 (.t 1))),(oN 20 (.load false 1 (.t 19))),(oN 21 (.len (.t 20))),(oN 22 (.mov (.c (.int .i64 0))))] [2,18,19]) (.block 0 (.loop zgb))) (zfI)))
def zaC:List ARet:=[.tmp 2]
theorem zm7:zV Tryz.prog zd6 (qRo [1])=some (ziI.strip,zaC,35):=by kernel_rfl
def zdd:ACode:=.seq (.region [ (oN 2 (.mknil 1))] [2]) (.seq (.seq (.region [ (oN 3 (.mov (.t 0))),(oN 4 (.isnil false false (.t 3)))] [3]) (.cond (.t 4) (.seq (.region [ (oN 2 (.mknil 1))] [0,4]) (.ret)) (.skip))) (.seq (.region [ (oN 5 (.buildSl 1 0 [.int .i64 0] [])),(oN 6 (.mov (.t 0))),(oN 7 (.append 1 8 (.t 5) (.t 6))),(oN 2 (.mov (.t 7)))] [0,4,5,6,7]) (.ret)))
def za6:List ARet:=[.tmp 2]
theorem zg9:zV Tryz.prog zbg (qRo [])=some (zdd.strip,za6,8):=by kernel_rfl
def zhx:ACode:=.seq (.region [ (oN 1 (.rbox (.t 0))),(oN 2 (.mknil 1))] [0,2]) (.seq (.seq (.region [ (oN 4 (.fldaddr 1 1 (.t 1))),(oN 5 (.load false 1 (.t 4))),(oN 6 (.len (.t 5))),(oN 7 (.bin .eql (.t 6) (.c (.int .i64 0))))] [4,5,6]) (.cond (.t 7) (.seq (.region [ (oN 2 (.mknil 1))] [1,7]) (.ret)) (.skip))) (.seq (.region [ (oN 8 (.fldaddr 1 1 (.t 1))),(oN 9 (.load false 1 (.t 8))),(oN 10 (.fldaddr 1 1 (.t 1))),(oN 11 (.load false 1 (.t 10))),(oN 12 (.len (.t 11))),(oN 13 (.bin .sub (.t 12) (.c (.int .i64 1)))),(oN 14 (.idx 8 (.t 9) (.t 13))),(oN 15 (.load true 8 (.t 14))),(oN 3 (.alloc [.int .i64 0, .int .i64 0, .int .i64 0, .int .i64 0, .int .i64 0, .int .u32 0, .nilsl, .nilsl])),⟨none, .store 8 (.t 3) (.t 15),none⟩] [1,2,7,8,9,10,11,12,13,14,15]) (.seq (.seq (.region [ (oN 16 (.fldaddr 0 1 (.t 3))),(oN 17 (.load false 1 (.t 16)))] [16]) (.block 0 (.seq (.region [ (oN 19 (.bin .eql (.t 17) (.c (.int .i64 6)))),(oN 18 (.mov (.t 19)))] [19]) (.cond (.t 18) (.seq (.region [ (oN 20 (.fldaddr 3 1 (.t 3))),(oN 21 (.load false 1 (.t 20))),(oN 22 (.buildSl 1 1 [.int .i64 0] [(0,(.t 21))])),(oN 2 (.mov (.t 22)))] [3,17,18,20,21,22]) (.ret)) (.seq (.region [ (oN 24 (.bin .eql (.t 17) (.c (.int .i64 7)))),(oN 23 (.mov (.t 24)))] [18,24]) (.cond (.t 23) (.seq (.region [ (oN 25 (.fldaddr 3 1 (.t 3))),(oN 26 (.load false 1 (.t 25))),(oN 27 (.fldaddr 4 1 (.t 3))),(oN 28 (.load false 1 (.t 27))),(oN 29 (.buildSl 1 2 [.int .i64 0] [(0,(.t 26)),(1,(.t 28))])),(oN 2 (.mov (.t 29)))] [3,17,23,25,26,27,28,29]) (.ret)) (.seq (.region [ (oN 31 (.bin .eql (.t 17) (.c (.int .i64 8)))),(oN 30 (.mov (.t 31)))] [17,23,31]) (.cond (.t 30) (.seq (.region [ (oN 32 (.fldaddr 7 1 (.t 3))),(oN 33 (.load false 1 (.t 32))),(oN 34 (.call zbg [(.t 33)])),(oN 2 (.mov (.t 34)))] [3,30,32,33,34]) (.ret)) (.skip))))))))) (.seq (.region [ (oN 2 (.mknil 1))] [3,30]) (.ret)))))
def zbm:List ARet:=[.tmp 2]
theorem zmi:zV Tryz.prog zdr (qRo [1])=some (zhx.strip,zbm,35):=by kernel_rfl
def zaL:ACode:=.seq (.region [ (oN 4 (.mov (.c (.bool false))))] [4]) (.seq (.region [ (oN 5 (.mov (.t 0))),(oN 6 (.mov (.t 1))),(oN 7 (.call zao [(.t 5),(.t 6)])),(oN 8 (.bin .geq (.t 7) (.c (.int .i64 0)))),(oN 4 (.mov (.t 8)))] [0,1,5,6,7,8]) (.ret))
def zaK:List ARet:=[.tmp 4]
theorem zb5:zV Tryz.prog zG (qRo [])=some (zaL.strip,zaK,9):=by kernel_rfl
def zny:ACode:=.seq (.region [ (oN 1 (.rbox (.t 0))),(oN 2 (.mov (.c (.bool false))))] [0,2]) (.seq (.region [ (oN 3 (.fldaddr 0 1 (.t 1))),(oN 4 (.load false 1 (.t 3))),(oN 5 (.bin .geq (.t 4) (.c (.int .i64 6)))),(oN 6 (.mov (.t 5))),(oG 7 6 true (.fldaddr 0 1 (.t 1))),(oG 8 6 true (.load false 1 (.t 7))),(oG 9 6 true (.bin .leq (.t 8) (.c (.int .i64 10)))),(oN 10 (.pick (.t 6) (.t 9) (.c (.bool false)))),(oN 2 (.mov (.t 10)))] [1,3,4,5,6,7,8,9,10]) (.ret))
def zjL:List ARet:=[.tmp 2]
theorem ztM:zV Tryz.prog zk6 (qRo [1])=some (zny.strip,zjL,11):=by kernel_rfl
def zlO:ACode:=.seq (.region [ (oN 2 (.mov (.c (.int .i64 0))))] [2]) (.seq (.seq (.region [ (oN 3 (.mov (.t 0)))] [0]) (.block 0 (.seq (.region [ (oN 5 (.bin .eql (.t 3) (.c (.int .i64 2)))),(oN 4 (.mov (.t 5)))] [5]) (.cond (.t 4) (.seq (.region [ (oN 2 (.mov (.c (.int .i64 2))))] [3,4]) (.ret)) (.seq (.seq (.region [ (oN 7 (.bin .eql (.t 3) (.c (.int .i64 1)))),(oN 6 (.mov (.t 7)))] [4,7]) (.cond (.t 6) (.skip) (.seq (.region [ (oN 8 (.bin .eql (.t 3) (.c (.int .i64 4)))),(oN 6 (.mov (.t 8)))] [8]) (.cond (.t 6) (.skip) (.seq (.region [ (oN 9 (.bin .eql (.t 3) (.c (.int .i64 7)))),(oN 6 (.mov (.t 9)))] [9]) (.cond (.t 6) (.skip) (.region [ (oN 10 (.bin .eql (.t 3) (.c (.int .i64 8)))),(oN 6 (.mov (.t 10)))] [3,10]))))))) (.cond (.t 6) (.seq (.region [ (oN 2 (.mov (.c (.int .i64 1))))] [3,6]) (.ret)) (.skip))))))) (.seq (.region [ (oN 2 (.mov (.c (.int .i64 0))))] [3,6]) (.ret)))
def zb9:List ARet:=[.tmp 2]
theorem zq1:zV Tryz.prog zjN (qRo [])=some (zlO.strip,zb9,11):=by kernel_rfl
def zhu:ACode:=.seq (.region [ (oN 1 (.rbox (.t 0))),(oN 2 (.mov (.c (.int .i64 0))))] [0,2]) (.seq (.seq (.region [ (oN 3 (.load true 5 (.t 1))),(oN 4 (.call zfX [(.t 3),(.c (.int .i64 64))]))] [3]) (.cond (.t 4) (.seq (.region [ (oN 2 (.mov (.c (.int .i64 20))))] [1,4]) (.ret)) (.skip))) (.seq (.seq (.region [ (oN 5 (.load true 5 (.t 1))),(oN 6 (.call zd5 [(.t 5)])),(oN 7 (.un .not (.t 6)))] [1,2,4,5,6]) (.cond (.t 7) (.seq (.region [ (oN 2 (.mov (.c (.int .i64 2))))] [7]) (.ret)) (.skip))) (.seq (.region [ (oN 2 (.mov (.c (.int .i64 0))))] [7]) (.ret))))
def zcL:List ARet:=[.tmp 2]
theorem zmu:zV Tryz.prog zfw (qRo [1])=some (zhu.strip,zcL,8):=by kernel_rfl
def zaB:ACode:=.seq (.region [ (oN 1 (.rbox (.t 0))),(oN 2 (.mov (.c (.bool false))))] [0,2]) (.seq (.region [ (oN 5 (.fldaddr 0 1 (.t 1))),(oN 6 (.load false 1 (.t 5))),(oN 7 (.bin .eql (.t 6) (.c (.int .i64 1)))),(oN 8 (.mov (.t 7))),(oG 9 8 false (.fldaddr 0 1 (.t 1))),(oG 10 8 false (.load false 1 (.t 9))),(oG 11 8 false (.bin .eql (.t 10) (.c (.int .i64 3)))),(oN 12 (.pick (.t 8) (.c (.bool true)) (.t 11))),(oN 3 (.mov (.t 12)))] [5,6,7,8,9,10,11,12]) (.seq (.region [ (oN 13 (.fldaddr 0 1 (.t 1))),(oN 14 (.load false 1 (.t 13))),(oN 15 (.bin .eql (.t 14) (.c (.int .i64 6)))),(oN 16 (.mov (.t 15))),(oG 17 16 false (.fldaddr 0 1 (.t 1))),(oG 18 16 false (.load false 1 (.t 17))),(oG 19 16 false (.bin .eql (.t 18) (.c (.int .i64 7)))),(oN 20 (.pick (.t 16) (.c (.bool true)) (.t 19))),(oN 4 (.mov (.t 20)))] [13,14,15,16,17,18,19,20]) (.seq (.region [ (oN 21 (.mov (.t 3))),(oN 22 (.mov (.t 21))),(oG 23 22 false (.fldaddr 1 1 (.t 1))),(oG 24 22 false (.load false 1 (.t 23))),(oG 25 22 false (.bin .eql (.t 24) (.c (.int .i64 0)))),(oN 26 (.pick (.t 22) (.c (.bool true)) (.t 25))),(oN 27 (.mov (.t 26))),(oG 28 27 true (.fldaddr 0 1 (.t 1))),(oG 29 27 true (.load false 1 (.t 28))),(oG 30 27 true (.bin .eql (.t 29) (.c (.int .i64 2)))),(oG 31 27 true (.mov (.t 30))),(oG 32 31 false (.fldaddr 2 1 (.t 1))),(oG 33 31 false (.load false 1 (.t 32))),(oG 34 31 false (.bin .eql (.t 33) (.c (.int .i64 0)))),(oG 35 27 true (.pick (.t 31) (.c (.bool true)) (.t 34))),(oN 36 (.pick (.t 27) (.t 35) (.c (.bool false)))),(oN 37 (.mov (.t 36))),(oG 38 37 true (.mov (.t 4))),(oG 39 37 true (.mov (.t 38))),(oG 40 39 false (.fldaddr 3 1 (.t 1))),(oG 41 39 false (.load false 1 (.t 40))),(oG 42 39 false (.bin .eql (.t 41) (.c (.int .i64 0)))),(oG 43 37 true (.pick (.t 39) (.c (.bool true)) (.t 42))),(oN 44 (.pick (.t 37) (.t 43) (.c (.bool false)))),(oN 45 (.mov (.t 44))),(oG 46 45 true (.fldaddr 0 1 (.t 1))),(oG 47 45 true (.load false 1 (.t 46))),(oG 48 45 true (.bin .eql (.t 47) (.c (.int .i64 7)))),(oG 49 45 true (.mov (.t 48))),(oG 50 49 false (.fldaddr 4 1 (.t 1))),(oG 51 49 false (.load false 1 (.t 50))),(oG 52 49 false (.bin .eql (.t 51) (.c (.int .i64 0)))),(oG 53 45 true (.pick (.t 49) (.c (.bool true)) (.t 52))),(oN 54 (.pick (.t 45) (.t 53) (.c (.bool false)))),(oN 55 (.mov (.t 54))),(oG 56 55 true (.fldaddr 0 1 (.t 1))),(oG 57 55 true (.load false 1 (.t 56))),(oG 58 55 true (.bin .eql (.t 57) (.c (.int .i64 5)))),(oG 59 55 true (.mov (.t 58))),(oG 60 59 false (.fldaddr 5 1 (.t 1))),(oG 61 59 false (.load false 1 (.t 60))),(oG 62 59 false (.bin .eql (.t 61) (.c (.int .u32 0)))),(oG 63 55 true (.pick (.t 59) (.c (.bool true)) (.t 62))),(oN 64 (.pick (.t 55) (.t 63) (.c (.bool false)))),(oN 65 (.mov (.t 64))),(oG 66 65 true (.fldaddr 0 1 (.t 1))),(oG 67 65 true (.load false 1 (.t 66))),(oG 68 65 true (.bin .eql (.t 67) (.c (.int .i64 8)))),(oG 69 65 true (.mov (.t 68))),(oG 70 69 false (.fldaddr 7 1 (.t 1))),(oG 71 69 false (.load false 1 (.t 70))),(oG 72 69 false (.len (.t 71))),(oG 73 69 false (.bin .eql (.t 72) (.c (.int .i64 0)))),(oG 74 65 true (.pick (.t 69) (.c (.bool true)) (.t 73))),(oN 75 (.pick (.t 65) (.t 74) (.c (.bool false)))),(oN 2 (.mov (.t 75)))] [1,3,4,21,22,23,24,25,26,27,28,29,30,31,32,33,34,35,36,37,38,39,40,41,42,43,44,45,46,47,48,49,50,51,52,53,54,55,56,57,58,59,60,61,62,63,64,65,66,67,68,69,70,71,72,73,74,75]) (.ret))))
def zf:List ARet:=[.tmp 2]
theorem zaS:zV Tryz.prog zaw (qRo [1])=some (zaB.strip,zf,76):=by kernel_rfl
def zlZ:ACode:=.seq (.region [ (oN 2 (.mov (.c (.bool false))))] [2]) (.seq (.region [ (oN 3 (.mov (.t 0))),(oN 4 (.bin .geq (.t 3) (.c (.int .i64 0)))),(oN 5 (.mov (.t 4))),(oG 6 5 true (.mov (.t 0))),(oG 7 5 true (.bin .lss (.t 6) (.c (.int .i64 65536)))),(oN 8 (.pick (.t 5) (.t 7) (.c (.bool false)))),(oN 2 (.mov (.t 8)))] [0,3,4,5,6,7,8]) (.ret))
def ziP:List ARet:=[.tmp 2]
theorem zrD:zV Tryz.prog zhd (qRo [])=some (zlZ.strip,ziP,9):=by kernel_rfl
def zbY:ACode:=.seq (.seq (.region [ (oN 29 (.mov (.t 5))),(oN 30 (.mov (.t 4))),(oN 31 (.len (.t 30))),(oN 32 (.bin .lss (.t 29) (.t 31)))] [29,30,31]) (.cond (.t 32) (.skip) (.exit 2))) (.seq (.block 3 (.seq (.draw ( .step (oN 35 (.mov (.t 4))) ( .step (oN 36 (.mov (.t 5))) ( .step (oN 37 (.idx 1 (.t 35) (.t 36))) ( .step (oN 38 (.load false 1 (.t 37))) ( .step (oN 39 (.mov (.t 4))) ( .step (oN 40 (.mov (.t 5))) ( .step (oN 41 (.bin .sub (.t 40) (.c (.int .i64 1)))) ( .step (oN 42 (.idx 1 (.t 39) (.t 41))) ( .step (oN 43 (.load false 1 (.t 42))) ( .step (oN 44 (.bin .neq (.t 38) (.t 43))) ( .done))))))))))) [32,35,36,37,38,39,40,41,42,43]) (.cond (.t 44) (.seq (.region [ (oN 45 (.mov (.t 0))),(oN 46 (.mov (.t 3))),(oN 47 (.mov (.t 4))),(oN 48 (.mov (.t 5))),(oN 49 (.idx 1 (.t 47) (.t 48))),(oN 50 (.load false 1 (.t 49))),(oN 51 (.idx 1 (.t 45) (.t 46))),⟨none, .store 1 (.t 51) (.t 50),none⟩] [44,45,46,47,48,49,50,51]) (.region [ (oN 52 (.mov (.t 3))),(oN 53 (.bin .add (.t 52) (.c (.int .i64 1)))),(oN 3 (.mov (.t 53)))] [52,53])) (.skip)))) (.region [ (oN 33 (.mov (.t 5))),(oN 34 (.bin .add (.t 33) (.c (.int .i64 1)))),(oN 5 (.mov (.t 34)))] [33,34,44]))
def zbX:ACode:=.seq (.region [ (oN 54 (.mov (.t 0))),(oN 55 (.mov (.t 3))),(oN 56 (.slice 1 (.t 54) (some (.t 55)) none)),⟨none, .clear 1 [.int .i64 0] (.t 56),none⟩] [4,5,54,55,56]) (.seq (.region [ (oN 57 (.mov (.t 0))),(oN 58 (.mov (.t 3))),(oN 59 (.slice 1 (.t 57) none (some (.t 58)))),(oN 2 (.mov (.t 59)))] [0,3,57,58,59]) (.ret))
def zb1:ACode:=.region [ (oN 14 (.mov (.t 3))),(oN 15 (.bin .add (.t 14) (.c (.int .i64 1)))),(oN 3 (.mov (.t 15)))] [2,14,15,25]
def zbW:ACode:=.seq (.seq (.region [ (oN 10 (.mov (.t 3))),(oN 11 (.mov (.t 0))),(oN 12 (.len (.t 11))),(oN 13 (.bin .lss (.t 10) (.t 12)))] [10,11,12]) (.cond (.t 13) (.skip) (.exit 0))) (.seq (.block 1 (.seq (.draw ( .step (oN 16 (.mov (.t 0))) ( .step (oN 17 (.mov (.t 3))) ( .step (oN 18 (.idx 1 (.t 16) (.t 17))) ( .step (oN 19 (.load false 1 (.t 18))) ( .step (oN 20 (.mov (.t 0))) ( .step (oN 21 (.mov (.t 3))) ( .step (oN 22 (.bin .sub (.t 21) (.c (.int .i64 1)))) ( .step (oN 23 (.idx 1 (.t 20) (.t 22))) ( .step (oN 24 (.load false 1 (.t 23))) ( .step (oN 25 (.bin .eql (.t 19) (.t 24))) ( .done))))))))))) [13,16,17,18,19,20,21,22,23,24]) (.cond (.t 25) (.seq (.region [ (oN 26 (.mov (.t 0))),(oN 27 (.mov (.t 3))),(oN 28 (.slice 1 (.t 26) (some (.t 27)) none)),(oN 4 (.mov (.t 28)))] [25,26,27,28]) (.seq (.seq (.region [ (oN 5 (.mov (.c (.int .i64 1))))] []) (.block 2 (.loop zbY))) (zbX))) (.skip)))) (zb1))
def zb0:ACode:=.seq (.region [ (oN 60 (.mov (.t 0))),(oN 2 (.mov (.t 60)))] [0,3,60]) (.ret)
def zcE:ACode:=.seq (.region [ (oN 2 (.mknil 1))] [2]) (.seq (.seq (.region [ (oN 6 (.mov (.t 0))),(oN 7 (.len (.t 6))),(oN 8 (.bin .lss (.t 7) (.c (.int .i64 2))))] [6,7]) (.cond (.t 8) (.seq (.region [ (oN 9 (.mov (.t 0))),(oN 2 (.mov (.t 9)))] [0,8,9]) (.ret)) (.skip))) (.seq (.seq (.region [ (oN 3 (.mov (.c (.int .i64 1))))] [2,8]) (.block 0 (.loop zbW))) (zb0)))
def zaT:List ARet:=[.tmp 2]
theorem zgi:zV Tryz.prog zbE (qRo [])=some (zcE.strip,zaT,61):=by kernel_rfl
def zjG:ACode:=.seq (.seq (.region [ (oN 41 (.mov (.t 5))),(oN 42 (.fldaddr 4 1 (.t 2))),(oN 43 (.load false 1 (.t 42))),(oN 44 (.len (.t 43))),(oN 45 (.bin .lss (.t 41) (.t 44)))] [41,42,43,44]) (.cond (.t 45) (.skip) (.exit 0))) (.seq (.block 1 (.seq (.draw ( .step (oN 48 (.fldaddr 4 1 (.t 2))) ( .step (oN 49 (.load false 1 (.t 48))) ( .step (oN 50 (.mov (.t 5))) ( .step (oN 51 (.idx 5 (.t 49) (.t 50))) ( .step (oN 52 (.load true 5 (.t 51))) ( .step (oN 53 (.fldaddr 4 1 (.t 3))) ( .step (oN 54 (.load false 1 (.t 53))) ( .step (oN 55 (.mov (.t 5))) ( .step (oN 56 (.idx 5 (.t 54) (.t 55))) ( .step (oN 57 (.load true 5 (.t 56))) ( .step (oN 58 (.callq zi8 [(.t 52),(.t 57)])) ( .step (oN 59 (.un .not (.t 58))) ( .done))))))))))))) [45,48,49,50,51,52,53,54,55,56,57,58]) (.cond (.t 59) (.seq (.region [ (oN 4 (.mov (.c (.bool false))))] [2,3,5,59]) (.ret)) (.skip)))) (.region [ (oN 46 (.mov (.t 5))),(oN 47 (.bin .add (.t 46) (.c (.int .i64 1)))),(oN 5 (.mov (.t 47)))] [4,46,47,59]))
def zjB:ACode:=.seq (.region [ (oN 4 (.mov (.c (.bool true))))] [2,3,5]) (.ret)
def zoh:ACode:=.seq (.region [ (oN 2 (.rbox (.t 0))),(oN 3 (.rbox (.t 1))),(oN 4 (.mov (.c (.bool false))))] [0,1,4]) (.seq (.seq (.region [ (oN 6 (.fldaddr 0 1 (.t 2))),(oN 7 (.load false 1 (.t 6))),(oN 8 (.fldaddr 0 1 (.t 3))),(oN 9 (.load false 1 (.t 8))),(oN 10 (.bin .neq (.t 7) (.t 9))),(oN 11 (.mov (.t 10))),(oG 12 11 false (.fldaddr 1 1 (.t 2))),(oG 13 11 false (.load false 1 (.t 12))),(oG 14 11 false (.fldaddr 1 1 (.t 3))),(oG 15 11 false (.load false 1 (.t 14))),(oG 16 11 false (.bin .neq (.t 13) (.t 15))),(oN 17 (.pick (.t 11) (.c (.bool true)) (.t 16))),(oN 18 (.mov (.t 17))),(oG 19 18 false (.fldaddr 2 1 (.t 2))),(oG 20 18 false (.load false 1 (.t 19))),(oG 21 18 false (.fldaddr 2 1 (.t 3))),(oG 22 18 false (.load false 1 (.t 21))),(oG 23 18 false (.bin .neq (.t 20) (.t 22))),(oN 24 (.pick (.t 18) (.c (.bool true)) (.t 23))),(oN 25 (.mov (.t 24))),(oG 26 25 false (.fldaddr 3 1 (.t 2))),(oG 27 25 false (.load false 1 (.t 26))),(oG 28 25 false (.fldaddr 3 1 (.t 3))),(oG 29 25 false (.load false 1 (.t 28))),(oG 30 25 false (.bin .neq (.t 27) (.t 29))),(oN 31 (.pick (.t 25) (.c (.bool true)) (.t 30))),(oN 32 (.mov (.t 31))),(oG 33 32 false (.fldaddr 4 1 (.t 2))),(oG 34 32 false (.load false 1 (.t 33))),(oG 35 32 false (.len (.t 34))),(oG 36 32 false (.fldaddr 4 1 (.t 3))),(oG 37 32 false (.load false 1 (.t 36))),(oG 38 32 false (.len (.t 37))),(oG 39 32 false (.bin .neq (.t 35) (.t 38))),(oN 40 (.pick (.t 32) (.c (.bool true)) (.t 39)))] [6,7,8,9,10,11,12,13,14,15,16,17,18,19,20,21,22,23,24,25,26,27,28,29,30,31,32,33,34,35,36,37,38,39]) (.cond (.t 40) (.seq (.region [ (oN 4 (.mov (.c (.bool false))))] [2,3,40]) (.ret)) (.skip))) (.seq (.seq (.region [ (oN 5 (.mov (.c (.int .i64 0))))] [4,40]) (.block 0 (.loop zjG))) (zjB)))
def zcc:List ARet:=[.tmp 4]
theorem ztn:zV Tryz.prog zi8 (qRo [2,3])=some (zoh.strip,zcc,60):=by kernel_rfl
def zhI:ACode:=.seq (.region [ (oN 1 (.rbox (.t 0))),(oN 2 (.mov (.c (.bool false))))] [0,2]) (.seq (.region [ (oN 3 (.fldaddr 0 1 (.t 1))),(oN 4 (.load false 1 (.t 3))),(oN 5 (.bin .geq (.t 4) (.c (.int .i64 6)))),(oN 6 (.mov (.t 5))),(oG 7 6 true (.fldaddr 0 1 (.t 1))),(oG 8 6 true (.load false 1 (.t 7))),(oG 9 6 true (.bin .leq (.t 8) (.c (.int .i64 10)))),(oN 10 (.pick (.t 6) (.t 9) (.c (.bool false)))),(oN 2 (.mov (.t 10)))] [1,3,4,5,6,7,8,9,10]) (.ret))
def zen:List ARet:=[.tmp 2]
theorem zmb:zV Tryz.prog zcj (qRo [1])=some (zhI.strip,zen,11):=by kernel_rfl
def zaN:ACode:=.seq (.region [ (oN 4 (.mov (.c (.bool false))))] [4]) (.seq (.region [ (oN 5 (.mov (.t 0))),(oN 6 (.mov (.t 1))),(oN 7 (.call zaq [(.t 5),(.t 6)])),(oN 8 (.bin .geq (.t 7) (.c (.int .i64 0)))),(oN 4 (.mov (.t 8)))] [0,1,5,6,7,8]) (.ret))
def zaQ:List ARet:=[.tmp 4]
theorem zb4:zV Tryz.prog zab (qRo [])=some (zaN.strip,zaQ,9):=by kernel_rfl
def zbG:ACode:=.seq (.region [ (oN 4 (.mov (.c (.bool false))))] [4]) (.seq (.region [ (oN 5 (.mov (.t 0))),(oN 6 (.mov (.t 1))),(oN 7 (.call zbk [(.t 5),(.t 6)])),(oN 8 (.bin .geq (.t 7) (.c (.int .i64 0)))),(oN 4 (.mov (.t 8)))] [0,1,5,6,7,8]) (.ret))
def zbH:List ARet:=[.tmp 4]
theorem zeb:zV Tryz.prog za3 (qRo [])=some (zbG.strip,zbH,9):=by kernel_rfl
def zjw:ACode:=.seq (.region [ (oN 3 (.mov (.c (.bool false))))] [3]) (.seq (.region [ (oN 4 (.mov (.t 0))),(oN 5 (.bin .lss (.t 4) (.c (.int .i64 0)))),(oN 6 (.mov (.t 5))),(oG 7 6 false (.mov (.t 0))),(oG 8 6 false (.fldaddr 1 1 (.t 1))),(oG 9 6 false (.load false 1 (.t 8))),(oG 10 6 false (.len (.t 9))),(oG 11 6 false (.bin .geq (.t 7) (.t 10))),(oN 12 (.pick (.t 6) (.c (.bool true)) (.t 11))),(oN 3 (.mov (.t 12)))] [0,1,4,5,6,7,8,9,10,11,12]) (.ret))
def zd1:List ARet:=[.tmp 3]
theorem zoy:zV Tryz.prog zeQ (qRo [])=some (zjw.strip,zd1,13):=by kernel_rfl
def zgR:ACode:=.seq (.region [ (oN 2 (.mov (.c (.int .i64 0))))] [2]) (.seq (.seq (.region [ (oN 3 (.mov (.t 0)))] [0]) (.block 0 (.seq (.seq (.region [ (oN 5 (.bin .eql (.t 3) (.c (.int .i64 1)))),(oN 4 (.mov (.t 5)))] [5]) (.cond (.t 4) (.skip) (.seq (.region [ (oN 6 (.bin .eql (.t 3) (.c (.int .i64 4)))),(oN 4 (.mov (.t 6)))] [6]) (.cond (.t 4) (.skip) (.seq (.region [ (oN 7 (.bin .eql (.t 3) (.c (.int .i64 7)))),(oN 4 (.mov (.t 7)))] [7]) (.cond (.t 4) (.skip) (.region [ (oN 8 (.bin .eql (.t 3) (.c (.int .i64 8)))),(oN 4 (.mov (.t 8)))] [8]))))))) (.cond (.t 4) (.seq (.region [ (oN 2 (.mov (.c (.int .i64 1))))] [3,4]) (.ret)) (.seq (.region [ (oN 10 (.bin .eql (.t 3) (.c (.int .i64 2)))),(oN 9 (.mov (.t 10)))] [4,10]) (.cond (.t 9) (.seq (.region [ (oN 2 (.mov (.c (.int .i64 2))))] [3,9]) (.ret)) (.seq (.seq (.region [ (oN 12 (.bin .eql (.t 3) (.c (.int .i64 3)))),(oN 11 (.mov (.t 12)))] [9,12]) (.cond (.t 11) (.skip) (.seq (.region [ (oN 13 (.bin .eql (.t 3) (.c (.int .i64 5)))),(oN 11 (.mov (.t 13)))] [13]) (.cond (.t 11) (.skip) (.seq (.region [ (oN 14 (.bin .eql (.t 3) (.c (.int .i64 6)))),(oN 11 (.mov (.t 14)))] [14]) (.cond (.t 11) (.skip) (.seq (.region [ (oN 15 (.bin .eql (.t 3) (.c (.int .i64 9)))),(oN 11 (.mov (.t 15)))] [15]) (.cond (.t 11) (.skip) (.region [ (oN 16 (.bin .eql (.t 3) (.c (.int .i64 10)))),(oN 11 (.mov (.t 16)))] [3,16]))))))))) (.cond (.t 11) (.seq (.region [ (oN 2 (.mov (.c (.int .i64 0))))] [3,11]) (.ret)) (.skip))))))))) (.seq (.region [ (oN 2 (.mov (.c (.int .i64 (-1)))))] [3,11]) (.ret)))
def zR:List ARet:=[.tmp 2]
theorem zlv:zV Tryz.prog zeq (qRo [])=some (zgR.strip,zR,17):=by kernel_rfl
def zio:ACode:=.seq (.region [ (oN 1 (.rbox (.t 0))),(oN 2 (.mov (.c (.int .i64 0))))] [0,2]) (.seq (.block 0 (.seq (.region [ (oN 4 (.load true 5 (.t 1))),(oN 5 (.call zf4 [(.t 4),(.c (.int .i64 64))])),(oN 6 (.un .not (.t 5))),(oN 3 (.mov (.t 6)))] [4,5,6]) (.cond (.t 3) (.seq (.region [ (oN 2 (.mov (.c (.int .i64 20))))] [1,3]) (.ret)) (.seq (.region [ (oN 8 (.load true 5 (.t 1))),(oN 9 (.call zav [(.t 8)])),(oN 10 (.un .not (.t 9))),(oN 7 (.mov (.t 10)))] [1,3,8,9,10]) (.cond (.t 7) (.seq (.region [ (oN 2 (.mov (.c (.int .i64 2))))] [7]) (.ret)) (.skip)))))) (.seq (.region [ (oN 2 (.mov (.c (.int .i64 0))))] [7]) (.ret)))
def zdv:List ARet:=[.tmp 2]
theorem zmO:zV Tryz.prog zgn (qRo [1])=some (zio.strip,zdv,11):=by kernel_rfl
def zaV:ACode:=.seq (.region [ (oN 1 (.rbox (.t 0))),(oN 2 (.mov (.c (.bool false))))] [0,2]) (.seq (.region [ (oN 3 (.alloc [.int .i64 0, .int .i64 0, .int .i64 0, .int .i64 0, .int .i64 0, .int .u32 0, .nilsl, .nilsl]))] []) (.seq (.region [ (oN 4 (.mov (.c (.int .i64 0))))] []) (.seq (.seq (.region [ (oN 5 (.fldaddr 0 1 (.t 1))),(oN 6 (.load false 1 (.t 5)))] [5]) (.block 0 (.seq (.seq (.region [ (oN 8 (.bin .eql (.t 6) (.c (.int .i64 1)))),(oN 7 (.mov (.t 8)))] [8]) (.cond (.t 7) (.skip) (.region [ (oN 9 (.bin .eql (.t 6) (.c (.int .i64 3)))),(oN 7 (.mov (.t 9)))] [9]))) (.cond (.t 7) (.seq (.region [ (oN 10 (.fldaddr 1 1 (.t 1))),(oN 11 (.load false 1 (.t 10))),(oN 12 (.fldaddr 1 1 (.t 3))),⟨none, .store 1 (.t 12) (.t 11),none⟩] [6,7,10,11,12]) (.seq (.region [ (oN 13 (.fldaddr 1 1 (.t 1))),(oN 14 (.load false 1 (.t 13))),(oN 15 (.call zeW [(.t 14)])),(oN 16 (.un .not (.t 15)))] [13,14,15]) (.cond (.t 16) (.seq (.region [ (oN 2 (.mov (.c (.bool false))))] [1,3,4,16]) (.ret)) (.skip)))) (.seq (.region [ (oN 18 (.bin .eql (.t 6) (.c (.int .i64 2)))),(oN 17 (.mov (.t 18)))] [7,18]) (.cond (.t 17) (.seq (.region [ (oN 19 (.fldaddr 2 1 (.t 1))),(oN 20 (.load false 1 (.t 19))),(oN 21 (.fldaddr 2 1 (.t 3))),⟨none, .store 1 (.t 21) (.t 20),none⟩] [6,17,19,20,21]) (.seq (.region [ (oN 22 (.fldaddr 2 1 (.t 1))),(oN 23 (.load false 1 (.t 22))),(oN 24 (.call zg6 [(.t 23)])),(oN 25 (.un .not (.t 24)))] [22,23,24]) (.cond (.t 25) (.seq (.region [ (oN 2 (.mov (.c (.bool false))))] [1,3,4,25]) (.ret)) (.skip)))) (.seq (.region [ (oN 27 (.bin .eql (.t 6) (.c (.int .i64 5)))),(oN 26 (.mov (.t 27)))] [17,27]) (.cond (.t 26) (.region [ (oN 28 (.fldaddr 5 1 (.t 1))),(oN 29 (.load false 1 (.t 28))),(oN 30 (.fldaddr 5 1 (.t 3))),⟨none, .store 1 (.t 30) (.t 29),none⟩] [6,26,28,29,30]) (.seq (.region [ (oN 32 (.bin .eql (.t 6) (.c (.int .i64 6)))),(oN 31 (.mov (.t 32)))] [26,32]) (.cond (.t 31) (.region [ (oN 33 (.fldaddr 3 1 (.t 1))),(oN 34 (.load false 1 (.t 33))),(oN 35 (.fldaddr 3 1 (.t 3))),⟨none, .store 1 (.t 35) (.t 34),none⟩] [6,31,33,34,35]) (.seq (.region [ (oN 37 (.bin .eql (.t 6) (.c (.int .i64 7)))),(oN 36 (.mov (.t 37)))] [31,37]) (.cond (.t 36) (.draw ( .step (oN 38 (.fldaddr 3 1 (.t 1))) ( .step (oN 39 (.load false 1 (.t 38))) ( .step (oN 40 (.fldaddr 4 1 (.t 1))) ( .step (oN 42 (.fldaddr 3 1 (.t 3))) ( .alt (oN 41 (.load false 1 (.t 40))) ( .alt ⟨none, .store 1 (.t 42) (.t 39),none⟩ ( .step (oN 43 (.fldaddr 4 1 (.t 3))) ( .alt ⟨none, .store 1 (.t 43) (.t 41),none⟩ ( .done) ( .stop))) ( .stop)) ( .alt ⟨none, .store 1 (.t 42) (.t 39),none⟩ ( .step (oN 41 (.load false 1 (.t 40))) ( .step (oN 43 (.fldaddr 4 1 (.t 3))) ( .alt ⟨none, .store 1 (.t 43) (.t 41),none⟩ ( .done) ( .stop)))) ( .stop))))))) [6,36,38,39,40,41,42,43]) (.seq (.region [ (oN 45 (.bin .eql (.t 6) (.c (.int .i64 8)))),(oN 44 (.mov (.t 45)))] [6,36,45]) (.cond (.t 44) (.seq (.region [ (oN 46 (.fldaddr 7 1 (.t 1))),(oN 47 (.load false 1 (.t 46))),(oN 48 (.len (.t 47))),(oN 4 (.mov (.t 48)))] [44,46,47,48]) (.seq (.region [ (oN 49 (.mov (.t 4))),(oN 50 (.bin .lss (.t 49) (.c (.int .i64 1)))),(oN 51 (.mov (.t 50))),(oG 52 51 false (.mov (.t 4))),(oG 53 51 false (.bin .gtr (.t 52) (.c (.int .i64 64)))),(oN 54 (.pick (.t 51) (.c (.bool true)) (.t 53)))] [49,50,51,52,53]) (.cond (.t 54) (.seq (.region [ (oN 2 (.mov (.c (.bool false))))] [1,3,4,54]) (.ret)) (.skip)))) (.skip))))))))))))))) (.seq (.region [ (oN 55 (.fldaddr 1 1 (.t 1))),(oN 56 (.load false 1 (.t 55))),(oN 57 (.fldaddr 1 1 (.t 3))),(oN 58 (.load false 1 (.t 57))),(oN 59 (.bin .eql (.t 56) (.t 58))),(oN 60 (.mov (.t 59))),(oG 61 60 true (.fldaddr 2 1 (.t 1))),(oG 62 60 true (.load false 1 (.t 61))),(oG 63 60 true (.fldaddr 2 1 (.t 3))),(oG 64 60 true (.load false 1 (.t 63))),(oG 65 60 true (.bin .eql (.t 62) (.t 64))),(oN 66 (.pick (.t 60) (.t 65) (.c (.bool false)))),(oN 67 (.mov (.t 66))),(oG 68 67 true (.fldaddr 5 1 (.t 1))),(oG 69 67 true (.load false 1 (.t 68))),(oG 70 67 true (.fldaddr 5 1 (.t 3))),(oG 71 67 true (.load false 1 (.t 70))),(oG 72 67 true (.bin .eql (.t 69) (.t 71))),(oN 73 (.pick (.t 67) (.t 72) (.c (.bool false)))),(oN 74 (.mov (.t 73))),(oG 75 74 true (.fldaddr 3 1 (.t 1))),(oG 76 74 true (.load false 1 (.t 75))),(oG 77 74 true (.fldaddr 3 1 (.t 3))),(oG 78 74 true (.load false 1 (.t 77))),(oG 79 74 true (.bin .eql (.t 76) (.t 78))),(oN 80 (.pick (.t 74) (.t 79) (.c (.bool false)))),(oN 81 (.mov (.t 80))),(oG 82 81 true (.fldaddr 4 1 (.t 1))),(oG 83 81 true (.load false 1 (.t 82))),(oG 84 81 true (.fldaddr 4 1 (.t 3))),(oG 85 81 true (.load false 1 (.t 84))),(oG 86 81 true (.bin .eql (.t 83) (.t 85))),(oN 87 (.pick (.t 81) (.t 86) (.c (.bool false)))),(oN 88 (.mov (.t 87))),(oG 89 88 true (.fldaddr 7 1 (.t 1))),(oG 90 88 true (.load false 1 (.t 89))),(oG 91 88 true (.len (.t 90))),(oG 92 88 true (.mov (.t 4))),(oG 93 88 true (.bin .eql (.t 91) (.t 92))),(oN 94 (.pick (.t 88) (.t 93) (.c (.bool false)))),(oN 2 (.mov (.t 94)))] [1,3,4,16,25,44,54,55,56,57,58,59,60,61,62,63,64,65,66,67,68,69,70,71,72,73,74,75,76,77,78,79,80,81,82,83,84,85,86,87,88,89,90,91,92,93,94]) (.ret)))))
def zd:List ARet:=[.tmp 2]
theorem za9:zV Tryz.prog zaG (qRo [1])=some (zaV.strip,zd,95):=by kernel_rfl
def zaO:ACode:=.seq (.region [ (oN 9 (.bin .lss (.t 8) (.t 7)))] []) (.seq (.cond (.t 9) (.skip) (.exit 0)) (.seq (.block 1 (.seq (.region [ (oN 10 (.mov (.t 8))),(oN 5 (.mov (.t 10)))] [9,10]) (.seq (.region [ (oN 11 (.mov (.t 1))),(oN 12 (.mov (.t 0))),(oN 13 (.mov (.t 5))),(oN 14 (.idx 5 (.t 12) (.t 13))),(oN 15 (.load true 5 (.t 14))),(oN 16 (.callv (.t 11) [(.t 15)]))] [11,12,13,14,15]) (.cond (.t 16) (.seq (.region [ (oN 17 (.mov (.t 5))),(oN 4 (.mov (.t 17)))] [0,1,5,7,8,16,17]) (.ret)) (.skip))))) (.region [ (oN 18 (.bin .add (.t 8) (.c (.int .i64 1)))),(oN 8 (.mov (.t 18)))] [4,5,16,18])))
def zaR:ACode:=.seq (.region [ (oN 4 (.mov (.c (.int .i64 (-1)))))] [0,1,7,8]) (.ret)
def za4:ACode:=.seq (.region [ (oN 4 (.mov (.c (.int .i64 0))))] [4]) (.seq (.seq (.region [ (oN 6 (.mov (.t 0))),(oN 7 (.len (.t 6))),(oN 8 (.mov (.c (.int .i64 0))))] [6]) (.block 0 (.loop zaO))) (zaR))
def zah:List ARet:=[.tmp 4]
theorem zcy:zV Tryz.prog zao (qRo [])=some (za4.strip,zah,19):=by kernel_rfl
def zhM:ACode:=.seq (.seq (.region [ (oN 8 (.mov (.t 5))),(oN 9 (.fldaddr 4 1 (.t 2))),(oN 10 (.load false 1 (.t 9))),(oN 11 (.len (.t 10))),(oN 12 (.bin .lss (.t 8) (.t 11)))] [8,9,10,11]) (.cond (.t 12) (.skip) (.exit 0))) (.seq (.block 1 (.seq (.region [ (oN 15 (.fldaddr 4 1 (.t 2))),(oN 16 (.load false 1 (.t 15))),(oN 17 (.mov (.t 5))),(oN 18 (.idx 5 (.t 16) (.t 17))),(oN 19 (.load true 5 (.t 18))),(oN 20 (.mov (.t 1))),(oN 21 (.bin .sub (.t 20) (.c (.int .i64 1)))),(oN 22 (.call zfX [(.t 19),(.t 21)]))] [12,15,16,17,18,19,20,21]) (.cond (.t 22) (.seq (.region [ (oN 4 (.mov (.c (.bool true))))] [1,2,5,22]) (.ret)) (.skip)))) (.region [ (oN 13 (.mov (.t 5))),(oN 14 (.bin .add (.t 13) (.c (.int .i64 1)))),(oN 5 (.mov (.t 14)))] [4,13,14,22]))
def zhO:ACode:=.seq (.region [ (oN 4 (.mov (.c (.bool false))))] [1,2,5]) (.ret)
def zj8:ACode:=.seq (.region [ (oN 2 (.rbox (.t 0))),(oN 4 (.mov (.c (.bool false))))] [0,4]) (.seq (.seq (.region [ (oN 6 (.mov (.t 1))),(oN 7 (.bin .lss (.t 6) (.c (.int .i64 1))))] [6]) (.cond (.t 7) (.seq (.region [ (oN 4 (.mov (.c (.bool true))))] [1,2,7]) (.ret)) (.skip))) (.seq (.seq (.region [ (oN 5 (.mov (.c (.int .i64 0))))] [4,7]) (.block 0 (.loop zhM))) (zhO)))
def ze2:List ARet:=[.tmp 4]
theorem zpI:zV Tryz.prog zfX (qRo [2])=some (zj8.strip,ze2,23):=by kernel_rfl
def zf6:ACode:=.seq (.seq (.region [ (oN 4 (.mov (.t 3))),(oN 5 (.fldaddr 4 1 (.t 1))),(oN 6 (.load false 1 (.t 5))),(oN 7 (.len (.t 6))),(oN 8 (.bin .lss (.t 4) (.t 7)))] [4,5,6,7]) (.cond (.t 8) (.skip) (.exit 0))) (.seq (.block 1 (.seq (.region [ (oN 11 (.fldaddr 4 1 (.t 1))),(oN 12 (.load false 1 (.t 11))),(oN 13 (.mov (.t 3))),(oN 14 (.idx 5 (.t 12) (.t 13))),(oN 15 (.load true 5 (.t 14))),(oN 16 (.call zd5 [(.t 15)])),(oN 17 (.un .not (.t 16)))] [8,11,12,13,14,15,16]) (.cond (.t 17) (.seq (.region [ (oN 2 (.mov (.c (.bool false))))] [1,3,17]) (.ret)) (.skip)))) (.region [ (oN 9 (.mov (.t 3))),(oN 10 (.bin .add (.t 9) (.c (.int .i64 1)))),(oN 3 (.mov (.t 10)))] [2,9,10,17]))
def zI:ACode:=.seq (.seq (.region [ (oN 18 (.fldaddr 0 1 (.t 1))),(oN 19 (.load false 1 (.t 18)))] [3,18]) (.block 2 (.seq (.region [ (oN 21 (.bin .eql (.t 19) (.c (.int .i64 1)))),(oN 20 (.mov (.t 21)))] [21]) (.cond (.t 20) (.seq (.region [ (oN 22 (.fldaddr 2 1 (.t 1))),(oN 23 (.load false 1 (.t 22))),(oN 24 (.bin .eql (.t 23) (.c (.int .i64 0)))),(oN 25 (.mov (.t 24))),(oG 26 25 true (.fldaddr 3 1 (.t 1))),(oG 27 25 true (.load false 1 (.t 26))),(oG 28 25 true (.bin .eql (.t 27) (.c (.int .i64 0)))),(oN 29 (.pick (.t 25) (.t 28) (.c (.bool false)))),(oN 30 (.mov (.t 29))),(oG 31 30 true (.fldaddr 4 1 (.t 1))),(oG 32 30 true (.load false 1 (.t 31))),(oG 33 30 true (.len (.t 32))),(oG 34 30 true (.bin .eql (.t 33) (.c (.int .i64 0)))),(oN 35 (.pick (.t 30) (.t 34) (.c (.bool false)))),(oN 2 (.mov (.t 35)))] [1,19,20,22,23,24,25,26,27,28,29,30,31,32,33,34,35]) (.ret)) (.seq (.region [ (oN 37 (.bin .eql (.t 19) (.c (.int .i64 2)))),(oN 36 (.mov (.t 37)))] [20,37]) (.cond (.t 36) (.seq (.region [ (oN 38 (.fldaddr 1 1 (.t 1))),(oN 39 (.load false 1 (.t 38))),(oN 40 (.bin .eql (.t 39) (.c (.int .u32 0)))),(oN 41 (.mov (.t 40))),(oG 42 41 true (.fldaddr 3 1 (.t 1))),(oG 43 41 true (.load false 1 (.t 42))),(oG 44 41 true (.bin .eql (.t 43) (.c (.int .i64 0)))),(oN 45 (.pick (.t 41) (.t 44) (.c (.bool false)))),(oN 46 (.mov (.t 45))),(oG 47 46 true (.fldaddr 4 1 (.t 1))),(oG 48 46 true (.load false 1 (.t 47))),(oG 49 46 true (.len (.t 48))),(oG 50 46 true (.bin .eql (.t 49) (.c (.int .i64 0)))),(oN 51 (.pick (.t 46) (.t 50) (.c (.bool false)))),(oN 52 (.mov (.t 51))),(oG 53 52 true (.fldaddr 2 1 (.t 1))),(oG 54 52 true (.load false 1 (.t 53))),(oG 55 52 true (.call zhd [(.t 54)])),(oN 56 (.pick (.t 52) (.t 55) (.c (.bool false)))),(oN 2 (.mov (.t 56)))] [1,19,36,38,39,40,41,42,43,44,45,46,47,48,49,50,51,52,53,54,55,56]) (.ret)) (.seq (.seq (.region [ (oN 58 (.bin .eql (.t 19) (.c (.int .i64 16)))),(oN 57 (.mov (.t 58)))] [36,58]) (.cond (.t 57) (.skip) (.region [ (oN 59 (.bin .eql (.t 19) (.c (.int .i64 17)))),(oN 57 (.mov (.t 59)))] [59]))) (.cond (.t 57) (.seq (.region [ (oN 60 (.fldaddr 1 1 (.t 1))),(oN 61 (.load false 1 (.t 60))),(oN 62 (.bin .eql (.t 61) (.c (.int .u32 0)))),(oN 63 (.mov (.t 62))),(oG 64 63 true (.fldaddr 2 1 (.t 1))),(oG 65 63 true (.load false 1 (.t 64))),(oG 66 63 true (.bin .eql (.t 65) (.c (.int .i64 0)))),(oN 67 (.pick (.t 63) (.t 66) (.c (.bool false)))),(oN 68 (.mov (.t 67))),(oG 69 68 true (.fldaddr 3 1 (.t 1))),(oG 70 68 true (.load false 1 (.t 69))),(oG 71 68 true (.bin .eql (.t 70) (.c (.int .i64 0)))),(oN 72 (.pick (.t 68) (.t 71) (.c (.bool false)))),(oN 73 (.mov (.t 72))),(oG 74 73 true (.fldaddr 4 1 (.t 1))),(oG 75 73 true (.load false 1 (.t 74))),(oG 76 73 true (.len (.t 75))),(oG 77 73 true (.bin .eql (.t 76) (.c (.int .i64 1)))),(oN 78 (.pick (.t 73) (.t 77) (.c (.bool false)))),(oN 2 (.mov (.t 78)))] [1,19,57,60,61,62,63,64,65,66,67,68,69,70,71,72,73,74,75,76,77,78]) (.ret)) (.seq (.region [ (oN 80 (.bin .eql (.t 19) (.c (.int .i64 18)))),(oN 79 (.mov (.t 80)))] [57,80]) (.cond (.t 79) (.seq (.region [ (oN 81 (.fldaddr 1 1 (.t 1))),(oN 82 (.load false 1 (.t 81))),(oN 83 (.bin .eql (.t 82) (.c (.int .u32 0)))),(oN 84 (.mov (.t 83))),(oG 85 84 true (.fldaddr 2 1 (.t 1))),(oG 86 84 true (.load false 1 (.t 85))),(oG 87 84 true (.bin .eql (.t 86) (.c (.int .i64 0)))),(oN 88 (.pick (.t 84) (.t 87) (.c (.bool false)))),(oN 89 (.mov (.t 88))),(oG 90 89 true (.fldaddr 3 1 (.t 1))),(oG 91 89 true (.load false 1 (.t 90))),(oG 92 89 true (.bin .eql (.t 91) (.c (.int .i64 1)))),(oG 93 89 true (.mov (.t 92))),(oG 94 93 false (.fldaddr 3 1 (.t 1))),(oG 95 93 false (.load false 1 (.t 94))),(oG 96 93 false (.bin .eql (.t 95) (.c (.int .i64 2)))),(oG 97 89 true (.pick (.t 93) (.c (.bool true)) (.t 96))),(oG 98 89 true (.mov (.t 97))),(oG 99 98 false (.fldaddr 3 1 (.t 1))),(oG 100 98 false (.load false 1 (.t 99))),(oG 101 98 false (.bin .eql (.t 100) (.c (.int .i64 4)))),(oG 102 89 true (.pick (.t 98) (.c (.bool true)) (.t 101))),(oN 103 (.pick (.t 89) (.t 102) (.c (.bool false)))),(oN 104 (.mov (.t 103))),(oG 105 104 true (.fldaddr 4 1 (.t 1))),(oG 106 104 true (.load false 1 (.t 105))),(oG 107 104 true (.len (.t 106))),(oG 108 104 true (.bin .eql (.t 107) (.c (.int .i64 1)))),(oN 109 (.pick (.t 104) (.t 108) (.c (.bool false)))),(oN 2 (.mov (.t 109)))] [1,19,79,81,82,83,84,85,86,87,88,89,90,91,92,93,94,95,96,97,98,99,100,101,102,103,104,105,106,107,108,109]) (.ret)) (.seq (.region [ (oN 111 (.bin .eql (.t 19) (.c (.int .i64 19)))),(oN 110 (.mov (.t 111)))] [19,79,111]) (.cond (.t 110) (.seq (.region [ (oN 112 (.fldaddr 1 1 (.t 1))),(oN 113 (.load false 1 (.t 112))),(oN 114 (.bin .eql (.t 113) (.c (.int .u32 0)))),(oN 115 (.mov (.t 114))),(oG 116 115 true (.fldaddr 2 1 (.t 1))),(oG 117 115 true (.load false 1 (.t 116))),(oG 118 115 true (.bin .eql (.t 117) (.c (.int .i64 0)))),(oN 119 (.pick (.t 115) (.t 118) (.c (.bool false)))),(oN 120 (.mov (.t 119))),(oG 121 120 true (.fldaddr 3 1 (.t 1))),(oG 122 120 true (.load false 1 (.t 121))),(oG 123 120 true (.bin .eql (.t 122) (.c (.int .i64 1)))),(oG 124 120 true (.mov (.t 123))),(oG 125 124 false (.fldaddr 3 1 (.t 1))),(oG 126 124 false (.load false 1 (.t 125))),(oG 127 124 false (.bin .eql (.t 126) (.c (.int .i64 2)))),(oG 128 120 true (.pick (.t 124) (.c (.bool true)) (.t 127))),(oN 129 (.pick (.t 120) (.t 128) (.c (.bool false)))),(oN 130 (.mov (.t 129))),(oG 131 130 true (.fldaddr 4 1 (.t 1))),(oG 132 130 true (.load false 1 (.t 131))),(oG 133 130 true (.len (.t 132))),(oG 134 130 true (.bin .eql (.t 133) (.c (.int .i64 1)))),(oN 135 (.pick (.t 130) (.t 134) (.c (.bool false)))),(oN 2 (.mov (.t 135)))] [1,110,112,113,114,115,116,117,118,119,120,121,122,123,124,125,126,127,128,129,130,131,132,133,134,135]) (.ret)) (.skip))))))))))))) (.seq (.region [ (oN 136 (.fldaddr 0 1 (.t 1))),(oN 137 (.load false 1 (.t 136))),(oN 138 (.bin .geq (.t 137) (.c (.int .i64 3)))),(oN 139 (.mov (.t 138))),(oG 140 139 true (.fldaddr 0 1 (.t 1))),(oG 141 139 true (.load false 1 (.t 140))),(oG 142 139 true (.bin .leq (.t 141) (.c (.int .i64 15)))),(oN 143 (.pick (.t 139) (.t 142) (.c (.bool false)))),(oN 144 (.mov (.t 143))),(oG 145 144 true (.fldaddr 1 1 (.t 1))),(oG 146 144 true (.load false 1 (.t 145))),(oG 147 144 true (.bin .eql (.t 146) (.c (.int .u32 0)))),(oN 148 (.pick (.t 144) (.t 147) (.c (.bool false)))),(oN 149 (.mov (.t 148))),(oG 150 149 true (.fldaddr 2 1 (.t 1))),(oG 151 149 true (.load false 1 (.t 150))),(oG 152 149 true (.bin .eql (.t 151) (.c (.int .i64 0)))),(oN 153 (.pick (.t 149) (.t 152) (.c (.bool false)))),(oN 154 (.mov (.t 153))),(oG 155 154 true (.fldaddr 3 1 (.t 1))),(oG 156 154 true (.load false 1 (.t 155))),(oG 157 154 true (.bin .eql (.t 156) (.c (.int .i64 0)))),(oN 158 (.pick (.t 154) (.t 157) (.c (.bool false)))),(oN 159 (.mov (.t 158))),(oG 160 159 true (.fldaddr 4 1 (.t 1))),(oG 161 159 true (.load false 1 (.t 160))),(oG 162 159 true (.len (.t 161))),(oG 163 159 true (.bin .eql (.t 162) (.c (.int .i64 2)))),(oN 164 (.pick (.t 159) (.t 163) (.c (.bool false)))),(oN 2 (.mov (.t 164)))] [1,110,136,137,138,139,140,141,142,143,144,145,146,147,148,149,150,151,152,153,154,155,156,157,158,159,160,161,162,163,164]) (.ret))
def ziG:ACode:=.seq (.region [ (oN 1 (.rbox (.t 0))),(oN 2 (.mov (.c (.bool false))))] [0,2]) (.seq (.seq (.region [ (oN 3 (.mov (.c (.int .i64 0))))] []) (.block 0 (.loop zf6))) (zI))
def ze:List ARet:=[.tmp 2]
theorem znL:zV Tryz.prog zd5 (qRo [1])=some (ziG.strip,ze,165):=by kernel_rfl
def zaM:ACode:=.seq (.region [ (oN 9 (.bin .lss (.t 8) (.t 7)))] []) (.seq (.cond (.t 9) (.skip) (.exit 0)) (.seq (.block 1 (.seq (.region [ (oN 10 (.mov (.t 8))),(oN 5 (.mov (.t 10)))] [9,10]) (.seq (.region [ (oN 11 (.mov (.t 1))),(oN 12 (.mov (.t 0))),(oN 13 (.mov (.t 5))),(oN 14 (.idx 8 (.t 12) (.t 13))),(oN 15 (.load true 8 (.t 14))),(oN 16 (.callv (.t 11) [(.t 15)]))] [11,12,13,14,15]) (.cond (.t 16) (.seq (.region [ (oN 17 (.mov (.t 5))),(oN 4 (.mov (.t 17)))] [0,1,5,7,8,16,17]) (.ret)) (.skip))))) (.region [ (oN 18 (.bin .add (.t 8) (.c (.int .i64 1)))),(oN 8 (.mov (.t 18)))] [4,5,16,18])))
def zaP:ACode:=.seq (.region [ (oN 4 (.mov (.c (.int .i64 (-1)))))] [0,1,7,8]) (.ret)
def za5:ACode:=.seq (.region [ (oN 4 (.mov (.c (.int .i64 0))))] [4]) (.seq (.seq (.region [ (oN 6 (.mov (.t 0))),(oN 7 (.len (.t 6))),(oN 8 (.mov (.c (.int .i64 0))))] [6]) (.block 0 (.loop zaM))) (zaP))
def zaf:List ARet:=[.tmp 4]
theorem zcw:zV Tryz.prog zaq (qRo [])=some (za5.strip,zaf,19):=by kernel_rfl
def zbK:ACode:=.seq (.region [ (oN 9 (.bin .lss (.t 8) (.t 7)))] []) (.seq (.cond (.t 9) (.skip) (.exit 0)) (.seq (.block 1 (.seq (.region [ (oN 10 (.mov (.t 8))),(oN 5 (.mov (.t 10)))] [9,10]) (.seq (.region [ (oN 11 (.mov (.t 1))),(oN 12 (.mov (.t 0))),(oN 13 (.mov (.t 5))),(oN 14 (.idx 1 (.t 12) (.t 13))),(oN 15 (.load false 1 (.t 14))),(oN 16 (.callv (.t 11) [(.t 15)]))] [11,12,13,14,15]) (.cond (.t 16) (.seq (.region [ (oN 17 (.mov (.t 5))),(oN 4 (.mov (.t 17)))] [0,1,5,7,8,16,17]) (.ret)) (.skip))))) (.region [ (oN 18 (.bin .add (.t 8) (.c (.int .i64 1)))),(oN 8 (.mov (.t 18)))] [4,5,16,18])))
def zbJ:ACode:=.seq (.region [ (oN 4 (.mov (.c (.int .i64 (-1)))))] [0,1,7,8]) (.ret)
def zb8:ACode:=.seq (.region [ (oN 4 (.mov (.c (.int .i64 0))))] [4]) (.seq (.seq (.region [ (oN 6 (.mov (.t 0))),(oN 7 (.len (.t 6))),(oN 8 (.mov (.c (.int .i64 0))))] [6]) (.block 0 (.loop zbK))) (zbJ))
def zbc:List ARet:=[.tmp 4]
theorem ze5:zV Tryz.prog zbk (qRo [])=some (zb8.strip,zbc,19):=by kernel_rfl
def zkB:ACode:=.seq (.region [ (oN 2 (.rbox (.t 0))),(oN 3 (.rbox (.t 1))),(oN 4 (.mov (.c (.bool false))))] [0,1,4]) (.seq (.region [ (oN 5 (.load false 1 (.t 3))),(oN 6 (.bin .geq (.t 5) (.c (.int .i64 1)))),(oN 7 (.mov (.t 6))),(oG 8 7 true (.fldaddr 4 1 (.t 2))),(oG 9 7 true (.load false 1 (.t 8))),(oG 10 7 true (.mkfn (.func zgm) [(.t 3)])),(oG 11 7 true (.call zG [(.t 9),(.t 10)])),(oG 12 7 true (.un .not (.t 11))),(oN 13 (.pick (.t 7) (.t 12) (.c (.bool false)))),(oN 4 (.mov (.t 13)))] [2,3,5,6,7,8,9,10,11,12,13]) (.ret))
def zgZ:List ARet:=[.tmp 4]
theorem zp6:zV Tryz.prog zf4 (qRo [2,3])=some (zkB.strip,zgZ,14):=by kernel_rfl
def zaD:ACode:=.seq (.region [ (oN 1 (.rbox (.t 0))),(oN 2 (.mov (.c (.bool false))))] [0,2]) (.seq (.region [ (oN 5 (.fldaddr 0 1 (.t 1))),(oN 6 (.load false 1 (.t 5))),(oN 7 (.build [.int .i64 0, .int .u32 0, .int .i64 0, .int .i64 0, .nilsl] [(0,1,(.t 6))])),(oN 3 (.alloc [.int .i64 0, .int .u32 0, .int .i64 0, .int .i64 0, .nilsl])),⟨none, .store 5 (.t 3) (.t 7),none⟩] [5,6,7]) (.seq (.region [ (oN 4 (.mov (.c (.int .i64 0))))] []) (.seq (.block 0 (.seq (.region [ (oN 9 (.fldaddr 0 1 (.t 1))),(oN 10 (.load false 1 (.t 9))),(oN 11 (.bin .eql (.t 10) (.c (.int .i64 1)))),(oN 8 (.mov (.t 11)))] [9,10,11]) (.cond (.t 8) (.region [ (oN 12 (.fldaddr 1 1 (.t 1))),(oN 13 (.load false 1 (.t 12))),(oN 14 (.fldaddr 1 1 (.t 3))),⟨none, .store 1 (.t 14) (.t 13),none⟩] [8,12,13,14]) (.seq (.region [ (oN 16 (.fldaddr 0 1 (.t 1))),(oN 17 (.load false 1 (.t 16))),(oN 18 (.bin .eql (.t 17) (.c (.int .i64 2)))),(oN 19 (.mov (.t 18))),(oG 20 19 true (.fldaddr 2 1 (.t 1))),(oG 21 19 true (.load false 1 (.t 20))),(oG 22 19 true (.call zeW [(.t 21)])),(oN 23 (.pick (.t 19) (.t 22) (.c (.bool false)))),(oN 15 (.mov (.t 23)))] [8,16,17,18,19,20,21,22,23]) (.cond (.t 15) (.region [ (oN 24 (.fldaddr 2 1 (.t 1))),(oN 25 (.load false 1 (.t 24))),(oN 26 (.fldaddr 2 1 (.t 3))),⟨none, .store 1 (.t 26) (.t 25),none⟩] [15,24,25,26]) (.seq (.region [ (oN 28 (.fldaddr 0 1 (.t 1))),(oN 29 (.load false 1 (.t 28))),(oN 30 (.bin .geq (.t 29) (.c (.int .i64 3)))),(oN 31 (.mov (.t 30))),(oG 32 31 true (.fldaddr 0 1 (.t 1))),(oG 33 31 true (.load false 1 (.t 32))),(oG 34 31 true (.bin .leq (.t 33) (.c (.int .i64 15)))),(oN 35 (.pick (.t 31) (.t 34) (.c (.bool false)))),(oN 27 (.mov (.t 35)))] [4,15,28,29,30,31,32,33,34,35]) (.cond (.t 27) (.region [ (oN 4 (.mov (.c (.int .i64 2))))] [27]) (.seq (.seq (.region [ (oN 37 (.fldaddr 0 1 (.t 1))),(oN 38 (.load false 1 (.t 37))),(oN 39 (.bin .eql (.t 38) (.c (.int .i64 16)))),(oN 36 (.mov (.t 39)))] [27,37,38,39]) (.cond (.t 36) (.skip) (.region [ (oN 40 (.fldaddr 0 1 (.t 1))),(oN 41 (.load false 1 (.t 40))),(oN 42 (.bin .eql (.t 41) (.c (.int .i64 17)))),(oN 36 (.mov (.t 42)))] [40,41,42]))) (.cond (.t 36) (.region [ (oN 4 (.mov (.c (.int .i64 1))))] [36]) (.seq (.seq (.region [ (oN 44 (.fldaddr 0 1 (.t 1))),(oN 45 (.load false 1 (.t 44))),(oN 46 (.bin .eql (.t 45) (.c (.int .i64 18)))),(oN 47 (.mov (.t 46))),(oG 48 47 true (.fldaddr 3 1 (.t 1))),(oG 49 47 true (.load false 1 (.t 48))),(oG 50 47 true (.call zg6 [(.t 49)])),(oN 51 (.pick (.t 47) (.t 50) (.c (.bool false)))),(oN 43 (.mov (.t 51)))] [36,44,45,46,47,48,49,50,51]) (.cond (.t 43) (.skip) (.region [ (oN 52 (.fldaddr 0 1 (.t 1))),(oN 53 (.load false 1 (.t 52))),(oN 54 (.bin .eql (.t 53) (.c (.int .i64 19)))),(oN 55 (.mov (.t 54))),(oG 56 55 true (.fldaddr 3 1 (.t 1))),(oG 57 55 true (.load false 1 (.t 56))),(oG 58 55 true (.bin .eql (.t 57) (.c (.int .i64 1)))),(oG 59 55 true (.mov (.t 58))),(oG 60 59 false (.fldaddr 3 1 (.t 1))),(oG 61 59 false (.load false 1 (.t 60))),(oG 62 59 false (.bin .eql (.t 61) (.c (.int .i64 2)))),(oG 63 55 true (.pick (.t 59) (.c (.bool true)) (.t 62))),(oN 64 (.pick (.t 55) (.t 63) (.c (.bool false)))),(oN 43 (.mov (.t 64)))] [52,53,54,55,56,57,58,59,60,61,62,63,64]))) (.cond (.t 43) (.seq (.region [ (oN 4 (.mov (.c (.int .i64 1))))] [43]) (.region [ (oN 65 (.fldaddr 3 1 (.t 1))),(oN 66 (.load false 1 (.t 65))),(oN 67 (.fldaddr 3 1 (.t 3))),⟨none, .store 1 (.t 67) (.t 66),none⟩] [65,66,67])) (.seq (.region [ (oN 2 (.mov (.c (.bool false))))] [1,3,43]) (.ret))))))))))))) (.seq (.region [ (oN 68 (.fldaddr 1 1 (.t 1))),(oN 69 (.load false 1 (.t 68))),(oN 70 (.fldaddr 1 1 (.t 3))),(oN 71 (.load false 1 (.t 70))),(oN 72 (.bin .eql (.t 69) (.t 71))),(oN 73 (.mov (.t 72))),(oG 74 73 true (.fldaddr 2 1 (.t 1))),(oG 75 73 true (.load false 1 (.t 74))),(oG 76 73 true (.fldaddr 2 1 (.t 3))),(oG 77 73 true (.load false 1 (.t 76))),(oG 78 73 true (.bin .eql (.t 75) (.t 77))),(oN 79 (.pick (.t 73) (.t 78) (.c (.bool false)))),(oN 80 (.mov (.t 79))),(oG 81 80 true (.fldaddr 3 1 (.t 1))),(oG 82 80 true (.load false 1 (.t 81))),(oG 83 80 true (.fldaddr 3 1 (.t 3))),(oG 84 80 true (.load false 1 (.t 83))),(oG 85 80 true (.bin .eql (.t 82) (.t 84))),(oN 86 (.pick (.t 80) (.t 85) (.c (.bool false)))),(oN 87 (.mov (.t 86))),(oG 88 87 true (.fldaddr 4 1 (.t 1))),(oG 89 87 true (.load false 1 (.t 88))),(oG 90 87 true (.len (.t 89))),(oG 91 87 true (.mov (.t 4))),(oG 92 87 true (.bin .eql (.t 90) (.t 91))),(oN 93 (.pick (.t 87) (.t 92) (.c (.bool false)))),(oN 94 (.mov (.t 93))),(oG 95 94 true (.fldaddr 4 1 (.t 1))),(oG 96 94 true (.load false 1 (.t 95))),(oG 97 94 true (.call zG [(.t 96),(.c (.fn (.func z7) []))])),(oG 98 94 true (.un .not (.t 97))),(oN 99 (.pick (.t 94) (.t 98) (.c (.bool false)))),(oN 2 (.mov (.t 99)))] [1,3,4,68,69,70,71,72,73,74,75,76,77,78,79,80,81,82,83,84,85,86,87,88,89,90,91,92,93,94,95,96,97,98,99]) (.ret)))))
def zn:List ARet:=[.tmp 2]
theorem zaX:zV Tryz.prog zav (qRo [1])=some (zaD.strip,zn,100):=by kernel_rfl
def zjv:ACode:=.seq (.region [ (oN 2 (.mov (.c (.bool false))))] [2]) (.seq (.region [ (oN 3 (.mov (.t 0))),(oN 4 (.bin .geq (.t 3) (.c (.int .i64 0)))),(oN 5 (.mov (.t 4))),(oG 6 5 true (.mov (.t 0))),(oG 7 5 true (.bin .lss (.t 6) (.c (.int .i64 65536)))),(oN 8 (.pick (.t 5) (.t 7) (.c (.bool false)))),(oN 2 (.mov (.t 8)))] [0,3,4,5,6,7,8]) (.ret))
def zgt:List ARet:=[.tmp 2]
theorem zot:zV Tryz.prog zeW (qRo [])=some (zjv.strip,zgt,9):=by kernel_rfl
def zlK:ACode:=.seq (.region [ (oN 2 (.mov (.c (.bool false))))] [2]) (.seq (.region [ (oN 3 (.mov (.t 0))),(oN 4 (.bin .eql (.t 3) (.c (.int .i64 1)))),(oN 5 (.mov (.t 4))),(oG 6 5 false (.mov (.t 0))),(oG 7 5 false (.bin .eql (.t 6) (.c (.int .i64 2)))),(oN 8 (.pick (.t 5) (.c (.bool true)) (.t 7))),(oN 9 (.mov (.t 8))),(oG 10 9 false (.mov (.t 0))),(oG 11 9 false (.bin .eql (.t 10) (.c (.int .i64 4)))),(oN 12 (.pick (.t 9) (.c (.bool true)) (.t 11))),(oN 2 (.mov (.t 12)))] [0,3,4,5,6,7,8,9,10,11,12]) (.ret))
def zfR:List ARet:=[.tmp 2]
theorem zrE:zV Tryz.prog zg6 (qRo [])=some (zlK.strip,zfR,13):=by kernel_rfl
def zic:ACode:=.seq (.region [ (oN 2 (.rbox (.t 0))),(oN 3 (.mov (.c (.bool false))))] [0,3]) (.seq (.region [ (oN 4 (.load true 5 (.t 2))),(oN 5 (.load false 1 (.t 1))),(oN 6 (.bin .sub (.t 5) (.c (.int .i64 1)))),(oN 7 (.call zf4 [(.t 4),(.t 6)])),(oN 8 (.un .not (.t 7))),(oN 3 (.mov (.t 8)))] [1,2,4,5,6,7,8]) (.ret))
def ziv:List ARet:=[.tmp 3]
theorem znE:zV Tryz.prog zgm (qRo [2])=some (zic.strip,ziv,9):=by kernel_rfl
def zjz:ACode:=.seq (.region [ (oN 1 (.rbox (.t 0))),(oN 2 (.mov (.c (.bool false))))] [0,2]) (.seq (.region [ (oN 3 (.load true 5 (.t 1))),(oN 4 (.call zav [(.t 3)])),(oN 5 (.un .not (.t 4))),(oN 2 (.mov (.t 5)))] [1,3,4,5]) (.ret))
def zjD:List ARet:=[.tmp 2]
theorem zop:zV Tryz.prog z7 (qRo [1])=some (zjz.strip,zjD,6):=by kernel_rfl
end Go.Ab
namespace Go.Ab
end Go.Ab
namespace Go.Ab
open Go.RowKit Go.Proofs
theorem fldP {off n m:Nat} {c:List AV} {H:AH} {nx:Nat}:zbz off n (encP m c) H nx=⟨off+n≤m,True, .iptr n (fun j=>c.getD (off+j) .undef),H,nx⟩:=rfl
theorem zls {n m:Nat} {c:List AV} {H:AH} {nx:Nat}:zco true n (encP m c) H nx=⟨n≤m,(AV.agg (tab (fun j=>c.getD j .undef) n 0)).wf, .agg (tab (fun j=>c.getD j .undef) n 0),H,nx⟩:=rfl
theorem zax:∀ {e:Ex},(encX e).length=5
 | .mk _ _ _ _ _=>by rw [zbu];rfl
theorem zZ:∀ {e:Ex},[(encX e).getD 0 .undef,(encX e).getD 1 .undef,(encX e).getD 2 .undef,(encX e).getD 3 .undef,(encX e).getD 4 .undef]=encX e
 | .mk _ _ _ _ _=>by rw [zbu];rfl
theorem zb:∀ {e:Ex},zK (encX e)=true
 | .mk _ _ _ _ _=>by rw [zbu];rfl
theorem zl:∀ {e:Nd},zK (encN e)=true
 | .mk _ _ _=>by rw [zwP];rfl
theorem flX {r:List AV} (h:r.all AV.flat=true):∀ {e:Ex},(AV.agg (encX e)::r).all AV.flat=true
 | .mk _ _ _ _ _=>by rw [zbu,List.all_cons,h];rfl
mutual
def zaU:Ex→Nat
 | .mk _ _ _ _ l=>1+zC l
def zC:List Ex→Nat
 | []=>0
 | e::l=>zaU e+zC l
end
theorem zbB:∀ {l:List Ex} {y:Ex},y∈l→zaU y≤zC l
 | [],y,hy=>by simp at hy
 |
  a::l,y,hy=>by
  rw [zC]
  rcases List.mem_cons.1 hy with rfl | hy
  · omega
  · have:=zbB hy;omega
mutual
theorem zfK:∀ (e:Ex) (m n:Int),-1≤n → -1≤zf3 e m n∧(zf3 e m n≤n)
 |
  .mk _ _ _ _ l,m,n,h=>by
  rw [zf3]
  split
  · omega
  ·
   rename_i hc
   have:=zkb l (m - 1) (n - 1) (by omega)
   omega
theorem zkb:∀ (l:List Ex) (m n:Int),-1≤n → -1≤zbe l m n∧zbe l m n≤n
 | [],m,n,h=>by rw [zbe];omega
 |
  e::l,m,n,h=>by
  rw [zbe]
  split
  · omega
  ·
   have h1:=zfK e m n h
   have:=zkb l m _ h1.1
   omega
end
theorem zlG {l:List Ex} {i:Nat} {m n:Int} (h:i < l.length) (hn:0≤n):zbe (l.drop i) m n=zbe (l.drop (i+1)) m (zf3 l[i] m n):=by
 rw [List.drop_eq_getElem_cons h,zbe,if_neg (by omega)]
theorem zjR {l:List Ex} {m n:Int} (hn:n < 0):zbe l m n=n:=by
 cases l with
 | nil=>rw [zbe]
 | cons a l=>rw [zbe,if_pos hn]
theorem zvl {l:List Int} {H:AH}:zdx 1 (encL 1 (fun n=>[.int .i64 n]) l) H=some (l.map cI):=zv3 (fun _ _=>rfl)
theorem zAn {H H2:AH} {σ:Nat→Nat→Option (Nat × Nat × Nat)} {D:Nat→Nat→Prop} {t:Bool}:∀ (e:Ex) (j:Nat),j < 5→Vw H H2 σ D t ((encX e).getD j .undef) ((encX e).getD j .undef)
 |
  .mk _ _ _ _ _,j,hj=>by
  rw [zbu]
  match j,hj with
  | 0,_=>exact .int _ _ _
  | 1,_=>exact .int _ _ _
  | 2,_=>exact .int _ _ _
  | 3,_=>exact .int _ _ _
  | 4,_=>exact .sl _ _ _ _
theorem zzW {H H2:AH} {σ:Nat→Nat→Option (Nat × Nat × Nat)} {D:Nat→Nat→Prop} {t:Bool}:∀ (e:Nd) (j:Nat),j < 5→Vw H H2 σ D t ((encN e).getD j .undef) ((encN e).getD j .undef)
 |
  .mk _ _ _,j,hj=>by
  rw [zwP]
  match j,hj with
  | 0,_=>exact .int _ _ _
  | 1,_=>exact .int _ _ _
  | 2,_=>exact .int _ _ _
  | 3,_=>exact .sl _ _ _ _
  | 4,_=>exact .sl _ _ _ _
theorem zz6 {H H2:AH} {σ:Nat→Nat→Option (Nat × Nat × Nat)} {D:Nat→Nat→Prop} {t:Bool} {r q g:Nat} {l:List Nd} (hD:D r q) (hg:H.get r q=some (.row 5 (l.map encN) g)) (hb:l.length≤big):Vw H H2 σ D t (.own r q g 0 l.length) (encL 5 encN l) :=
 zih hD hg hb fun a _ j hj=>zzW a j hj
theorem zuU {H H2:AH} {σ:Nat→Nat→Option (Nat × Nat × Nat)} {D:Nat→Nat→Prop} {t:Bool} {r q g:Nat} {l:List Ex} (hD:D r q) (hg:H.get r q=some (.row 5 (l.map encX) g)) (hb:l.length≤big):Vw H H2 σ D t (.own r q g 0 l.length) (encL 5 encX l) :=
 zih hD hg hb fun a _ j hj=>zAn a j hj
theorem zqY {α:Type} {A B:List α} {i:Nat} (h:A.take i=B.take i) (ha:i < A.length) (hb:i < B.length) (he:A[i]=B[i]):A.take (i+1)=B.take (i+1):=by
 rw [List.take_add_one,List.take_add_one,h,List.getElem?_eq_getElem ha,List.getElem?_eq_getElem hb,he]
theorem zas {n:Nat} {c:List AV} (h:zK c=true):zB (List.replicate n c):=fun d hd=>by rw [List.eq_of_mem_replicate hd];exact h
def zqg (v:Int):Bool:=decide (0≤v∧v < 65536)
def zpO (w:Int):Bool:=decide (w=1∨w=2∨w=4)
theorem zgk (v:Int):zz Tryz.prog zeW [.int .i64 v] (·=.bool (zqg v)):=by
 refine fn_x zot rfl ?_
 unfold zjv zqg
 by_cases h1:0≤v
 ·
  (repeat first | simp (disch:=try exact dis1) only [evD,Nat.reduceBEq,Nat.reduceAdd,Nat.reduceLeDiff,dT,zgt] | with_reducible intro _ | ((with_reducible apply And.intro);omega))
  exact ⟨_, .bool _ _,congrArg _ (decide_eq_decide.2 (by omega))⟩
 ·
  (repeat first | simp (disch:=try exact dis1) only [evD,Nat.reduceBEq,Nat.reduceAdd,Nat.reduceLeDiff,dF,zgt] | with_reducible intro _ | ((with_reducible apply And.intro);omega))
  exact ⟨_, .bool _ _,rfl⟩
theorem zlP (v:Int):zz Tryz.prog zhd [.int .i64 v] (·=.bool (zqg v)):=by
 refine fn_x zrD rfl ?_
 unfold zlZ zqg
 by_cases h1:0≤v
 ·
  (repeat first | simp (disch:=try exact dis1) only [evD,Nat.reduceBEq,Nat.reduceAdd,Nat.reduceLeDiff,dT,ziP] | with_reducible intro _ | ((with_reducible apply And.intro);omega))
  exact ⟨_, .bool _ _,congrArg _ (decide_eq_decide.2 (by omega))⟩
 ·
  (repeat first | simp (disch:=try exact dis1) only [evD,Nat.reduceBEq,Nat.reduceAdd,Nat.reduceLeDiff,dF,ziP] | with_reducible intro _ | ((with_reducible apply And.intro);omega))
  exact ⟨_, .bool _ _,rfl⟩
theorem zlW (w:Int):zz Tryz.prog zg6 [.int .i64 w] (·=.bool (zpO w)):=by
 refine fn_x zrE rfl ?_
 unfold zlK zpO
 by_cases h1:w=1
 ·
  (repeat first | simp (disch:=try exact dis1) only [evD,Nat.reduceBEq,Nat.reduceAdd,Nat.reduceLeDiff,dT,zfR] | with_reducible intro _ | ((with_reducible apply And.intro);omega))
  exact ⟨_, .bool _ _,rfl⟩
 by_cases h2:w=2
 ·
  (repeat first | simp (disch:=try exact dis1) only [evD,Nat.reduceBEq,Nat.reduceAdd,Nat.reduceLeDiff,dF,dT,zfR] | with_reducible intro _ | ((with_reducible apply And.intro);omega))
  exact ⟨_, .bool _ _,rfl⟩
 ·
  (repeat first | simp (disch:=try exact dis1) only [evD,Nat.reduceBEq,Nat.reduceAdd,Nat.reduceLeDiff,dF,zfR] | with_reducible intro _ | ((with_reducible apply And.intro);omega))
  exact ⟨_, .bool _ _,congrArg _ (decide_eq_decide.2 (by omega))⟩
mutual
def zm5:Ex→Int→Bool
 | .mk _ _ _ _ l,m=>if m < 1 then true else zj9 l (m - 1)
def zj9:List Ex→Int→Bool
 | [],_=>false
 | e::l,m=>zm5 e m||zj9 l m
end
theorem zoK:∀ (l:List Ex) (m:Int),zj9 l m=l.any (zm5 · m)
 | [],m=>by rw [zj9];rfl
 | e::l,m=>by rw [zj9,zoK l m];rfl
def zq (op n v w:Int) (k:Nat):Bool:=decide ((op=1∧v=0∧w=0∧k=0)∨(op=2∧n=0∧w=0∧k=0∧0≤v∧v < 65536)∨((op=16∨op=17)∧n=0∧v=0∧w=0∧k=1)∨(op=18∧n=0∧v=0∧(w=1∨w=2∨w=4)∧k=1)∨(op=19∧n=0∧v=0∧(w=1∨w=2)∧k=1)∨(3≤op∧op≤15∧n=0∧v=0∧w=0∧k=2))
mutual
def zfG:Ex→Bool
 | .mk op n v w l=>zc6 l&&zq op n v w l.length
def zc6:List Ex→Bool
 | []=>true
 | e::l=>zfG e&&zc6 l
end
theorem zcq:∀ (l:List Ex),zc6 l=l.all zfG
 | []=>by rw [zc6];rfl
 | e::l=>by rw [zc6,zcq l];rfl
def zjt (e:Ex):Int:=if zm5 e 64=true then 20 else if zfG e=true then 0 else 2
theorem zpD:∀ (k:Nat) (e:Ex) (m:Int),zaU e≤k → -1000≤m→m≤1000→zz Tryz.prog zfX [.agg (encX e), .int .i64 m] (·=.bool (zm5 e m)):=by
 intro k
 induction k with
 | zero=>intro e m h;obtain ⟨_,_,_,_,l⟩:=e;rw [zaU] at h;omega
 | succ k ih =>
 intro e m hk hm1 hm2
 obtain ⟨op,nn,v,w,l⟩:=e
 refine fn_x zpI rfl ?_
 unfold zj8
 have hB:=hBig
 rw [zaU] at hk
 rw [zbu,zm5]
 by_cases h1:m < 1
 ·
  rw [if_pos h1]
  (repeat first | simp (disch:=try exact dis1) only [evD,Nat.reduceBEq,Nat.reduceAdd,Nat.reduceLeDiff,fldP,dT,ze2] | with_reducible intro _ | ((with_reducible apply And.intro);omega))
  exact ⟨_, .bool _ _,rfl⟩
 ·
  rw [if_neg h1]
  (repeat first | simp (disch:=try exact dis1) only [evD,Nat.reduceBEq,Nat.reduceAdd,Nat.reduceLeDiff,fldP,dF] | with_reducible intro _ | ((with_reducible apply And.intro);omega))
  generalize hR:zj9 l (m - 1)=R
  refine zg (fun i:Nat=>([(1, .int .i64 m),(2,encP 5 [.int .i64 op, .int .u32 nn, .int .i64 v, .int .i64 w,encL 5 encX l]),(5, .int .i64 i)],[])) 0 (fun i=>i≤l.length∧zj9 (l.drop i) (m - 1)=R) (fun i=>l.length - i) 0 ⟨Nat.zero_le _,hR⟩ (Ent.keep rfl fin5) ?_
  rintro i ⟨hi,hgo⟩ wf
  unfold zhM
  by_cases hl:i < l.length
  ·
   have hm:=zbB (List.getElem_mem hl)
   rw [List.drop_eq_getElem_cons hl,zj9] at hgo
   (repeat first | simp (disch:=try exact dis1) only [evD,Nat.reduceBEq,Nat.reduceAdd,Nat.reduceLeDiff,fldP,dT,zp hl,zax,zZ] | with_reducible intro _ | ((with_reducible apply And.intro);omega))
   refine zi (zk (ih l[i] (m - 1) (by omega) (by omega) (by omega)) (flX rfl)) ?_
   cases hd:zm5 l[i] (m - 1) with
   |
    true =>
    rw [hd,Bool.true_or] at hgo
    subst hgo
    (repeat first | simp (disch:=try exact dis1) only [evD,Nat.reduceBEq,Nat.reduceAdd,Nat.reduceLeDiff,ze2] | with_reducible intro _ | ((with_reducible apply And.intro);omega))
    exact ⟨_, .bool _ _,rfl⟩
   |
    false =>
    rw [hd,Bool.false_or] at hgo
    (repeat first | simp (disch:=try exact dis1) only [evD,Nat.reduceBEq,Nat.reduceAdd,Nat.reduceLeDiff] | with_reducible intro _ | ((with_reducible apply And.intro);omega))
    exact ⟨i+1,⟨by omega,hgo⟩,by omega,Ent.keep rfl fin5⟩
  ·
   rw [List.drop_of_length_le (by omega),zj9] at hgo
   subst hgo
   (repeat first | simp (disch:=try exact dis1) only [evD,Nat.reduceBEq,Nat.reduceAdd,Nat.reduceLeDiff,fldP,dF] | with_reducible intro _ | ((with_reducible apply And.intro);omega))
   unfold zhO
   (repeat first | simp (disch:=try exact dis1) only [evD,Nat.reduceBEq,Nat.reduceAdd,Nat.reduceLeDiff,ze2] | with_reducible intro _ | ((with_reducible apply And.intro);omega))
   exact ⟨_, .bool _ _,rfl⟩
theorem zmC {op nn v w i:Int} {l:List Ex} (h:op=1) :
  wpX Tryz.prog 0 zI (retK ze fun v' H' x=>∃ a,Frz H' v' a∧a=.bool (zq op nn v w l.length)) [(1,encP 5 [.int .i64 op, .int .u32 nn, .int .i64 v, .int .i64 w,encL 5 encX l]),(3, .int .i64 i),(8, .bool false)] [] 0:=by
 unfold zI
 have hB:=hBig
 (repeat first | simp (disch:=try exact dis1) only [evD,Nat.reduceBEq,Nat.reduceAdd,Nat.reduceLeDiff,dT,dF,fldP,ze] | with_reducible intro _ | ((with_reducible apply And.intro);omega))
 by_cases q0:v=0<;>(repeat first | simp (disch:=try exact dis1) only [evD,Nat.reduceBEq,Nat.reduceAdd,Nat.reduceLeDiff,dT,dF,fldP,ze] | with_reducible intro _ | ((with_reducible apply And.intro);omega))
 case neg =>
  unfold zq;exact ⟨_, .bool _ _,congrArg AV.bool lb⟩
 by_cases q1:w=0<;>(repeat first | simp (disch:=try exact dis1) only [evD,Nat.reduceBEq,Nat.reduceAdd,Nat.reduceLeDiff,dT,dF,fldP,ze] | with_reducible intro _ | ((with_reducible apply And.intro);omega))
 case neg =>
  unfold zq;exact ⟨_, .bool _ _,congrArg AV.bool lb⟩
 unfold zq;exact ⟨_, .bool _ _,congrArg AV.bool lb⟩
theorem zom {op nn v w i:Int} {l:List Ex} (h:op=2) :
  wpX Tryz.prog 0 zI (retK ze fun v' H' x=>∃ a,Frz H' v' a∧a=.bool (zq op nn v w l.length)) [(1,encP 5 [.int .i64 op, .int .u32 nn, .int .i64 v, .int .i64 w,encL 5 encX l]),(3, .int .i64 i),(8, .bool false)] [] 0:=by
 unfold zI
 have hB:=hBig
 (repeat first | simp (disch:=try exact dis1) only [evD,Nat.reduceBEq,Nat.reduceAdd,Nat.reduceLeDiff,dT,dF,fldP,ze] | with_reducible intro _ | ((with_reducible apply And.intro);omega))
 by_cases q0:nn=0<;>(repeat first | simp (disch:=try exact dis1) only [evD,Nat.reduceBEq,Nat.reduceAdd,Nat.reduceLeDiff,dT,dF,fldP,ze] | with_reducible intro _ | ((with_reducible apply And.intro);omega))
 case neg =>
  unfold zq;exact ⟨_, .bool _ _,congrArg AV.bool lb⟩
 by_cases q1:w=0<;>(repeat first | simp (disch:=try exact dis1) only [evD,Nat.reduceBEq,Nat.reduceAdd,Nat.reduceLeDiff,dT,dF,fldP,ze] | with_reducible intro _ | ((with_reducible apply And.intro);omega))
 case neg =>
  unfold zq;exact ⟨_, .bool _ _,congrArg AV.bool lb⟩
 by_cases q2:l.length=0<;>(repeat first | simp (disch:=try exact dis1) only [evD,Nat.reduceBEq,Nat.reduceAdd,Nat.reduceLeDiff,dT,dF,fldP,ze] | with_reducible intro _ | ((with_reducible apply And.intro);omega))
 case neg =>
  unfold zq;exact ⟨_, .bool _ _,congrArg AV.bool lb⟩
 refine zi (zk (zlP v) rfl) ?_
 unfold zqg
 (repeat first | simp (disch:=try exact dis1) only [evD,Nat.reduceBEq,Nat.reduceAdd,Nat.reduceLeDiff,dT,dF,fldP,ze] | with_reducible intro _ | ((with_reducible apply And.intro);omega))
 unfold zq;exact ⟨_, .bool _ _,congrArg AV.bool lb⟩
theorem zn1 {op nn v w i:Int} {l:List Ex} (h:op=16) :
  wpX Tryz.prog 0 zI (retK ze fun v' H' x=>∃ a,Frz H' v' a∧a=.bool (zq op nn v w l.length)) [(1,encP 5 [.int .i64 op, .int .u32 nn, .int .i64 v, .int .i64 w,encL 5 encX l]),(3, .int .i64 i),(8, .bool false)] [] 0:=by
 unfold zI
 have hB:=hBig
 (repeat first | simp (disch:=try exact dis1) only [evD,Nat.reduceBEq,Nat.reduceAdd,Nat.reduceLeDiff,dT,dF,fldP,ze] | with_reducible intro _ | ((with_reducible apply And.intro);omega))
 by_cases q0:nn=0<;>(repeat first | simp (disch:=try exact dis1) only [evD,Nat.reduceBEq,Nat.reduceAdd,Nat.reduceLeDiff,dT,dF,fldP,ze] | with_reducible intro _ | ((with_reducible apply And.intro);omega))
 case neg =>
  unfold zq;exact ⟨_, .bool _ _,congrArg AV.bool lb⟩
 by_cases q1:v=0<;>(repeat first | simp (disch:=try exact dis1) only [evD,Nat.reduceBEq,Nat.reduceAdd,Nat.reduceLeDiff,dT,dF,fldP,ze] | with_reducible intro _ | ((with_reducible apply And.intro);omega))
 case neg =>
  unfold zq;exact ⟨_, .bool _ _,congrArg AV.bool lb⟩
 by_cases q2:w=0<;>(repeat first | simp (disch:=try exact dis1) only [evD,Nat.reduceBEq,Nat.reduceAdd,Nat.reduceLeDiff,dT,dF,fldP,ze] | with_reducible intro _ | ((with_reducible apply And.intro);omega))
 case neg =>
  unfold zq;exact ⟨_, .bool _ _,congrArg AV.bool lb⟩
 unfold zq;exact ⟨_, .bool _ _,congrArg AV.bool lb⟩
theorem znl {op nn v w i:Int} {l:List Ex} (h:op=17) :
  wpX Tryz.prog 0 zI (retK ze fun v' H' x=>∃ a,Frz H' v' a∧a=.bool (zq op nn v w l.length)) [(1,encP 5 [.int .i64 op, .int .u32 nn, .int .i64 v, .int .i64 w,encL 5 encX l]),(3, .int .i64 i),(8, .bool false)] [] 0:=by
 unfold zI
 have hB:=hBig
 (repeat first | simp (disch:=try exact dis1) only [evD,Nat.reduceBEq,Nat.reduceAdd,Nat.reduceLeDiff,dT,dF,fldP,ze] | with_reducible intro _ | ((with_reducible apply And.intro);omega))
 by_cases q0:nn=0<;>(repeat first | simp (disch:=try exact dis1) only [evD,Nat.reduceBEq,Nat.reduceAdd,Nat.reduceLeDiff,dT,dF,fldP,ze] | with_reducible intro _ | ((with_reducible apply And.intro);omega))
 case neg =>
  unfold zq;exact ⟨_, .bool _ _,congrArg AV.bool lb⟩
 by_cases q1:v=0<;>(repeat first | simp (disch:=try exact dis1) only [evD,Nat.reduceBEq,Nat.reduceAdd,Nat.reduceLeDiff,dT,dF,fldP,ze] | with_reducible intro _ | ((with_reducible apply And.intro);omega))
 case neg =>
  unfold zq;exact ⟨_, .bool _ _,congrArg AV.bool lb⟩
 by_cases q2:w=0<;>(repeat first | simp (disch:=try exact dis1) only [evD,Nat.reduceBEq,Nat.reduceAdd,Nat.reduceLeDiff,dT,dF,fldP,ze] | with_reducible intro _ | ((with_reducible apply And.intro);omega))
 case neg =>
  unfold zq;exact ⟨_, .bool _ _,congrArg AV.bool lb⟩
 unfold zq;exact ⟨_, .bool _ _,congrArg AV.bool lb⟩
theorem zm9 {op nn v w i:Int} {l:List Ex} (h:op=18) :
  wpX Tryz.prog 0 zI (retK ze fun v' H' x=>∃ a,Frz H' v' a∧a=.bool (zq op nn v w l.length)) [(1,encP 5 [.int .i64 op, .int .u32 nn, .int .i64 v, .int .i64 w,encL 5 encX l]),(3, .int .i64 i),(8, .bool false)] [] 0:=by
 unfold zI
 have hB:=hBig
 (repeat first | simp (disch:=try exact dis1) only [evD,Nat.reduceBEq,Nat.reduceAdd,Nat.reduceLeDiff,dT,dF,fldP,ze] | with_reducible intro _ | ((with_reducible apply And.intro);omega))
 by_cases q0:nn=0<;>(repeat first | simp (disch:=try exact dis1) only [evD,Nat.reduceBEq,Nat.reduceAdd,Nat.reduceLeDiff,dT,dF,fldP,ze] | with_reducible intro _ | ((with_reducible apply And.intro);omega))
 case neg =>
  unfold zq;exact ⟨_, .bool _ _,congrArg AV.bool lb⟩
 by_cases q1:v=0<;>(repeat first | simp (disch:=try exact dis1) only [evD,Nat.reduceBEq,Nat.reduceAdd,Nat.reduceLeDiff,dT,dF,fldP,ze] | with_reducible intro _ | ((with_reducible apply And.intro);omega))
 case neg =>
  unfold zq;exact ⟨_, .bool _ _,congrArg AV.bool lb⟩
 by_cases w1:w=1
 case pos =>
  (repeat first | simp (disch:=try exact dis1) only [evD,Nat.reduceBEq,Nat.reduceAdd,Nat.reduceLeDiff,dT,dF,fldP,ze] | with_reducible intro _ | ((with_reducible apply And.intro);omega))
  unfold zq;exact ⟨_, .bool _ _,congrArg AV.bool lb⟩
 (repeat first | simp (disch:=try exact dis1) only [evD,Nat.reduceBEq,Nat.reduceAdd,Nat.reduceLeDiff,dT,dF,fldP,ze] | with_reducible intro _ | ((with_reducible apply And.intro);omega))
 by_cases w2:w=2
 case pos =>
  (repeat first | simp (disch:=try exact dis1) only [evD,Nat.reduceBEq,Nat.reduceAdd,Nat.reduceLeDiff,dT,dF,fldP,ze] | with_reducible intro _ | ((with_reducible apply And.intro);omega))
  unfold zq;exact ⟨_, .bool _ _,congrArg AV.bool lb⟩
 (repeat first | simp (disch:=try exact dis1) only [evD,Nat.reduceBEq,Nat.reduceAdd,Nat.reduceLeDiff,dT,dF,fldP,ze] | with_reducible intro _ | ((with_reducible apply And.intro);omega))
 by_cases w4:w=4
 case pos =>
  (repeat first | simp (disch:=try exact dis1) only [evD,Nat.reduceBEq,Nat.reduceAdd,Nat.reduceLeDiff,dT,dF,fldP,ze] | with_reducible intro _ | ((with_reducible apply And.intro);omega))
  unfold zq;exact ⟨_, .bool _ _,congrArg AV.bool lb⟩
 (repeat first | simp (disch:=try exact dis1) only [evD,Nat.reduceBEq,Nat.reduceAdd,Nat.reduceLeDiff,dT,dF,fldP,ze] | with_reducible intro _ | ((with_reducible apply And.intro);omega))
 unfold zq;exact ⟨_, .bool _ _,congrArg AV.bool lb⟩
theorem znS {op nn v w i:Int} {l:List Ex} (h:op=19) :
  wpX Tryz.prog 0 zI (retK ze fun v' H' x=>∃ a,Frz H' v' a∧a=.bool (zq op nn v w l.length)) [(1,encP 5 [.int .i64 op, .int .u32 nn, .int .i64 v, .int .i64 w,encL 5 encX l]),(3, .int .i64 i),(8, .bool false)] [] 0:=by
 unfold zI
 have hB:=hBig
 (repeat first | simp (disch:=try exact dis1) only [evD,Nat.reduceBEq,Nat.reduceAdd,Nat.reduceLeDiff,dT,dF,fldP,ze] | with_reducible intro _ | ((with_reducible apply And.intro);omega))
 by_cases q0:nn=0<;>(repeat first | simp (disch:=try exact dis1) only [evD,Nat.reduceBEq,Nat.reduceAdd,Nat.reduceLeDiff,dT,dF,fldP,ze] | with_reducible intro _ | ((with_reducible apply And.intro);omega))
 case neg =>
  unfold zq;exact ⟨_, .bool _ _,congrArg AV.bool lb⟩
 by_cases q1:v=0<;>(repeat first | simp (disch:=try exact dis1) only [evD,Nat.reduceBEq,Nat.reduceAdd,Nat.reduceLeDiff,dT,dF,fldP,ze] | with_reducible intro _ | ((with_reducible apply And.intro);omega))
 case neg =>
  unfold zq;exact ⟨_, .bool _ _,congrArg AV.bool lb⟩
 by_cases w1:w=1
 case pos =>
  (repeat first | simp (disch:=try exact dis1) only [evD,Nat.reduceBEq,Nat.reduceAdd,Nat.reduceLeDiff,dT,dF,fldP,ze] | with_reducible intro _ | ((with_reducible apply And.intro);omega))
  unfold zq;exact ⟨_, .bool _ _,congrArg AV.bool lb⟩
 (repeat first | simp (disch:=try exact dis1) only [evD,Nat.reduceBEq,Nat.reduceAdd,Nat.reduceLeDiff,dT,dF,fldP,ze] | with_reducible intro _ | ((with_reducible apply And.intro);omega))
 by_cases w2:w=2
 case pos =>
  (repeat first | simp (disch:=try exact dis1) only [evD,Nat.reduceBEq,Nat.reduceAdd,Nat.reduceLeDiff,dT,dF,fldP,ze] | with_reducible intro _ | ((with_reducible apply And.intro);omega))
  unfold zq;exact ⟨_, .bool _ _,congrArg AV.bool lb⟩
 (repeat first | simp (disch:=try exact dis1) only [evD,Nat.reduceBEq,Nat.reduceAdd,Nat.reduceLeDiff,dT,dF,fldP,ze] | with_reducible intro _ | ((with_reducible apply And.intro);omega))
 unfold zq;exact ⟨_, .bool _ _,congrArg AV.bool lb⟩
theorem zoE {op nn v w i:Int} {l:List Ex} (h1:op≠1) (h2:op≠2) (h16:op≠16) (h17:op≠17) (h18:op≠18) (h19:op≠19) :
  wpX Tryz.prog 0 zI (retK ze fun v' H' x=>∃ a,Frz H' v' a∧a=.bool (zq op nn v w l.length)) [(1,encP 5 [.int .i64 op, .int .u32 nn, .int .i64 v, .int .i64 w,encL 5 encX l]),(3, .int .i64 i),(8, .bool false)] [] 0:=by
 unfold zI
 have hB:=hBig
 (repeat first | simp (disch:=try exact dis1) only [evD,Nat.reduceBEq,Nat.reduceAdd,Nat.reduceLeDiff,dT,dF,fldP,ze] | with_reducible intro _ | ((with_reducible apply And.intro);omega))
 by_cases q0:3≤op<;>(repeat first | simp (disch:=try exact dis1) only [evD,Nat.reduceBEq,Nat.reduceAdd,Nat.reduceLeDiff,dT,dF,fldP,ze] | with_reducible intro _ | ((with_reducible apply And.intro);omega))
 case neg =>
  unfold zq;exact ⟨_, .bool _ _,congrArg AV.bool lb⟩
 by_cases q1:op≤15<;>(repeat first | simp (disch:=try exact dis1) only [evD,Nat.reduceBEq,Nat.reduceAdd,Nat.reduceLeDiff,dT,dF,fldP,ze] | with_reducible intro _ | ((with_reducible apply And.intro);omega))
 case neg =>
  unfold zq;exact ⟨_, .bool _ _,congrArg AV.bool lb⟩
 by_cases q2:nn=0<;>(repeat first | simp (disch:=try exact dis1) only [evD,Nat.reduceBEq,Nat.reduceAdd,Nat.reduceLeDiff,dT,dF,fldP,ze] | with_reducible intro _ | ((with_reducible apply And.intro);omega))
 case neg =>
  unfold zq;exact ⟨_, .bool _ _,congrArg AV.bool lb⟩
 by_cases q3:v=0<;>(repeat first | simp (disch:=try exact dis1) only [evD,Nat.reduceBEq,Nat.reduceAdd,Nat.reduceLeDiff,dT,dF,fldP,ze] | with_reducible intro _ | ((with_reducible apply And.intro);omega))
 case neg =>
  unfold zq;exact ⟨_, .bool _ _,congrArg AV.bool lb⟩
 by_cases q4:w=0<;>(repeat first | simp (disch:=try exact dis1) only [evD,Nat.reduceBEq,Nat.reduceAdd,Nat.reduceLeDiff,dT,dF,fldP,ze] | with_reducible intro _ | ((with_reducible apply And.intro);omega))
 case neg =>
  unfold zq;exact ⟨_, .bool _ _,congrArg AV.bool lb⟩
 unfold zq;exact ⟨_, .bool _ _,congrArg AV.bool lb⟩
theorem znY:∀ (k:Nat) (e:Ex),zaU e≤k→zz Tryz.prog zd5 [.agg (encX e)] (·=.bool (zfG e)):=by
 intro k
 induction k with
 | zero=>intro e h;obtain ⟨_,_,_,_,l⟩:=e;rw [zaU] at h;omega
 | succ k ih =>
 intro e hk
 obtain ⟨op,nn,v,w,l⟩:=e
 refine fn_x znL rfl ?_
 unfold ziG
 have hB:=hBig
 rw [zaU] at hk
 rw [zbu,zfG]
 generalize hR:zc6 l=R
 (repeat first | simp (disch:=try exact dis1) only [evD,Nat.reduceBEq,Nat.reduceAdd,Nat.reduceLeDiff,fldP] | with_reducible intro _ | ((with_reducible apply And.intro);omega))
 refine zg (fun i:Nat=>([(1,encP 5 [.int .i64 op, .int .u32 nn, .int .i64 v, .int .i64 w,encL 5 encX l]),(3, .int .i64 i)],[])) 0 (fun i=>i≤l.length∧zc6 (l.drop i)=R) (fun i=>l.length - i) 0 ⟨Nat.zero_le _,hR⟩ (Ent.keep rfl fin5) ?_
 rintro i ⟨hi,hgo⟩ wf
 unfold zf6
 by_cases hl:i < l.length
 ·
  have hm:=zbB (List.getElem_mem hl)
  rw [List.drop_eq_getElem_cons hl,zc6] at hgo
  (repeat first | simp (disch:=try exact dis1) only [evD,Nat.reduceBEq,Nat.reduceAdd,Nat.reduceLeDiff,fldP,dT,zp hl,zax,zZ] | with_reducible intro _ | ((with_reducible apply And.intro);omega))
  refine zi (zk (ih l[i] (by omega)) (flX rfl)) ?_
  cases hd:zfG l[i] with
  |
   false =>
   rw [hd,Bool.false_and] at hgo
   subst hgo
   (repeat first | simp (disch:=try exact dis1) only [evD,Nat.reduceBEq,Nat.reduceAdd,Nat.reduceLeDiff,ze] | with_reducible intro _ | ((with_reducible apply And.intro);omega))
   exact ⟨_, .bool _ _,rfl⟩
  |
   true =>
   rw [hd,Bool.true_and] at hgo
   (repeat first | simp (disch:=try exact dis1) only [evD,Nat.reduceBEq,Nat.reduceAdd,Nat.reduceLeDiff] | with_reducible intro _ | ((with_reducible apply And.intro);omega))
   exact ⟨i+1,⟨by omega,hgo⟩,by omega,Ent.keep rfl fin5⟩
 ·
  rw [List.drop_of_length_le (by omega),zc6] at hgo
  subst hgo
  (repeat first | simp (disch:=try exact dis1) only [evD,Nat.reduceBEq,Nat.reduceAdd,Nat.reduceLeDiff,fldP,dF,Bool.true_and] | with_reducible intro _ | ((with_reducible apply And.intro);omega))
  by_cases h1:op=1
  · exact zmC h1
  by_cases h2:op=2
  · exact zom h2
  by_cases h16:op=16
  · exact zn1 h16
  by_cases h17:op=17
  · exact znl h17
  by_cases h18:op=18
  · exact zm9 h18
  by_cases h19:op=19
  · exact znS h19
  exact zoE h1 h2 h16 h17 h18 h19
theorem zmn (e:Ex):zz Tryz.prog zfw [.agg (encX e)] (·=.int .i64 (zjt e)):=by
 refine fn_x zmu rfl ?_
 unfold zhu zjt
 have hB:=hBig
 (repeat first | simp (disch:=try exact dis1) only [evD,Nat.reduceBEq,Nat.reduceAdd,Nat.reduceLeDiff,zax,zb,zZ] | with_reducible intro _ | ((with_reducible apply And.intro);omega))
 refine zi (zk (zpD (zaU e) e 64 (Nat.le_refl _) (by omega) (by omega)) (flX rfl)) ?_
 cases zm5 e 64 with
 |
  true =>
  (repeat first | simp (disch:=try exact dis1) only [evD,Nat.reduceBEq,Nat.reduceAdd,Nat.reduceLeDiff,zcL] | with_reducible intro _ | ((with_reducible apply And.intro);omega))
  exact ⟨_, .int _ _ _,rfl⟩
 |
  false =>
  (repeat first | simp (disch:=try exact dis1) only [evD,Nat.reduceBEq,Nat.reduceAdd,Nat.reduceLeDiff,zax,zb,zZ] | with_reducible intro _ | ((with_reducible apply And.intro);omega))
  refine zi (zk (znY (zaU e) e (Nat.le_refl _)) (flX rfl)) ?_
  cases zfG e with
  |
   true =>
   (repeat first | simp (disch:=try exact dis1) only [evD,Nat.reduceBEq,Nat.reduceAdd,Nat.reduceLeDiff,zcL] | with_reducible intro _ | ((with_reducible apply And.intro);omega))
   exact ⟨_, .int _ _ _,rfl⟩
  |
   false =>
   (repeat first | simp (disch:=try exact dis1) only [evD,Nat.reduceBEq,Nat.reduceAdd,Nat.reduceLeDiff,zcL] | with_reducible intro _ | ((with_reducible apply And.intro);omega))
   exact ⟨_, .int _ _ _,rfl⟩
structure PredE (fv:AV) (l:List Ex) (p:Ex→Bool):Prop where
 ex:∃ f caps,fv=.fn (.func f) caps∧zeL Tryz.prog f=true∧zK caps=true∧∀ s∈l,zz Tryz.prog f ([.agg (encX s)]++caps) (·=.bool (p s))
theorem zhr:∀ {l:List AV},zK l=true→l.all AV.flat=true
 | [],_=>rfl
 |
  a::l,h=>by
  simp only [zK,Bool.and_eq_true] at h
  simp only [List.all_cons,Bool.and_eq_true]
  refine ⟨?_,zhr h.2⟩
  cases a<;>first | rfl | exact absurd h.1 (by simp [AV.flat0])
theorem ztQ {fv:AV} {l:List Ex} {p:Ex→Bool} (hp:PredE fv l p) {s:Ex} (hs:s∈l) {H:AH} {nx:Nat} {k:AV→AH→Nat→Prop} (hk:k (.bool (p s)) H nx):zng Tryz.prog fv [.agg (encX s)] H nx k:=by
 obtain ⟨f,caps,rfl,hg,hf,hx⟩:=hp.ex
 rw [zkf]
 refine ⟨hg,zi (zk (hx s hs) ?_) hk⟩
 simp only [List.cons_append,List.nil_append,List.all_cons,Bool.and_eq_true]
 exact ⟨by have:=flX (r:=[]) rfl (e:=s);simpa using this,zhr hf⟩
theorem zcK {fv:AV} {l:List Ex} {p:Ex→Bool} (hp:PredE fv l p) {H H2:AH} {σ:Nat→Nat→Option (Nat × Nat × Nat)} {D:Nat→Nat→Prop} {t:Bool}:Vw H H2 σ D t fv fv:=by
 obtain ⟨f,caps,rfl,hg,hf,hx⟩:=hp.ex
 refine .fn _ _ _ _ rfl fun i a b h1 h2=>?_
 rw [h1] at h2
 cases h2
 exact zcp (za2 hf h1)
def idxI (o:Option Nat):Int:=match o with | some i=>(i:Int) | none => -1
theorem zjb (l:List Ex) (fv:AV) (p:Ex→Bool) (hp:PredE fv l p):zz Tryz.prog zao [encL 5 encX l,fv] (·=.int .i64 (idxI (l.findIdx? p))):=by
 refine fn_x zcy rfl ?_
 unfold za4
 have hB:=hBig
 (repeat first | simp (disch:=try exact dis1) only [evD,Nat.reduceBEq,Nat.reduceAdd,Nat.reduceLeDiff] | with_reducible intro _ | ((with_reducible apply And.intro);omega))
 refine zg (fun i:Nat=>([(0,encL 5 encX l),(1,fv),(7, .int .i64 l.length),(8, .int .i64 i)],[])) 0 (fun i=>i≤l.length∧∀ j (h:j < l.length),j < i→p l[j]=false) (fun i=>l.length - i) 0 ⟨Nat.zero_le _,fun j _ h=>by omega⟩ (Ent.keep rfl fin5) ?_
 intro i ⟨hi,hno⟩ wf
 unfold zaO
 (repeat first | simp (disch:=try exact dis1) only [evD,Nat.reduceBEq,Nat.reduceAdd,Nat.reduceLeDiff] | with_reducible intro _ | ((with_reducible apply And.intro);omega))
 (refine zaJ (fun h=>?_) (fun h=>?_))<;>(try simp only [dcd] at h)
 ·
  have hi':i < l.length:=by omega
  (repeat first | simp (disch:=try exact dis1) only [evD,Nat.reduceBEq,Nat.reduceAdd,Nat.reduceLeDiff,zp hi',zax,zZ] | with_reducible intro _ | ((with_reducible apply And.intro);omega))
  refine ztQ hp (List.getElem_mem hi') ?_
  (repeat first | simp (disch:=try exact dis1) only [evD,Nat.reduceBEq,Nat.reduceAdd,Nat.reduceLeDiff] | with_reducible intro _ | ((with_reducible apply And.intro);omega))
  (refine zaJ (fun h2=>?_) (fun h2=>?_))<;>(try simp only [dcd] at h2)
  ·
   (repeat first | simp (disch:=try exact dis1) only [evD,Nat.reduceBEq,Nat.reduceAdd,Nat.reduceLeDiff,zah] | with_reducible intro _ | ((with_reducible apply And.intro);omega))
   have e:l.findIdx? p=some i:=by
    rw [List.findIdx?_eq_some_iff_getElem]
    exact ⟨hi',h2,fun j hj=>by rw [hno j (by omega) hj];simp⟩
   rw [e]
   exact ⟨_, .int _ _ _,rfl⟩
  ·
   (repeat first | simp (disch:=try exact dis1) only [evD,Nat.reduceBEq,Nat.reduceAdd,Nat.reduceLeDiff] | with_reducible intro _ | ((with_reducible apply And.intro);omega))
   refine ⟨i+1,⟨by omega,fun j hj hji=>?_⟩,by omega,Ent.keep rfl fin5⟩
   by_cases hje:j=i
   · subst hje;simpa using h2
   · exact hno j hj (by omega)
 ·
  unfold zaR
  (repeat first | simp (disch:=try exact dis1) only [evD,Nat.reduceBEq,Nat.reduceAdd,Nat.reduceLeDiff,zah] | with_reducible intro _ | ((with_reducible apply And.intro);omega))
  have e:l.findIdx? p=none:=by
   rw [List.findIdx?_eq_none_iff]
   intro x hx
   obtain ⟨j,hj,rfl⟩:=List.mem_iff_getElem.1 hx
   exact hno j hj (by omega)
  rw [e]
  exact ⟨_, .int _ _ _,rfl⟩
theorem zzl {l:List Ex} {p:Ex→Bool}:decide (idxI (l.findIdx? p) ≥ 0)=l.any p:=by
 cases h:l.findIdx? p with
 |
  none =>
  have:=List.findIdx?_eq_none_iff.1 h
  rw [decide_eq_false (by simp [idxI])]
  symm
  rw [List.any_eq_false]
  intro x hx
  rw [this x hx];simp
 |
  some i =>
  obtain ⟨h1,h2,_⟩:=List.findIdx?_eq_some_iff_getElem.1 h
  rw [decide_eq_true (by simp [idxI])]
  exact (zsq h1 h2).symm
theorem zJ (l:List Ex) (fv:AV) (p:Ex→Bool) (hp:PredE fv l p):zz Tryz.prog zG [encL 5 encX l,fv] (·=.bool (l.any p)):=by
 refine fn_x zb5 rfl ?_
 unfold zaL
 (repeat first | simp (disch:=try exact dis1) only [evD,Nat.reduceBEq,Nat.reduceAdd,Nat.reduceLeDiff] | with_reducible intro _ | ((with_reducible apply And.intro);omega))
 refine zi (za1 (D:=noR) (zjb l fv p hp) (.cons (zT rfl) (.cons (zcK hp) .nil)) (.inl rfl)) ?_
 (repeat first | simp (disch:=try exact dis1) only [evD,Nat.reduceBEq,Nat.reduceAdd,Nat.reduceLeDiff,zaK] | with_reducible intro _ | ((with_reducible apply And.intro);omega))
 refine ⟨_, .bool _ _,?_⟩
 rw [← zzl]
theorem zpA:∀ (k:Nat) (e:Ex) (m:Int),zaU e≤k → -1000≤m→m≤1000→zz Tryz.prog zf4 [.agg (encX e), .int .i64 m] (·=.bool (!zm5 e m)):=by
 intro k
 induction k with
 | zero=>intro e m h;obtain ⟨_,_,_,_,l⟩:=e;rw [zaU] at h;omega
 | succ k ih =>
 intro e m hk hm1 hm2
 obtain ⟨op,nn,v,w,l⟩:=e
 refine fn_x zp6 rfl ?_
 unfold zkB
 have hB:=hBig
 rw [zaU] at hk
 rw [zbu,zm5]
 by_cases h1:m < 1
 ·
  rw [if_pos h1]
  (repeat first | simp (disch:=try exact dis1) only [evD,Nat.reduceBEq,Nat.reduceAdd,Nat.reduceLeDiff,fldP,dF,encP,zgZ] | with_reducible intro _ | ((with_reducible apply And.intro);omega))
  exact ⟨_, .bool _ _,rfl⟩
 ·
  rw [if_neg h1,zoK]
  have hp:PredE (.fn (.func zgm) [encP 1 [.int .i64 m]]) l (zm5 · (m - 1)):=by
   refine ⟨_,_,rfl,by kernel_rfl,rfl,fun s hs=>?_⟩
   have hm:=zbB hs
   refine fn_x znE rfl ?_
   unfold zic
   (repeat first | simp (disch:=try exact dis1) only [evD,Nat.reduceBEq,Nat.reduceAdd,Nat.reduceLeDiff,zax,zb,zZ,encP] | with_reducible intro _ | ((with_reducible apply And.intro);omega))
   refine zi (zk (ih s (m - 1) (by omega) (by omega) (by omega)) (flX rfl)) ?_
   (repeat first | simp (disch:=try exact dis1) only [evD,Nat.reduceBEq,Nat.reduceAdd,Nat.reduceLeDiff,ziv] | with_reducible intro _ | ((with_reducible apply And.intro);omega))
   exact ⟨_, .bool _ _,rfl⟩
  (repeat first | simp (disch:=try exact dis1) only [evD,Nat.reduceBEq,Nat.reduceAdd,Nat.reduceLeDiff,fldP,dT,encP] | with_reducible intro _ | ((with_reducible apply And.intro);omega))
  refine zi (za1 (D:=noR) (zJ l _ _ hp) (.cons (zT rfl) (.cons (zcK hp) .nil)) (.inl rfl)) ?_
  (repeat first | simp (disch:=try exact dis1) only [evD,Nat.reduceBEq,Nat.reduceAdd,Nat.reduceLeDiff,zgZ] | with_reducible intro _ | ((with_reducible apply And.intro);omega))
  exact ⟨_, .bool _ _,rfl⟩
theorem zsa {op nn v w:Int} {l:List Ex} (h:op=1) (hp:PredE (.fn (.func z7) []) l (fun x => !zfG x)):zz Tryz.prog zav [.agg [.int .i64 op, .int .u32 nn, .int .i64 v, .int .i64 w,encL 5 encX l]] (·=.bool (zc6 l&&zq op nn v w l.length)):=by
 refine fn_x zaX rfl ?_
 unfold zaD
 have hB:=hBig
 (repeat first | simp (disch:=try exact dis1) only [evD,Nat.reduceBEq,Nat.reduceAdd,Nat.reduceLeDiff,dT,dF,fldP,zb,zn] | with_reducible intro _ | ((with_reducible apply And.intro);omega))
 by_cases q0:v=0<;>(repeat first | simp (disch:=try exact dis1) only [evD,Nat.reduceBEq,Nat.reduceAdd,Nat.reduceLeDiff,dT,dF,fldP,zb,zn] | with_reducible intro _ | ((with_reducible apply And.intro);omega))
 case neg =>
  exact ⟨_, .bool _ _,congrArg AV.bool (by rw [show zq op nn v w l.length=false from by unfold zq;exact dF (by omega),Bool.and_false])⟩
 by_cases q1:w=0<;>(repeat first | simp (disch:=try exact dis1) only [evD,Nat.reduceBEq,Nat.reduceAdd,Nat.reduceLeDiff,dT,dF,fldP,zb,zn] | with_reducible intro _ | ((with_reducible apply And.intro);omega))
 case neg =>
  exact ⟨_, .bool _ _,congrArg AV.bool (by rw [show zq op nn v w l.length=false from by unfold zq;exact dF (by omega),Bool.and_false])⟩
 by_cases q2:l.length=0<;>(repeat first | simp (disch:=try exact dis1) only [evD,Nat.reduceBEq,Nat.reduceAdd,Nat.reduceLeDiff,dT,dF,fldP,zb,zn] | with_reducible intro _ | ((with_reducible apply And.intro);omega))
 case neg =>
  exact ⟨_, .bool _ _,congrArg AV.bool (by rw [show zq op nn v w l.length=false from by unfold zq;exact dF (by omega),Bool.and_false])⟩
 refine zi (za1 (D:=noR) (zJ l _ _ hp) (.cons (zT rfl) (.cons (zcK hp) .nil)) (.inl rfl)) ?_
 (repeat first | simp (disch:=try exact dis1) only [evD,Nat.reduceBEq,Nat.reduceAdd,Nat.reduceLeDiff,dT,dF,fldP,zb,zn] | with_reducible intro _ | ((with_reducible apply And.intro);omega))
 exact ⟨_, .bool _ _,congrArg AV.bool (by rw [show zq op nn v w l.length=true from by unfold zq;exact dT (by omega),Bool.and_true,zcq,List.all_eq_not_any_not])⟩
theorem zrc {op nn v w:Int} {l:List Ex} (h:op=2) (hp:PredE (.fn (.func z7) []) l (fun x => !zfG x)):zz Tryz.prog zav [.agg [.int .i64 op, .int .u32 nn, .int .i64 v, .int .i64 w,encL 5 encX l]] (·=.bool (zc6 l&&zq op nn v w l.length)):=by
 refine fn_x zaX rfl ?_
 unfold zaD
 have hB:=hBig
 (repeat first | simp (disch:=try exact dis1) only [evD,Nat.reduceBEq,Nat.reduceAdd,Nat.reduceLeDiff,dT,dF,fldP,zb,zn] | with_reducible intro _ | ((with_reducible apply And.intro);omega))
 refine zi (zk (zgk v) rfl) ?_
 unfold zqg
 by_cases hv:0≤v∧v < 65536<;>(repeat first | simp (disch:=try exact dis1) only [evD,Nat.reduceBEq,Nat.reduceAdd,Nat.reduceLeDiff,dT,dF,fldP,zb,zn] | with_reducible intro _ | ((with_reducible apply And.intro);omega))
 case neg =>
  exact ⟨_, .bool _ _,congrArg AV.bool (by rw [show zq op nn v w l.length=false from by unfold zq;exact dF (by omega),Bool.and_false])⟩
 by_cases q0:nn=0<;>(repeat first | simp (disch:=try exact dis1) only [evD,Nat.reduceBEq,Nat.reduceAdd,Nat.reduceLeDiff,dT,dF,fldP,zb,zn] | with_reducible intro _ | ((with_reducible apply And.intro);omega))
 case neg =>
  exact ⟨_, .bool _ _,congrArg AV.bool (by rw [show zq op nn v w l.length=false from by unfold zq;exact dF (by omega),Bool.and_false])⟩
 by_cases q1:w=0<;>(repeat first | simp (disch:=try exact dis1) only [evD,Nat.reduceBEq,Nat.reduceAdd,Nat.reduceLeDiff,dT,dF,fldP,zb,zn] | with_reducible intro _ | ((with_reducible apply And.intro);omega))
 case neg =>
  exact ⟨_, .bool _ _,congrArg AV.bool (by rw [show zq op nn v w l.length=false from by unfold zq;exact dF (by omega),Bool.and_false])⟩
 by_cases q2:l.length=0<;>(repeat first | simp (disch:=try exact dis1) only [evD,Nat.reduceBEq,Nat.reduceAdd,Nat.reduceLeDiff,dT,dF,fldP,zb,zn] | with_reducible intro _ | ((with_reducible apply And.intro);omega))
 case neg =>
  exact ⟨_, .bool _ _,congrArg AV.bool (by rw [show zq op nn v w l.length=false from by unfold zq;exact dF (by omega),Bool.and_false])⟩
 refine zi (za1 (D:=noR) (zJ l _ _ hp) (.cons (zT rfl) (.cons (zcK hp) .nil)) (.inl rfl)) ?_
 (repeat first | simp (disch:=try exact dis1) only [evD,Nat.reduceBEq,Nat.reduceAdd,Nat.reduceLeDiff,dT,dF,fldP,zb,zn] | with_reducible intro _ | ((with_reducible apply And.intro);omega))
 exact ⟨_, .bool _ _,congrArg AV.bool (by rw [show zq op nn v w l.length=true from by unfold zq;exact dT (by omega),Bool.and_true,zcq,List.all_eq_not_any_not])⟩
theorem zqy {op nn v w:Int} {l:List Ex} (h:3≤op) (h2:op≤15) (hp:PredE (.fn (.func z7) []) l (fun x => !zfG x)):zz Tryz.prog zav [.agg [.int .i64 op, .int .u32 nn, .int .i64 v, .int .i64 w,encL 5 encX l]] (·=.bool (zc6 l&&zq op nn v w l.length)):=by
 refine fn_x zaX rfl ?_
 unfold zaD
 have hB:=hBig
 (repeat first | simp (disch:=try exact dis1) only [evD,Nat.reduceBEq,Nat.reduceAdd,Nat.reduceLeDiff,dT,dF,fldP,zb,zn] | with_reducible intro _ | ((with_reducible apply And.intro);omega))
 by_cases q0:nn=0<;>(repeat first | simp (disch:=try exact dis1) only [evD,Nat.reduceBEq,Nat.reduceAdd,Nat.reduceLeDiff,dT,dF,fldP,zb,zn] | with_reducible intro _ | ((with_reducible apply And.intro);omega))
 case neg =>
  exact ⟨_, .bool _ _,congrArg AV.bool (by rw [show zq op nn v w l.length=false from by unfold zq;exact dF (by omega),Bool.and_false])⟩
 by_cases q1:v=0<;>(repeat first | simp (disch:=try exact dis1) only [evD,Nat.reduceBEq,Nat.reduceAdd,Nat.reduceLeDiff,dT,dF,fldP,zb,zn] | with_reducible intro _ | ((with_reducible apply And.intro);omega))
 case neg =>
  exact ⟨_, .bool _ _,congrArg AV.bool (by rw [show zq op nn v w l.length=false from by unfold zq;exact dF (by omega),Bool.and_false])⟩
 by_cases q2:w=0<;>(repeat first | simp (disch:=try exact dis1) only [evD,Nat.reduceBEq,Nat.reduceAdd,Nat.reduceLeDiff,dT,dF,fldP,zb,zn] | with_reducible intro _ | ((with_reducible apply And.intro);omega))
 case neg =>
  exact ⟨_, .bool _ _,congrArg AV.bool (by rw [show zq op nn v w l.length=false from by unfold zq;exact dF (by omega),Bool.and_false])⟩
 by_cases q3:l.length=2<;>(repeat first | simp (disch:=try exact dis1) only [evD,Nat.reduceBEq,Nat.reduceAdd,Nat.reduceLeDiff,dT,dF,fldP,zb,zn] | with_reducible intro _ | ((with_reducible apply And.intro);omega))
 case neg =>
  exact ⟨_, .bool _ _,congrArg AV.bool (by rw [show zq op nn v w l.length=false from by unfold zq;exact dF (by omega),Bool.and_false])⟩
 refine zi (za1 (D:=noR) (zJ l _ _ hp) (.cons (zT rfl) (.cons (zcK hp) .nil)) (.inl rfl)) ?_
 (repeat first | simp (disch:=try exact dis1) only [evD,Nat.reduceBEq,Nat.reduceAdd,Nat.reduceLeDiff,dT,dF,fldP,zb,zn] | with_reducible intro _ | ((with_reducible apply And.intro);omega))
 exact ⟨_, .bool _ _,congrArg AV.bool (by rw [show zq op nn v w l.length=true from by unfold zq;exact dT (by omega),Bool.and_true,zcq,List.all_eq_not_any_not])⟩
theorem zpG {op nn v w:Int} {l:List Ex} (h:op=16) (hp:PredE (.fn (.func z7) []) l (fun x => !zfG x)):zz Tryz.prog zav [.agg [.int .i64 op, .int .u32 nn, .int .i64 v, .int .i64 w,encL 5 encX l]] (·=.bool (zc6 l&&zq op nn v w l.length)):=by
 refine fn_x zaX rfl ?_
 unfold zaD
 have hB:=hBig
 (repeat first | simp (disch:=try exact dis1) only [evD,Nat.reduceBEq,Nat.reduceAdd,Nat.reduceLeDiff,dT,dF,fldP,zb,zn] | with_reducible intro _ | ((with_reducible apply And.intro);omega))
 by_cases q0:nn=0<;>(repeat first | simp (disch:=try exact dis1) only [evD,Nat.reduceBEq,Nat.reduceAdd,Nat.reduceLeDiff,dT,dF,fldP,zb,zn] | with_reducible intro _ | ((with_reducible apply And.intro);omega))
 case neg =>
  exact ⟨_, .bool _ _,congrArg AV.bool (by rw [show zq op nn v w l.length=false from by unfold zq;exact dF (by omega),Bool.and_false])⟩
 by_cases q1:v=0<;>(repeat first | simp (disch:=try exact dis1) only [evD,Nat.reduceBEq,Nat.reduceAdd,Nat.reduceLeDiff,dT,dF,fldP,zb,zn] | with_reducible intro _ | ((with_reducible apply And.intro);omega))
 case neg =>
  exact ⟨_, .bool _ _,congrArg AV.bool (by rw [show zq op nn v w l.length=false from by unfold zq;exact dF (by omega),Bool.and_false])⟩
 by_cases q2:w=0<;>(repeat first | simp (disch:=try exact dis1) only [evD,Nat.reduceBEq,Nat.reduceAdd,Nat.reduceLeDiff,dT,dF,fldP,zb,zn] | with_reducible intro _ | ((with_reducible apply And.intro);omega))
 case neg =>
  exact ⟨_, .bool _ _,congrArg AV.bool (by rw [show zq op nn v w l.length=false from by unfold zq;exact dF (by omega),Bool.and_false])⟩
 by_cases q3:l.length=1<;>(repeat first | simp (disch:=try exact dis1) only [evD,Nat.reduceBEq,Nat.reduceAdd,Nat.reduceLeDiff,dT,dF,fldP,zb,zn] | with_reducible intro _ | ((with_reducible apply And.intro);omega))
 case neg =>
  exact ⟨_, .bool _ _,congrArg AV.bool (by rw [show zq op nn v w l.length=false from by unfold zq;exact dF (by omega),Bool.and_false])⟩
 refine zi (za1 (D:=noR) (zJ l _ _ hp) (.cons (zT rfl) (.cons (zcK hp) .nil)) (.inl rfl)) ?_
 (repeat first | simp (disch:=try exact dis1) only [evD,Nat.reduceBEq,Nat.reduceAdd,Nat.reduceLeDiff,dT,dF,fldP,zb,zn] | with_reducible intro _ | ((with_reducible apply And.intro);omega))
 exact ⟨_, .bool _ _,congrArg AV.bool (by rw [show zq op nn v w l.length=true from by unfold zq;exact dT (by omega),Bool.and_true,zcq,List.all_eq_not_any_not])⟩
theorem zp5 {op nn v w:Int} {l:List Ex} (h:op=17) (hp:PredE (.fn (.func z7) []) l (fun x => !zfG x)):zz Tryz.prog zav [.agg [.int .i64 op, .int .u32 nn, .int .i64 v, .int .i64 w,encL 5 encX l]] (·=.bool (zc6 l&&zq op nn v w l.length)):=by
 refine fn_x zaX rfl ?_
 unfold zaD
 have hB:=hBig
 (repeat first | simp (disch:=try exact dis1) only [evD,Nat.reduceBEq,Nat.reduceAdd,Nat.reduceLeDiff,dT,dF,fldP,zb,zn] | with_reducible intro _ | ((with_reducible apply And.intro);omega))
 by_cases q0:nn=0<;>(repeat first | simp (disch:=try exact dis1) only [evD,Nat.reduceBEq,Nat.reduceAdd,Nat.reduceLeDiff,dT,dF,fldP,zb,zn] | with_reducible intro _ | ((with_reducible apply And.intro);omega))
 case neg =>
  exact ⟨_, .bool _ _,congrArg AV.bool (by rw [show zq op nn v w l.length=false from by unfold zq;exact dF (by omega),Bool.and_false])⟩
 by_cases q1:v=0<;>(repeat first | simp (disch:=try exact dis1) only [evD,Nat.reduceBEq,Nat.reduceAdd,Nat.reduceLeDiff,dT,dF,fldP,zb,zn] | with_reducible intro _ | ((with_reducible apply And.intro);omega))
 case neg =>
  exact ⟨_, .bool _ _,congrArg AV.bool (by rw [show zq op nn v w l.length=false from by unfold zq;exact dF (by omega),Bool.and_false])⟩
 by_cases q2:w=0<;>(repeat first | simp (disch:=try exact dis1) only [evD,Nat.reduceBEq,Nat.reduceAdd,Nat.reduceLeDiff,dT,dF,fldP,zb,zn] | with_reducible intro _ | ((with_reducible apply And.intro);omega))
 case neg =>
  exact ⟨_, .bool _ _,congrArg AV.bool (by rw [show zq op nn v w l.length=false from by unfold zq;exact dF (by omega),Bool.and_false])⟩
 by_cases q3:l.length=1<;>(repeat first | simp (disch:=try exact dis1) only [evD,Nat.reduceBEq,Nat.reduceAdd,Nat.reduceLeDiff,dT,dF,fldP,zb,zn] | with_reducible intro _ | ((with_reducible apply And.intro);omega))
 case neg =>
  exact ⟨_, .bool _ _,congrArg AV.bool (by rw [show zq op nn v w l.length=false from by unfold zq;exact dF (by omega),Bool.and_false])⟩
 refine zi (za1 (D:=noR) (zJ l _ _ hp) (.cons (zT rfl) (.cons (zcK hp) .nil)) (.inl rfl)) ?_
 (repeat first | simp (disch:=try exact dis1) only [evD,Nat.reduceBEq,Nat.reduceAdd,Nat.reduceLeDiff,dT,dF,fldP,zb,zn] | with_reducible intro _ | ((with_reducible apply And.intro);omega))
 exact ⟨_, .bool _ _,congrArg AV.bool (by rw [show zq op nn v w l.length=true from by unfold zq;exact dT (by omega),Bool.and_true,zcq,List.all_eq_not_any_not])⟩
theorem zp8 {op nn v w:Int} {l:List Ex} (h:op=18) (hp:PredE (.fn (.func z7) []) l (fun x => !zfG x)):zz Tryz.prog zav [.agg [.int .i64 op, .int .u32 nn, .int .i64 v, .int .i64 w,encL 5 encX l]] (·=.bool (zc6 l&&zq op nn v w l.length)):=by
 refine fn_x zaX rfl ?_
 unfold zaD
 have hB:=hBig
 (repeat first | simp (disch:=try exact dis1) only [evD,Nat.reduceBEq,Nat.reduceAdd,Nat.reduceLeDiff,dT,dF,fldP,zb,zn] | with_reducible intro _ | ((with_reducible apply And.intro);omega))
 refine zi (zk (zlW w) rfl) ?_
 unfold zpO
 by_cases hv:w=1∨w=2∨w=4<;>(repeat first | simp (disch:=try exact dis1) only [evD,Nat.reduceBEq,Nat.reduceAdd,Nat.reduceLeDiff,dT,dF,fldP,zb,zn] | with_reducible intro _ | ((with_reducible apply And.intro);omega))
 case neg =>
  exact ⟨_, .bool _ _,congrArg AV.bool (by rw [show zq op nn v w l.length=false from by unfold zq;exact dF (by omega),Bool.and_false])⟩
 by_cases q0:nn=0<;>(repeat first | simp (disch:=try exact dis1) only [evD,Nat.reduceBEq,Nat.reduceAdd,Nat.reduceLeDiff,dT,dF,fldP,zb,zn] | with_reducible intro _ | ((with_reducible apply And.intro);omega))
 case neg =>
  exact ⟨_, .bool _ _,congrArg AV.bool (by rw [show zq op nn v w l.length=false from by unfold zq;exact dF (by omega),Bool.and_false])⟩
 by_cases q1:v=0<;>(repeat first | simp (disch:=try exact dis1) only [evD,Nat.reduceBEq,Nat.reduceAdd,Nat.reduceLeDiff,dT,dF,fldP,zb,zn] | with_reducible intro _ | ((with_reducible apply And.intro);omega))
 case neg =>
  exact ⟨_, .bool _ _,congrArg AV.bool (by rw [show zq op nn v w l.length=false from by unfold zq;exact dF (by omega),Bool.and_false])⟩
 by_cases q2:l.length=1<;>(repeat first | simp (disch:=try exact dis1) only [evD,Nat.reduceBEq,Nat.reduceAdd,Nat.reduceLeDiff,dT,dF,fldP,zb,zn] | with_reducible intro _ | ((with_reducible apply And.intro);omega))
 case neg =>
  exact ⟨_, .bool _ _,congrArg AV.bool (by rw [show zq op nn v w l.length=false from by unfold zq;exact dF (by omega),Bool.and_false])⟩
 refine zi (za1 (D:=noR) (zJ l _ _ hp) (.cons (zT rfl) (.cons (zcK hp) .nil)) (.inl rfl)) ?_
 (repeat first | simp (disch:=try exact dis1) only [evD,Nat.reduceBEq,Nat.reduceAdd,Nat.reduceLeDiff,dT,dF,fldP,zb,zn] | with_reducible intro _ | ((with_reducible apply And.intro);omega))
 exact ⟨_, .bool _ _,congrArg AV.bool (by rw [show zq op nn v w l.length=true from by unfold zq;exact dT (by omega),Bool.and_true,zcq,List.all_eq_not_any_not])⟩
theorem zor {op nn v w:Int} {l:List Ex} (h:op=19) (hw:w=1) (hp:PredE (.fn (.func z7) []) l (fun x => !zfG x)):zz Tryz.prog zav [.agg [.int .i64 op, .int .u32 nn, .int .i64 v, .int .i64 w,encL 5 encX l]] (·=.bool (zc6 l&&zq op nn v w l.length)):=by
 refine fn_x zaX rfl ?_
 unfold zaD
 have hB:=hBig
 (repeat first | simp (disch:=try exact dis1) only [evD,Nat.reduceBEq,Nat.reduceAdd,Nat.reduceLeDiff,dT,dF,fldP,zb,zn] | with_reducible intro _ | ((with_reducible apply And.intro);omega))
 by_cases q0:nn=0<;>(repeat first | simp (disch:=try exact dis1) only [evD,Nat.reduceBEq,Nat.reduceAdd,Nat.reduceLeDiff,dT,dF,fldP,zb,zn] | with_reducible intro _ | ((with_reducible apply And.intro);omega))
 case neg =>
  exact ⟨_, .bool _ _,congrArg AV.bool (by rw [show zq op nn v w l.length=false from by unfold zq;exact dF (by omega),Bool.and_false])⟩
 by_cases q1:v=0<;>(repeat first | simp (disch:=try exact dis1) only [evD,Nat.reduceBEq,Nat.reduceAdd,Nat.reduceLeDiff,dT,dF,fldP,zb,zn] | with_reducible intro _ | ((with_reducible apply And.intro);omega))
 case neg =>
  exact ⟨_, .bool _ _,congrArg AV.bool (by rw [show zq op nn v w l.length=false from by unfold zq;exact dF (by omega),Bool.and_false])⟩
 by_cases q2:l.length=1<;>(repeat first | simp (disch:=try exact dis1) only [evD,Nat.reduceBEq,Nat.reduceAdd,Nat.reduceLeDiff,dT,dF,fldP,zb,zn] | with_reducible intro _ | ((with_reducible apply And.intro);omega))
 case neg =>
  exact ⟨_, .bool _ _,congrArg AV.bool (by rw [show zq op nn v w l.length=false from by unfold zq;exact dF (by omega),Bool.and_false])⟩
 refine zi (za1 (D:=noR) (zJ l _ _ hp) (.cons (zT rfl) (.cons (zcK hp) .nil)) (.inl rfl)) ?_
 (repeat first | simp (disch:=try exact dis1) only [evD,Nat.reduceBEq,Nat.reduceAdd,Nat.reduceLeDiff,dT,dF,fldP,zb,zn] | with_reducible intro _ | ((with_reducible apply And.intro);omega))
 exact ⟨_, .bool _ _,congrArg AV.bool (by rw [show zq op nn v w l.length=true from by unfold zq;exact dT (by omega),Bool.and_true,zcq,List.all_eq_not_any_not])⟩
theorem zos {op nn v w:Int} {l:List Ex} (h:op=19) (hw:w=2) (hp:PredE (.fn (.func z7) []) l (fun x => !zfG x)):zz Tryz.prog zav [.agg [.int .i64 op, .int .u32 nn, .int .i64 v, .int .i64 w,encL 5 encX l]] (·=.bool (zc6 l&&zq op nn v w l.length)):=by
 refine fn_x zaX rfl ?_
 unfold zaD
 have hB:=hBig
 (repeat first | simp (disch:=try exact dis1) only [evD,Nat.reduceBEq,Nat.reduceAdd,Nat.reduceLeDiff,dT,dF,fldP,zb,zn] | with_reducible intro _ | ((with_reducible apply And.intro);omega))
 by_cases q0:nn=0<;>(repeat first | simp (disch:=try exact dis1) only [evD,Nat.reduceBEq,Nat.reduceAdd,Nat.reduceLeDiff,dT,dF,fldP,zb,zn] | with_reducible intro _ | ((with_reducible apply And.intro);omega))
 case neg =>
  exact ⟨_, .bool _ _,congrArg AV.bool (by rw [show zq op nn v w l.length=false from by unfold zq;exact dF (by omega),Bool.and_false])⟩
 by_cases q1:v=0<;>(repeat first | simp (disch:=try exact dis1) only [evD,Nat.reduceBEq,Nat.reduceAdd,Nat.reduceLeDiff,dT,dF,fldP,zb,zn] | with_reducible intro _ | ((with_reducible apply And.intro);omega))
 case neg =>
  exact ⟨_, .bool _ _,congrArg AV.bool (by rw [show zq op nn v w l.length=false from by unfold zq;exact dF (by omega),Bool.and_false])⟩
 by_cases q2:l.length=1<;>(repeat first | simp (disch:=try exact dis1) only [evD,Nat.reduceBEq,Nat.reduceAdd,Nat.reduceLeDiff,dT,dF,fldP,zb,zn] | with_reducible intro _ | ((with_reducible apply And.intro);omega))
 case neg =>
  exact ⟨_, .bool _ _,congrArg AV.bool (by rw [show zq op nn v w l.length=false from by unfold zq;exact dF (by omega),Bool.and_false])⟩
 refine zi (za1 (D:=noR) (zJ l _ _ hp) (.cons (zT rfl) (.cons (zcK hp) .nil)) (.inl rfl)) ?_
 (repeat first | simp (disch:=try exact dis1) only [evD,Nat.reduceBEq,Nat.reduceAdd,Nat.reduceLeDiff,dT,dF,fldP,zb,zn] | with_reducible intro _ | ((with_reducible apply And.intro);omega))
 exact ⟨_, .bool _ _,congrArg AV.bool (by rw [show zq op nn v w l.length=true from by unfold zq;exact dT (by omega),Bool.and_true,zcq,List.all_eq_not_any_not])⟩
theorem zow {op nn v w:Int} {l:List Ex} (h:op=19) (h1:w≠1) (h2:w≠2) (hp:PredE (.fn (.func z7) []) l (fun x => !zfG x)):zz Tryz.prog zav [.agg [.int .i64 op, .int .u32 nn, .int .i64 v, .int .i64 w,encL 5 encX l]] (·=.bool (zc6 l&&zq op nn v w l.length)):=by
 refine fn_x zaX rfl ?_
 unfold zaD
 have hB:=hBig
 (repeat first | simp (disch:=try exact dis1) only [evD,Nat.reduceBEq,Nat.reduceAdd,Nat.reduceLeDiff,dT,dF,fldP,zb,zn] | with_reducible intro _ | ((with_reducible apply And.intro);omega))
 exact ⟨_, .bool _ _,congrArg AV.bool (by rw [show zq op nn v w l.length=false from by unfold zq;exact dF (by omega),Bool.and_false])⟩
theorem ztP {op nn v w:Int} {l:List Ex} (h0:op < 1) (hp:PredE (.fn (.func z7) []) l (fun x => !zfG x)):zz Tryz.prog zav [.agg [.int .i64 op, .int .u32 nn, .int .i64 v, .int .i64 w,encL 5 encX l]] (·=.bool (zc6 l&&zq op nn v w l.length)):=by
 refine fn_x zaX rfl ?_
 unfold zaD
 have hB:=hBig
 (repeat first | simp (disch:=try exact dis1) only [evD,Nat.reduceBEq,Nat.reduceAdd,Nat.reduceLeDiff,dT,dF,fldP,zb,zn] | with_reducible intro _ | ((with_reducible apply And.intro);omega))
 exact ⟨_, .bool _ _,congrArg AV.bool (by rw [show zq op nn v w l.length=false from by unfold zq;exact dF (by omega),Bool.and_false])⟩
theorem zta {op nn v w:Int} {l:List Ex} (h0:19 < op) (hp:PredE (.fn (.func z7) []) l (fun x => !zfG x)):zz Tryz.prog zav [.agg [.int .i64 op, .int .u32 nn, .int .i64 v, .int .i64 w,encL 5 encX l]] (·=.bool (zc6 l&&zq op nn v w l.length)):=by
 refine fn_x zaX rfl ?_
 unfold zaD
 have hB:=hBig
 (repeat first | simp (disch:=try exact dis1) only [evD,Nat.reduceBEq,Nat.reduceAdd,Nat.reduceLeDiff,dT,dF,fldP,zb,zn] | with_reducible intro _ | ((with_reducible apply And.intro);omega))
 exact ⟨_, .bool _ _,congrArg AV.bool (by rw [show zq op nn v w l.length=false from by unfold zq;exact dF (by omega),Bool.and_false])⟩
theorem zrI:∀ (k:Nat) (e:Ex),zaU e≤k→zz Tryz.prog zav [.agg (encX e)] (·=.bool (zfG e)):=by
 intro k
 induction k with
 | zero=>intro e h;obtain ⟨_,_,_,_,l⟩:=e;rw [zaU] at h;omega
 | succ k ih =>
 intro e hk
 obtain ⟨op,nn,v,w,l⟩:=e
 rw [zaU] at hk
 rw [zbu,zfG]
 have hp:PredE (.fn (.func z7) []) l (fun x => !zfG x):=by
  refine ⟨_,_,rfl,by kernel_rfl,rfl,fun s hs=>?_⟩
  have hm:=zbB hs
  refine fn_x zop rfl ?_
  unfold zjz
  have hB:=hBig
  (repeat first | simp (disch:=try exact dis1) only [evD,Nat.reduceBEq,Nat.reduceAdd,Nat.reduceLeDiff,zax,zb,zZ,encP] | with_reducible intro _ | ((with_reducible apply And.intro);omega))
  refine zi (zk (ih s (by omega)) (flX rfl)) ?_
  (repeat first | simp (disch:=try exact dis1) only [evD,Nat.reduceBEq,Nat.reduceAdd,Nat.reduceLeDiff,zjD] | with_reducible intro _ | ((with_reducible apply And.intro);omega))
  exact ⟨_, .bool _ _,rfl⟩
 by_cases h1:op=1
 · exact zsa h1 hp
 by_cases h2:op=2
 · exact zrc h2 hp
 by_cases h3:3≤op∧op≤15
 · exact zqy h3.1 h3.2 hp
 by_cases h16:op=16
 · exact zpG h16 hp
 by_cases h17:op=17
 · exact zp5 h17 hp
 by_cases h18:op=18
 · exact zp8 h18 hp
 by_cases h19:op=19
 ·
  by_cases w1:w=1
  · exact zor h19 w1 hp
  by_cases w2:w=2
  · exact zos h19 w2 hp
  exact zow h19 w1 w2 hp
 by_cases h0:op < 1
 · exact ztP h0 hp
 exact zta (by omega) hp
theorem zn4 (e:Ex):zz Tryz.prog zgn [.agg (encX e)] (·=.int .i64 (zjt e)):=by
 refine fn_x zmO rfl ?_
 unfold zio zjt
 have hB:=hBig
 (repeat first | simp (disch:=try exact dis1) only [evD,Nat.reduceBEq,Nat.reduceAdd,Nat.reduceLeDiff,zax,zb,zZ] | with_reducible intro _ | ((with_reducible apply And.intro);omega))
 refine zi (zk (zpA (zaU e) e 64 (Nat.le_refl _) (by omega) (by omega)) (flX rfl)) ?_
 cases zm5 e 64 with
 |
  true =>
  (repeat first | simp (disch:=try exact dis1) only [evD,Nat.reduceBEq,Nat.reduceAdd,Nat.reduceLeDiff,zdv] | with_reducible intro _ | ((with_reducible apply And.intro);omega))
  exact ⟨_, .int _ _ _,rfl⟩
 |
  false =>
  (repeat first | simp (disch:=try exact dis1) only [evD,Nat.reduceBEq,Nat.reduceAdd,Nat.reduceLeDiff,zax,zb,zZ] | with_reducible intro _ | ((with_reducible apply And.intro);omega))
  refine zi (zk (zrI (zaU e) e (Nat.le_refl _)) (flX rfl)) ?_
  cases zfG e with
  |
   true =>
   (repeat first | simp (disch:=try exact dis1) only [evD,Nat.reduceBEq,Nat.reduceAdd,Nat.reduceLeDiff,zdv] | with_reducible intro _ | ((with_reducible apply And.intro);omega))
   exact ⟨_, .int _ _ _,rfl⟩
  |
   false =>
   (repeat first | simp (disch:=try exact dis1) only [evD,Nat.reduceBEq,Nat.reduceAdd,Nat.reduceLeDiff,zdv] | with_reducible intro _ | ((with_reducible apply And.intro);omega))
   exact ⟨_, .int _ _ _,rfl⟩
end Go.Ab
