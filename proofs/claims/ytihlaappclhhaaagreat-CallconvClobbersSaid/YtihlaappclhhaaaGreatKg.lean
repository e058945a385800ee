/-
  Part 7 of the proof: how the calls of this program run, over values instead of memory, and what each function computes.
-/
import Derived.Test.YtihlaappclhhaaaGreatRows
import Derived.WalkKit
import Derived.OpenShut
import Derived.ShutString
import Derived.ChangeOld
import Derived.Below
import Derived.Test.YtihlaappclhhaaaGreatProg
import Derived.Test.YtihlaappclhhaaaGreatKf
set_option maxRecDepth 100000
set_option linter.unusedVariables false
set_option linter.unusedSimpArgs false
set_option linter.unnecessarySimpa false
set_option linter.unusedSectionVars false
namespace Go.Ab
open Go.RowKit
inductive Ex where
 | mk (op n var width:Int) (l:List Ex)
structure NdF where
 kind:Int
 block:Int
 label:Int
inductive Nd where
 | mk (f:NdF) (cond:List Ex) (l:List Nd)
def Ex.l:Ex→List Ex
 | .mk _ _ _ _ l=>l
def Nd.f:Nd→NdF
 | .mk f _ _=>f
def Nd.cond:Nd→List Ex
 | .mk _ c _=>c
def Nd.l:Nd→List Nd
 | .mk _ _ l=>l
mutual
def encX:Ex→List AV
 | .mk op n v w l=>[.int .i64 op,.int .u32 n,.int .i64 v,.int .i64 w,.sl 5 l.length (fun i j=>((zBt l).getD i []).getD j .undef)]
def zBt:List Ex→List (List AV)
 | []=>[]
 | e::l=>encX e::zBt l
end
theorem ztT:∀l:List Ex,zBt l=l.map encX
 | []=>by rw[zBt];rfl
 | e::l=>by rw[zBt,ztT l];rfl
theorem zgj(op n v w:Int)(l:List Ex):encX (.mk op n v w l)=[.int .i64 op,.int .u32 n,.int .i64 v,.int .i64 w,encL 5 encX l]:=by rw[encX,ztT];rfl
mutual
def encN:Nd→List AV
 | .mk f c l=>[.int .i64 f.kind,.int .i64 f.block,.int .i64 f.label,encL 5 encX c,.sl 5 l.length (fun i j=>((zBF l).getD i []).getD j .undef)]
def zBF:List Nd→List (List AV)
 | []=>[]
 | e::l=>encN e::zBF l
end
theorem ztN:∀l:List Nd,zBF l=l.map encN
 | []=>by rw[zBF];rfl
 | e::l=>by rw[zBF,ztN l];rfl
theorem zEb(f:NdF)(c:List Ex)(l:List Nd):encN (.mk f c l)=[.int .i64 f.kind,.int .i64 f.block,.int .i64 f.label,encL 5 encX c,encL 5 encN l]:=by rw[encN,ztN];rfl
end Go.Ab
namespace Go.Ab
open Go.RowKit Go.Proofs Go.Proofs.YtihlaappclhhaaaGreat
theorem zDP{H:AH}{v:AV}{b:Bool}(h:Frz H v (.bool b)):v=.bool b:=by
 unfold Frz at h;generalize he:AV.bool b=x at h
 cases h<;>first | (cases he;done) | (cases he;rfl)
theorem row_true{P:Program}{f:FuncId}{args:List AV}{vs:Array Value}{w:World}(h:zz P f args (·=.bool true))(hv:∀L:Nat→Prop,(∀b,¬L b)→VRs w L noI vs.toList args):
  Calls P f vs w fun e w'=>e=.returned (.bool true)∧Below w.heap.size w w':=by
 have hno:∀b,¬Lt (fun _=>False) noI [] b:=fun b hb=>hb.elim (fun h=>h) (zoF b)
 refine(h w (fun _=>False) noI vs (.empty (fun b hb=>hb.elim)) (hv _ hno)).mono fun e w' ⟨v,ι',H',nx',a,h1,h2,_,h4,a2,h5,h6⟩=>?_
 subst h1 h6;have:=zDP h5;subst this;cases h4;exact⟨rfl,h2.ext.os,h2.ext.tape,h2.ext.output,h2.ext.size,fun k hk=>h2.ext.block k hk (zoF k)⟩
end Go.Ab
namespace Go.Ab
def zgB:Nat:=7
def zeb:Nat:=11
def zjG:Nat:=12
def zlJ:Nat:=13
def zjd:Nat:=16
def zfs:Nat:=18
def zk1:Nat:=19
def zkK:Nat:=20
def zj4:Nat:=22
def zkA:Nat:=23
def zmp:Nat:=28
def zdv:Nat:=29
def zjM:Nat:=30
def zoi:Nat:=34
def zfq:Nat:=35
def zbp:Nat:=36
def zfJ:Nat:=37
def zfj:Nat:=38
def zgV:Nat:=39
def zq:Nat:=40
def zdM:Nat:=41
def zho:Nat:=44
def zkv:Nat:=47
def zX:Nat:=50
def zer:Nat:=52
def zhk:Nat:=54
def zgq:Nat:=57
def zfm:Nat:=58
def zhm:Nat:=59
def zaI:Nat:=60
def zdF:Nat:=61
def zae:Nat:=62
def zcQ:Nat:=63
def zbj:Nat:=64
def zbl:Nat:=76
def zaY:Nat:=78
def zcp:Nat:=79
def zeq:Nat:=82
def znp:Nat:=88
def zgZ:Nat:=89
def zcu:Nat:=90
def zbG:Nat:=91
def zfi:Nat:=92
def ziC:Nat:=93
def zcm:Nat:=94
def zbf:Nat:=95
def zgc:Nat:=96
def zes:Nat:=97
def zdZ:Nat:=98
def zah:Nat:=109
def zi2:Nat:=110
def zac:Nat:=111
def zev:Nat:=114
def zax:Nat:=115
def zbT:Nat:=116
def zib:Nat:=117
def zhh:Nat:=118
def zjF:Nat:=119
def zbq:Nat:=120
def zaj:Nat:=121
def zgp:Nat:=122
def zcV:Nat:=123
def zeB:Nat:=124
def ziK:Nat:=125
def zbD:Nat:=126
def zfV:Nat:=147
def zq6:Nat:=148
def zfy:Nat:=149
def zaV:Nat:=150
def zaR:Nat:=153
def zaC:Nat:=154
def zjv:Nat:=155
def zaZ:Nat:=156
def zh6:Nat:=157
def zk2:Nat:=158
def zaO:Nat:=159
def zbr:Nat:=160
def zaL:Nat:=161
def za3:Nat:=162
def zaX:Nat:=163
def zal:Nat:=164
def zK:Nat:=165
def zaD:Nat:=166
def zbd:Nat:=167
def zoW:Nat:=168
def zgX:Nat:=169
def zdu:Nat:=170
def zc4:Nat:=171
def zgM:Nat:=172
def zmi:Nat:=182
def zie:Nat:=183
def zey:Nat:=184
def zc7:Nat:=185
def zjK:Nat:=187
def zas:Nat:=188
def zY:Nat:=189
def zdx:Nat:=190
def zdX:Nat:=191
def zT:Nat:=192
def zaW:Nat:=193
def zd3:Nat:=194
def zcv:Nat:=195
def zdA:Nat:=196
def zao:Nat:=203
end Go.Ab
