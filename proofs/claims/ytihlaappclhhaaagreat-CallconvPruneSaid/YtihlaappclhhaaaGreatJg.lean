/-
  Part 7 of the proof: how the calls of this program run, over values instead of memory, and what each function computes.
-/
import Derived.Test.YtihlaappclhhaaaGreatRows
import Derived.WalkKit
import Derived.OpenShut
import Derived.ShutString
import Derived.ChangeOld
import Derived.Below
import Derived.Test.YtihlaappclhhaaaGreatProg
import Derived.Test.YtihlaappclhhaaaGreatJf
set_option maxRecDepth 100000
set_option linter.unusedVariables false
set_option linter.unusedSimpArgs false
set_option linter.unnecessarySimpa false
set_option linter.unusedSectionVars false
open Go.DataW renaming trod->Xa,trod_struct->Xb
open Go.Proofs.Tryz renaming prog->Z9
open List renaming getElem?_eq_getElem→Wa
namespace Go.Ab
open Go.RowKit
inductive Ex where
 |mk (op n var width:Int) (l:List Ex)
structure NdF where
 kind:Int
 block:Int
 label:Int
inductive Nd where
 |mk (f:NdF) (cond:List Ex) (l:List Nd)
def Ex.l:Ex->List Ex
 |.mk _ _ _ _ l=>l
def Nd.f:Nd->NdF
 |.mk f _ _=>f
def Nd.cond:Nd->List Ex
 |.mk _ c _=>c
def Nd.l:Nd->List Nd
 |.mk _ _ l=>l
mutual
def encX:Ex->List AV
 |.mk op n v w l=>[.int .i64 op,.int .u32 n,.int .i64 v,.int .i64 w,.sl 5 l.length (λi j=>((zIK l).getD i []).getD j .undef)]
def zIK:List Ex->List (List AV)
 |[]=>[]
 |e::l=>encX e::zIK l
end
theorem zAw:∀l:List Ex,zIK l=l.map encX
 |[]=>by rw[zIK];rfl
 |e::l=>by rw[zIK,zAw l];rfl
theorem zdh(op n v w)(l):encX (.mk op n v w l)=[.int .i64 op,.int .u32 n,.int .i64 v,.int .i64 w,encL 5 encX l]:=by rw[encX,zAw];rfl
mutual
def encN:Nd->List AV
 |.mk f c l=>[.int .i64 f.kind,.int .i64 f.block,.int .i64 f.label,encL 5 encX c,.sl 5 l.length (λi j=>((zIW l).getD i []).getD j .undef)]
def zIW:List Nd->List (List AV)
 |[]=>[]
 |e::l=>encN e::zIW l
end
theorem zAp:∀l:List Nd,zIW l=l.map encN
 |[]=>by rw[zIW];rfl
 |e::l=>by rw[zIW,zAp l];rfl
theorem zLH(f)(c)(l):encN (.mk f c l)=[.int .i64 f.kind,.int .i64 f.block,.int .i64 f.label,encL 5 encX c,encL 5 encN l]:=by rw[encN,zAp];rfl
mutual
def zij:Ex->Int->Int->Int
 |.mk _ _ _ _ l,b,left=>if b<1\/left<1\/4<l.length then -1 else zey l (b-1) (left-1)
def zey:List Ex->Int->Int->Int
 |[],_,n=>n
 |e::l,b,n=>if n<0 then n else zey l b (zij e b n)
end
end Go.Ab
namespace Go.Ab
open Go.RowKit Go.Proofs Go.Proofs.YtihlaappclhhaaaGreat
section
variable {HH:Type}{enc:TypeId×Value->HH}{w:World}{base:Nat}{spare:Nat->Bool}{held:Bool}{L:Nat->Prop} (hL:∀b,¬L b)
include hL
theorem zAo{P:Program}{α:Type}{cells:α->List AV}{t e:TypeId}{m:Nat}{g:Nat}(Q:P.underlying t=some (.slice e))(O:P.cellsOf e=m)(C:∀d,d<g->∀o y,Xa enc P w base spare held d e o=some y->o.length=m->∃x:α,ElOk w L o (cells x)){o:List Value}{y:DataW HH×List MemPlace}(h:Xa enc P w base spare held g t o=some y):∃(l:List α) (v:Value),o=[v]/\v.oneCell'=true/\∀ι,VR w L ι v (encL m cells l):=by
 rcases DataW.trod_slice Q h with ⟨rfl,rfl⟩|⟨a,len,cap,B,J,n,rfl,rfl,rfl,S,N,M,T,c,_,_⟩
 .exact⟨[],_,rfl,rfl,λι=>.sl0 _ _ _⟩
 .rw[O]at c;have key:∀i:Fin len,∃p:α×List Value,p.2.length=m/\(∀j,j<m->w.cell? ((a.add (i.1*m)).add j)=some (p.2.getD j undef))/\ElOk w L p.2 (cells p.1):=by intro i;have s:=c i.1 i.2;rw[Wa (by omega),Option.bind_eq_some_iff]at s;obtain⟨A,u,q⟩:=s;obtain⟨D,K⟩:=zAT u;obtain⟨x,R⟩:=C _ (Nat.lt_succ_self _) _ _ q D;exact⟨(x,A),D,K,R⟩
  obtain⟨F,H⟩:=Classical.axiomOfChoice key;refine⟨List.ofFn λi=>(F i).1,_,rfl,rfl,λι=>?_⟩;have k:(List.ofFn λi=>(F i).1).length=len:=List.length_ofFn;unfold encL;rw[k];refine .sl ι a m len cap _ (λi j=>if c:i<len then(F ⟨i,c⟩).2.getD j undef else undef) N (by unfold maxLen at M;unfold big;omega) (λi j c I=>?_) (λ_=>hL _) (λi j c I=>?_)
  .obtain⟨s,u,q⟩:=H ⟨i,c⟩;rw[dif_pos c];exact⟨u j I,(q j (by omega)).2⟩
  .obtain⟨s,u,q⟩:=H ⟨i,c⟩;rw[dif_pos c];have e:((List.ofFn λi=>(F i).1).map cells).getD i []=cells (F ⟨i,c⟩).1:=by rw[zh3 (a:=(F ⟨i,c⟩).1)];rw[Wa (by rw[k];exact c),List.getElem_ofFn]
   rw[e];exact(q j (by omega)).1
theorem zLJ:∀(k d:Nat),d<=k->∀(o:List Value)(y:DataW HH×List MemPlace),Xa enc Z9 w base spare held d 44 o=some y->∃e:Ex,ElOk w L o (encX e):=by
 intro k
 induction k with
 |zero=>intro d Q o y h;obtain⟨g,n,F,_⟩:=Xb Tryz.underlying44 h;omega
 |succ k R=>
 intro d Q o y h;obtain⟨g,n,rfl,rfl,m,D,u⟩:=Xb Tryz.underlying44 h;have H:Tryz.prog.cellsOf 44=5:=by kernel_rfl
 have q:Tryz.prog.cellsOf 3=1:=by kernel_rfl
 have s:Tryz.prog.cellsOf 24=1:=by kernel_rfl
 have t:Tryz.prog.cellsOf 42=1:=by kernel_rfl
 rw[H]at m;have c:∀i,i<5->g[i]?=some (g.getD i (.nil,[])):=λi O=>by rw[List.getD_eq_getElem?_getD,Wa (by rw[D];exact O)];rfl
 match o,m with
 |[c0,c1,c2,c3,c4],_=>
  have v:Xa enc Z9 w base spare held n 3 (([c0,c1,c2,c3,c4].drop 0).take (Tryz.prog.cellsOf 3))=some (g.getD 0 (.nil,[])):=(u 0 _ rfl).trans (c 0 (by decide));rw[q]at v;replace v:Xa enc Z9 w base spare held n 3 [c0]=some (g.getD 0 (.nil,[])):=v;have x:Xa enc Z9 w base spare held n 24 (([c0,c1,c2,c3,c4].drop 1).take (Tryz.prog.cellsOf 24))=some (g.getD 1 (.nil,[])):=(u 1 _ rfl).trans (c 1 (by decide));rw[s]at x;replace x:Xa enc Z9 w base spare held n 24 [c1]=some (g.getD 1 (.nil,[])):=x;have A:Xa enc Z9 w base spare held n 3 (([c0,c1,c2,c3,c4].drop 2).take (Tryz.prog.cellsOf 3))=some (g.getD 2 (.nil,[])):=(u 2 _ rfl).trans (c 2 (by decide));rw[q]at A;replace A:Xa enc Z9 w base spare held n 3 [c2]=some (g.getD 2 (.nil,[])):=A;have B:Xa enc Z9 w base spare held n 3 (([c0,c1,c2,c3,c4].drop 3).take (Tryz.prog.cellsOf 3))=some (g.getD 3 (.nil,[])):=(u 3 _ rfl).trans (c 3 (by decide));rw[q]at B;replace B:Xa enc Z9 w base spare held n 3 [c3]=some (g.getD 3 (.nil,[])):=B;have C:Xa enc Z9 w base spare held n 42 (([c0,c1,c2,c3,c4].drop 4).take (Tryz.prog.cellsOf 42))=some (g.getD 4 (.nil,[])):=(u 4 _ rfl).trans (c 4 (by decide));rw[t]at C;replace C:Xa enc Z9 w base spare held n 42 [c4]=some (g.getD 4 (.nil,[])):=C;obtain⟨T,F,Y⟩:=zmY Tryz.underlying3 v;obtain⟨U,I,Z⟩:=zmY Tryz.underlying24 x;obtain⟨V,J,w2⟩:=zmY Tryz.underlying3 A;obtain⟨W,K,w3⟩:=zmY Tryz.underlying3 B;obtain⟨S,v4,M,X,w4⟩:=zAo (L:=L) (α:=Ex) (cells:=encX) hL Tryz.underlying42 H (λp N o y h _=>R p (by omega) o y h) C;cases F;cases I;cases J;cases K;cases M;refine⟨.mk T U V W S,λj P=>?_⟩;rw[zdh]
  match j with
  |0=>exact⟨.int _ _ _ Y,rfl⟩
  |1=>exact⟨.int _ _ _ Z,rfl⟩
  |2=>exact⟨.int _ _ _ w2,rfl⟩
  |3=>exact⟨.int _ _ _ w3,rfl⟩
  |4=>exact⟨w4 _,X⟩
  |j+5=>exact absurd P (by simp)
end
theorem zLg{H}{v}{b}(h:Frz H v (.bool b)):v=.bool b:=by unfold Frz at h;generalize c:AV.bool b=x at h;cases h<;>first|(cases c;done)|(cases c;rfl)
theorem row_true{P}{f}{args}{vs}{w}(h:zw P f args (·=.bool true))(s:∀L:Nat->Prop,(∀b,¬L b)->VRs w L noI vs.toList args):
  Calls P f vs w λe j=>e=.returned (.bool true)/\Below w.heap.size w j:=by
 have g:∀b,¬Lt (λ_=>False) noI [] b:=λb d=>d.elim (λh=>h) (ztf b)
 refine(h w (λ_=>False) noI vs (.empty (λb d=>d.elim)) (s _ g)).mono λe j ⟨v,u,x,t,a,m,c,_,n,y,o,p⟩=>?_
 subst m p;have:=zLg o;subst this;cases n;exact⟨rfl,c.ext.os,c.ext.tape,c.ext.output,c.ext.size,λk q=>c.ext.block k q (ztf k)⟩
end Go.Ab
namespace Go.Ab
def zli:Nat:=8
def ze7:Nat:=11
def zmj:Nat:=12
def zoZ:Nat:=13
def zlA:Nat:=16
def zlg:Nat:=17
def zgF:Nat:=18
def znZ:Nat:=19
def zfC:Nat:=20
def zmP:Nat:=22
def znr:Nat:=23
def ztL:Nat:=28
def zgC:Nat:=29
def zbl:Nat:=31
def zrK:Nat:=32
def zla:Nat:=33
def zsJ:Nat:=34
def zgA:Nat:=35
def zbq:Nat:=36
def zg9:Nat:=37
def zgr:Nat:=38
def ziD:Nat:=39
def zD:Nat:=40
def zeI:Nat:=41
def znO:Nat:=43
def zgq:Nat:=44
def zrO:Nat:=45
def znm:Nat:=47
def zah:Nat:=50
def zf1:Nat:=51
def zck:Nat:=52
def zY:Nat:=53
def zaj:Nat:=54
def zp7:Nat:=55
def zmc:Nat:=56
def zh5:Nat:=57
def zgv:Nat:=58
def zi9:Nat:=59
def za5:Nat:=60
def zeA:Nat:=61
def zau:Nat:=62
def zdF:Nat:=63
def zbR:Nat:=64
def zi7:Nat:=66
def zmo:Nat:=67
def zpr:Nat:=70
def zpZ:Nat:=72
def zbw:Nat:=73
def zbM:Nat:=74
def zaS:Nat:=75
def za8:Nat:=76
def zex:Nat:=77
def zaC:Nat:=78
def zbB:Nat:=79
def zeG:Nat:=80
def zbx:Nat:=81
def zfn:Nat:=82
def znK:Nat:=83
def zlW:Nat:=84
def zj5:Nat:=85
def zmi:Nat:=86
def zp1:Nat:=87
def zrA:Nat:=88
def ziJ:Nat:=89
def zc8:Nat:=90
def zce:Nat:=91
def zgo:Nat:=92
def zkJ:Nat:=93
def zc1:Nat:=94
def zbN:Nat:=95
def zhN:Nat:=96
def zfo:Nat:=97
def zeU:Nat:=98
def zmp:Nat:=102
def zhz:Nat:=103
def zpp:Nat:=107
def zn9:Nat:=108
def zay:Nat:=109
def zll:Nat:=110
def zac:Nat:=111
def ztO:Nat:=112
def znn:Nat:=113
def zfr:Nat:=114
def zaV:Nat:=115
def zcv:Nat:=116
def zkh:Nat:=117
def zi4:Nat:=118
def zmh:Nat:=119
def zbX:Nat:=120
def zaz:Nat:=121
def zh4:Nat:=122
def zdL:Nat:=123
def zfy:Nat:=124
def zkT:Nat:=125
def zcb:Nat:=126
def ztw:Nat:=137
def znN:Nat:=138
def zrS:Nat:=139
def zkK:Nat:=140
def zbs:Nat:=141
def znW:Nat:=142
def zhr:Nat:=147
def zwP:Nat:=148
def zgP:Nat:=149
def zbk:Nat:=150
def zp2:Nat:=151
def zns:Nat:=152
def zbg:Nat:=153
def za0:Nat:=154
def zl3:Nat:=155
def zbr:Nat:=156
def zkb:Nat:=157
def zn0:Nat:=158
def zbc:Nat:=159
def zbY:Nat:=160
def za9:Nat:=161
def zby:Nat:=162
def zbo:Nat:=163
def zaD:Nat:=164
def zW:Nat:=165
def za1:Nat:=166
def zbK:Nat:=167
def ztD:Nat:=168
def ziG:Nat:=169
def zeq:Nat:=170
def zdX:Nat:=171
def ziu:Nat:=172
def zlQ:Nat:=180
def ziH:Nat:=181
def zpW:Nat:=182
def zkl:Nat:=183
def zfv:Nat:=184
def zd0:Nat:=185
def zo2:Nat:=186
def zmm:Nat:=187
def zaO:Nat:=188
def zai:Nat:=189
def zer:Nat:=190
def zeS:Nat:=191
def zaf:Nat:=192
def zbm:Nat:=193
def zeY:Nat:=194
def zda:Nat:=195
def zeu:Nat:=196
def zaG:Nat:=203
end Go.Ab
