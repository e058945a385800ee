/-
  Part 7 of the proof: how the calls of this program run, over values instead of memory, and what each function computes.
-/
import Derived.Test.YtihlaappclhhaaaGreatRows
import Derived.WalkKit
import Derived.OpenShut
import Derived.ShutString
import Derived.ChangeOld
import Derived.Below
import Derived.Test.YtihlaappclhhaaaGreatProg
import Derived.Test.YtihlaappclhhaaaGreatKf
set_option maxRecDepth 100000
set_option linter.unusedVariables false
set_option linter.unusedSimpArgs false
set_option linter.unnecessarySimpa false
set_option linter.unusedSectionVars false
open Go.DataW renaming trod->Xa,trod_struct->Xb
open Go.Proofs.Tryz renaming prog->Z9
open List renaming getElem?_eq_getElem→Wa
namespace Go.Ab
open Go.RowKit
inductive Ex where
 |mk (op n var width:Int) (l:List Ex)
structure NdF where
 kind:Int
 block:Int
 label:Int
inductive Nd where
 |mk (f:NdF) (cond:List Ex) (l:List Nd)
def Ex.l:Ex->List Ex
 |.mk _ _ _ _ l=>l
def Nd.f:Nd->NdF
 |.mk f _ _=>f
def Nd.cond:Nd->List Ex
 |.mk _ c _=>c
def Nd.l:Nd->List Nd
 |.mk _ _ l=>l
mutual
def encX:Ex->List AV
 |.mk op n v w l=>[.int .i64 op,.int .u32 n,.int .i64 v,.int .i64 w,.sl 5 l.length (λi j=>((zIx l).getD i []).getD j .undef)]
def zIx:List Ex->List (List AV)
 |[]=>[]
 |e::l=>encX e::zIx l
end
theorem zAu:∀l:List Ex,zIx l=l.map encX
 |[]=>by rw[zIx];rfl
 |e::l=>by rw[zIx,zAu l];rfl
theorem zdw(op n v w)(l):encX (.mk op n v w l)=[.int .i64 op,.int .u32 n,.int .i64 v,.int .i64 w,encL 5 encX l]:=by rw[encX,zAu];rfl
mutual
def encN:Nd->List AV
 |.mk f c l=>[.int .i64 f.kind,.int .i64 f.block,.int .i64 f.label,encL 5 encX c,.sl 5 l.length (λi j=>((zII l).getD i []).getD j .undef)]
def zII:List Nd->List (List AV)
 |[]=>[]
 |e::l=>encN e::zII l
end
theorem zAo:∀l:List Nd,zII l=l.map encN
 |[]=>by rw[zII];rfl
 |e::l=>by rw[zII,zAo l];rfl
theorem zLl(f)(c)(l):encN (.mk f c l)=[.int .i64 f.kind,.int .i64 f.block,.int .i64 f.label,encL 5 encX c,encL 5 encN l]:=by rw[encN,zAo];rfl
mutual
def zhO:Ex->Int->Int->Int
 |.mk _ _ _ _ l,b,left=>if b<1\/left<1\/4<l.length then -1 else zej l (b-1) (left-1)
def zej:List Ex->Int->Int->Int
 |[],_,n=>n
 |e::l,b,n=>if n<0 then n else zej l b (zhO e b n)
end
end Go.Ab
namespace Go.Ab
open Go.RowKit Go.Proofs Go.Proofs.YtihlaappclhhaaaGreat
section
variable {HH:Type}{enc:TypeId×Value->HH}{w:World}{base:Nat}{spare:Nat->Bool}{held:Bool}{L:Nat->Prop} (hL:∀b,¬L b)
include hL
theorem zAn{P:Program}{α:Type}{cells:α->List AV}{t e:TypeId}{m:Nat}{g:Nat}(Q:P.underlying t=some (.slice e))(O:P.cellsOf e=m)(C:∀d,d<g->∀o y,Xa enc P w base spare held d e o=some y->o.length=m->∃x:α,ElOk w L o (cells x)){o:List Value}{y:DataW HH×List MemPlace}(h:Xa enc P w base spare held g t o=some y):∃(l:List α) (v:Value),o=[v]/\v.oneCell'=true/\∀ι,VR w L ι v (encL m cells l):=by
 rcases DataW.trod_slice Q h with ⟨rfl,rfl⟩|⟨a,len,cap,B,J,n,rfl,rfl,rfl,S,N,M,T,c,_,_⟩
 .exact⟨[],_,rfl,rfl,λι=>.sl0 _ _ _⟩
 .rw[O]at c;have key:∀i:Fin len,∃p:α×List Value,p.2.length=m/\(∀j,j<m->w.cell? ((a.add (i.1*m)).add j)=some (p.2.getD j undef))/\ElOk w L p.2 (cells p.1):=by intro i;have s:=c i.1 i.2;rw[Wa (by omega),Option.bind_eq_some_iff]at s;obtain⟨A,u,q⟩:=s;obtain⟨D,K⟩:=zAM u;obtain⟨x,R⟩:=C _ (Nat.lt_succ_self _) _ _ q D;exact⟨(x,A),D,K,R⟩
  obtain⟨F,H⟩:=Classical.axiomOfChoice key;refine⟨List.ofFn λi=>(F i).1,_,rfl,rfl,λι=>?_⟩;have k:(List.ofFn λi=>(F i).1).length=len:=List.length_ofFn;unfold encL;rw[k];refine .sl ι a m len cap _ (λi j=>if c:i<len then(F ⟨i,c⟩).2.getD j undef else undef) N (by unfold maxLen at M;unfold big;omega) (λi j c I=>?_) (λ_=>hL _) (λi j c I=>?_)
  .obtain⟨s,u,q⟩:=H ⟨i,c⟩;rw[dif_pos c];exact⟨u j I,(q j (by omega)).2⟩
  .obtain⟨s,u,q⟩:=H ⟨i,c⟩;rw[dif_pos c];have e:((List.ofFn λi=>(F i).1).map cells).getD i []=cells (F ⟨i,c⟩).1:=by rw[zhv (a:=(F ⟨i,c⟩).1)];rw[Wa (by rw[k];exact c),List.getElem_ofFn]
   rw[e];exact(q j (by omega)).1
theorem zLn:∀(k d:Nat),d<=k->∀(o:List Value)(y:DataW HH×List MemPlace),Xa enc Z9 w base spare held d 44 o=some y->∃e:Ex,ElOk w L o (encX e):=by
 intro k
 induction k with
 |zero=>intro d Q o y h;obtain⟨g,n,F,_⟩:=Xb Tryz.underlying44 h;omega
 |succ k R=>
 intro d Q o y h;obtain⟨g,n,rfl,rfl,m,D,u⟩:=Xb Tryz.underlying44 h;have H:Tryz.prog.cellsOf 44=5:=by kernel_rfl
 have q:Tryz.prog.cellsOf 3=1:=by kernel_rfl
 have s:Tryz.prog.cellsOf 24=1:=by kernel_rfl
 have t:Tryz.prog.cellsOf 42=1:=by kernel_rfl
 rw[H]at m;have c:∀i,i<5->g[i]?=some (g.getD i (.nil,[])):=λi O=>by rw[List.getD_eq_getElem?_getD,Wa (by rw[D];exact O)];rfl
 match o,m with
 |[c0,c1,c2,c3,c4],_=>
  have v:Xa enc Z9 w base spare held n 3 (([c0,c1,c2,c3,c4].drop 0).take (Tryz.prog.cellsOf 3))=some (g.getD 0 (.nil,[])):=(u 0 _ rfl).trans (c 0 (by decide));rw[q]at v;replace v:Xa enc Z9 w base spare held n 3 [c0]=some (g.getD 0 (.nil,[])):=v;have x:Xa enc Z9 w base spare held n 24 (([c0,c1,c2,c3,c4].drop 1).take (Tryz.prog.cellsOf 24))=some (g.getD 1 (.nil,[])):=(u 1 _ rfl).trans (c 1 (by decide));rw[s]at x;replace x:Xa enc Z9 w base spare held n 24 [c1]=some (g.getD 1 (.nil,[])):=x;have A:Xa enc Z9 w base spare held n 3 (([c0,c1,c2,c3,c4].drop 2).take (Tryz.prog.cellsOf 3))=some (g.getD 2 (.nil,[])):=(u 2 _ rfl).trans (c 2 (by decide));rw[q]at A;replace A:Xa enc Z9 w base spare held n 3 [c2]=some (g.getD 2 (.nil,[])):=A;have B:Xa enc Z9 w base spare held n 3 (([c0,c1,c2,c3,c4].drop 3).take (Tryz.prog.cellsOf 3))=some (g.getD 3 (.nil,[])):=(u 3 _ rfl).trans (c 3 (by decide));rw[q]at B;replace B:Xa enc Z9 w base spare held n 3 [c3]=some (g.getD 3 (.nil,[])):=B;have C:Xa enc Z9 w base spare held n 42 (([c0,c1,c2,c3,c4].drop 4).take (Tryz.prog.cellsOf 42))=some (g.getD 4 (.nil,[])):=(u 4 _ rfl).trans (c 4 (by decide));rw[t]at C;replace C:Xa enc Z9 w base spare held n 42 [c4]=some (g.getD 4 (.nil,[])):=C;obtain⟨T,F,Y⟩:=zmM Tryz.underlying3 v;obtain⟨U,I,Z⟩:=zmM Tryz.underlying24 x;obtain⟨V,J,w2⟩:=zmM Tryz.underlying3 A;obtain⟨W,K,w3⟩:=zmM Tryz.underlying3 B;obtain⟨S,v4,M,X,w4⟩:=zAn (L:=L) (α:=Ex) (cells:=encX) hL Tryz.underlying42 H (λp N o y h _=>R p (by omega) o y h) C;cases F;cases I;cases J;cases K;cases M;refine⟨.mk T U V W S,λj P=>?_⟩;rw[zdw]
  match j with
  |0=>exact⟨.int _ _ _ Y,rfl⟩
  |1=>exact⟨.int _ _ _ Z,rfl⟩
  |2=>exact⟨.int _ _ _ w2,rfl⟩
  |3=>exact⟨.int _ _ _ w3,rfl⟩
  |4=>exact⟨w4 _,X⟩
  |j+5=>exact absurd P (by simp)
end
theorem zKY{H}{v}{b}(h:Frz H v (.bool b)):v=.bool b:=by unfold Frz at h;generalize c:AV.bool b=x at h;cases h<;>first|(cases c;done)|(cases c;rfl)
theorem row_true{P}{f}{args}{vs}{w}(h:zq P f args (·=.bool true))(s:∀L:Nat->Prop,(∀b,¬L b)->VRs w L noI vs.toList args):
  Calls P f vs w λe j=>e=.returned (.bool true)/\Below w.heap.size w j:=by
 have g:∀b,¬Lt (λ_=>False) noI [] b:=λb d=>d.elim (λh=>h) (ztn b)
 refine(h w (λ_=>False) noI vs (.empty (λb d=>d.elim)) (s _ g)).mono λe j ⟨v,u,x,t,a,m,c,_,n,y,o,p⟩=>?_
 subst m p;have:=zKY o;subst this;cases n;exact⟨rfl,c.ext.os,c.ext.tape,c.ext.output,c.ext.size,λk q=>c.ext.block k q (ztn k)⟩
end Go.Ab
namespace Go.Ab
def zob:Nat:=5
def zmy:Nat:=6
def zhJ:Nat:=7
def za5:Nat:=11
def zie:Nat:=12
def zaY:Nat:=13
def zlg:Nat:=16
def zhC:Nat:=17
def zeb:Nat:=18
def zS:Nat:=19
def zea:Nat:=20
def zzX:Nat:=21
def zgB:Nat:=22
def zhV:Nat:=23
def zwr:Nat:=24
def zv7:Nat:=25
def zbx:Nat:=26
def ziv:Nat:=27
def zql:Nat:=28
def zd9:Nat:=29
def zmd:Nat:=30
def zsS:Nat:=34
def zgp:Nat:=35
def zbQ:Nat:=36
def zgM:Nat:=37
def zgf:Nat:=38
def zh5:Nat:=39
def zD:Nat:=40
def zeu:Nat:=41
def znH:Nat:=43
def ziH:Nat:=44
def zrU:Nat:=45
def zhD:Nat:=46
def znc:Nat:=47
def zme:Nat:=48
def zpg:Nat:=49
def zai:Nat:=50
def zff:Nat:=52
def ziD:Nat:=54
def zhx:Nat:=57
def zgk:Nat:=58
def ziF:Nat:=59
def za4:Nat:=60
def zel:Nat:=61
def zav:Nat:=62
def zdq:Nat:=63
def zbK:Nat:=64
def zgd:Nat:=66
def zig:Nat:=67
def zrB:Nat:=68
def zh7:Nat:=69
def zpH:Nat:=70
def znA:Nat:=71
def zmJ:Nat:=72
def zbM:Nat:=76
def zbl:Nat:=78
def zcR:Nat:=79
def zfd:Nat:=82
def zpR:Nat:=84
def znb:Nat:=85
def zrJ:Nat:=88
def zib:Nat:=89
def zcX:Nat:=90
def zb8:Nat:=91
def zge:Nat:=92
def zkk:Nat:=93
def zcP:Nat:=94
def zbG:Nat:=95
def zhi:Nat:=96
def zfg:Nat:=97
def zeH:Nat:=98
def zma:Nat:=102
def zg3:Nat:=103
def zo9:Nat:=104
def zjI:Nat:=105
def zn2:Nat:=106
def ziq:Nat:=107
def zjJ:Nat:=108
def zay:Nat:=109
def zkZ:Nat:=110
def zas:Nat:=111
def ztX:Nat:=112
def zhT:Nat:=113
def zfk:Nat:=114
def zaT:Nat:=115
def zcn:Nat:=116
def zjK:Nat:=117
def ziA:Nat:=118
def zl6:Nat:=119
def zbR:Nat:=120
def zaA:Nat:=121
def zhw:Nat:=122
def zdv:Nat:=123
def zfr:Nat:=124
def zkw:Nat:=125
def zb5:Nat:=126
def ztC:Nat:=137
def znG:Nat:=138
def zrZ:Nat:=139
def zkl:Nat:=140
def zbn:Nat:=141
def znP:Nat:=142
def zwz:Nat:=143
def ztW:Nat:=144
def znU:Nat:=145
def zl5:Nat:=146
def zgY:Nat:=147
def zwN:Nat:=148
def zgy:Nat:=149
def zbi:Nat:=150
def zqe:Nat:=151
def zni:Nat:=152
def zbe:Nat:=153
def zaZ:Nat:=154
def zlQ:Nat:=155
def zbm:Nat:=156
def zjB:Nat:=157
def znS:Nat:=158
def zbb:Nat:=159
def zbS:Nat:=160
def za8:Nat:=161
def zbt:Nat:=162
def zbk:Nat:=163
def zaC:Nat:=164
def zU:Nat:=165
def za0:Nat:=166
def zbD:Nat:=167
def ztK:Nat:=168
def zh8:Nat:=169
def zd8:Nat:=170
def zdF:Nat:=171
def zhW:Nat:=172
def zlA:Nat:=180
def zh9:Nat:=181
def zp9:Nat:=182
def zjQ:Nat:=183
def zfn:Nat:=184
def zdJ:Nat:=185
def zpi:Nat:=186
def zl8:Nat:=187
def zaK:Nat:=188
def zaj:Nat:=189
def zec:Nat:=190
def zeF:Nat:=191
def zaf:Nat:=192
def zbj:Nat:=193
def zeO:Nat:=194
def zc0:Nat:=195
def zeg:Nat:=196
def zaF:Nat:=203
end Go.Ab
