/-
  Part 7 of the proof: how the calls of this program run, over values instead of memory, and what each function computes.
-/
import Derived.Test.YtmlhipilbnjhiaaGreatRows
import Derived.WalkKit
import Derived.OpenShut
import Derived.ShutString
import Derived.ChangeOld
import Derived.Below
import Derived.Test.YtmlhipilbnjhiaaGreatProg
import Derived.KernelRfl
import Derived.Test.YtmlhipilbnjhiaaGreatPf
set_option maxRecDepth 100000
set_option linter.unusedVariables false
set_option linter.unusedSimpArgs false
set_option linter.unnecessarySimpa false
set_option linter.unusedSectionVars false
open Go.DataW renaming trod->Xa,trod_struct->Xb
open Go.Proofs.Tryz renaming prog->Z9
open List renaming getElem?_eq_getElem→Wa,drop_eq_getElem_cons→Wc
namespace Go.Ab
open Go.RowKit
inductive Ex where
 |mk (op n var width:Int) (l:List Ex)
structure NdF where
 kind:Int
 block:Int
 label:Int
inductive Nd where
 |mk (f:NdF) (cond:List Ex) (l:List Nd)
def Ex.l:Ex->List Ex
 |.mk _ _ _ _ l=>l
def Nd.f:Nd->NdF
 |.mk f _ _=>f
def Nd.cond:Nd->List Ex
 |.mk _ c _=>c
def Nd.l:Nd->List Nd
 |.mk _ _ l=>l
mutual
def encX:Ex->List AV
 |.mk op n v w l=>[.int .i64 op,.int .u32 n,.int .i64 v,.int .i64 w,.sl 5 l.length (λi j=>((zEM l).getD i []).getD j .undef)]
def zEM:List Ex->List (List AV)
 |[]=>[]
 |e::l=>encX e::zEM l
end
theorem zva:∀l:List Ex,zEM l=l.map encX
 |[]=>by rw[zEM];rfl
 |e::l=>by rw[zEM,zva l];rfl
theorem zjz(op n v w)(l):encX (.mk op n v w l)=[.int .i64 op,.int .u32 n,.int .i64 v,.int .i64 w,encL 5 encX l]:=by rw[encX,zva];rfl
mutual
def encN:Nd->List AV
 |.mk f c l=>[.int .i64 f.kind,.int .i64 f.block,.int .i64 f.label,encL 5 encX c,.sl 5 l.length (λi j=>((zE3 l).getD i []).getD j .undef)]
def zE3:List Nd->List (List AV)
 |[]=>[]
 |e::l=>encN e::zE3 l
end
theorem zu6:∀l:List Nd,zE3 l=l.map encN
 |[]=>by rw[zE3];rfl
 |e::l=>by rw[zE3,zu6 l];rfl
theorem zbj(f)(c)(l):encN (.mk f c l)=[.int .i64 f.kind,.int .i64 f.block,.int .i64 f.label,encL 5 encX c,encL 5 encN l]:=by rw[encN,zu6];rfl
mutual
def zgZ:Ex->Int->Int->Int
 |.mk _ _ _ _ l,b,left=>if b<1\/left<1\/4<l.length then -1 else zda l (b-1) (left-1)
def zda:List Ex->Int->Int->Int
 |[],_,n=>n
 |e::l,b,n=>if n<0 then n else zda l b (zgZ e b n)
end
def zjv:List Ex->Bool
 |[]=>true
 |e::l=>if zgZ e 70 200<0 then false else zjv l
mutual
def allN:Nd->List Nd
 |.mk f c l=>.mk f c l::zaI l
def zaI:List Nd->List Nd
 |[]=>[]
 |e::l=>allN e++zaI l
end
mutual
def zco:Nd->Nat
 |.mk _ _ l=>1+zaL l
def zaL:List Nd->Nat
 |[]=>0
 |e::l=>zco e+zaL l
end
mutual
theorem zoe:∀n:Nd,(allN n).length=zco n
 |.mk f c l=>by rw[allN,zco,List.length_cons,zve l];omega
theorem zve:∀l:List Nd,(zaI l).length=zaL l
 |[]=>by rw[zaI,zaL];rfl
 |e::l=>by rw[zaI,zaL,List.length_append,zoe e,zve l]
end
end Go.Ab
namespace Go.Ab
open Go.RowKit Go.Proofs Go.Proofs.YtmlhipilbnjhiaaGreat
section
variable {HH:Type}{enc:TypeId×Value->HH}{w:World}{base:Nat}{spare:Nat->Bool}{held:Bool}{L:Nat->Prop} (hL:∀b,¬L b)
include hL
theorem zu5{P:Program}{α:Type}{cells:α->List AV}{t e:TypeId}{m:Nat}{g:Nat}(O:P.underlying t=some (.slice e))(N:P.cellsOf e=m)(B:∀d,d<g->∀o y,Xa enc P w base spare held d e o=some y->o.length=m->∃x:α,ElOk w L o (cells x)){o:List Value}{y:DataW HH×List MemPlace}(h:Xa enc P w base spare held g t o=some y):∃(l:List α) (v:Value),o=[v]/\v.oneCell'=true/\∀ι,VR w L ι v (encL m cells l):=by
 rcases DataW.trod_slice O h with ⟨rfl,rfl⟩|⟨a,len,cap,A,I,n,rfl,rfl,rfl,R,M,K,S,c,_,_⟩
 .exact⟨[],_,rfl,rfl,λι=>.sl0 _ _ _⟩
 .rw[N]at c;have key:∀i:Fin len,∃p:α×List Value,p.2.length=m/\(∀j,j<m->w.cell? ((a.add (i.1*m)).add j)=some (p.2.getD j undef))/\ElOk w L p.2 (cells p.1):=by intro i;have s:=c i.1 i.2;rw[Wa (by omega),Option.bind_eq_some_iff]at s;obtain⟨z,u,q⟩:=s;obtain⟨C,J⟩:=zvq u;obtain⟨x,Q⟩:=B _ (Nat.lt_succ_self _) _ _ q C;exact⟨(x,z),C,J,Q⟩
  obtain⟨F,D⟩:=Classical.axiomOfChoice key;refine⟨List.ofFn λi=>(F i).1,_,rfl,rfl,λι=>?_⟩;have k:(List.ofFn λi=>(F i).1).length=len:=List.length_ofFn;unfold encL;rw[k];refine .sl ι a m len cap _ (λi j=>if c:i<len then(F ⟨i,c⟩).2.getD j undef else undef) M (by unfold maxLen at K;unfold big;omega) (λi j c H=>?_) (λ_=>hL _) (λi j c H=>?_)
  .obtain⟨s,u,q⟩:=D ⟨i,c⟩;rw[dif_pos c];exact⟨u j H,(q j (by omega)).2⟩
  .obtain⟨s,u,q⟩:=D ⟨i,c⟩;rw[dif_pos c];have e:((List.ofFn λi=>(F i).1).map cells).getD i []=cells (F ⟨i,c⟩).1:=by rw[zfS (a:=(F ⟨i,c⟩).1)];rw[Wa (by rw[k];exact c),List.getElem_ofFn]
   rw[e];exact(q j (by omega)).1
theorem zIg:∀(k d:Nat),d<=k->∀(o:List Value)(y:DataW HH×List MemPlace),Xa enc Z9 w base spare held d 60 o=some y->∃e:Ex,ElOk w L o (encX e):=by
 intro k
 induction k with
 |zero=>intro d P o y h;obtain⟨g,n,D,_⟩:=Xb Tryz.underlying60 h;omega
 |succ k Q=>
 intro d P o y h;obtain⟨g,n,rfl,rfl,m,C,u⟩:=Xb Tryz.underlying60 h;have F:Tryz.prog.cellsOf 60=5:=by kernel_rfl
 have q:Tryz.prog.cellsOf 3=1:=by kernel_rfl
 have s:Tryz.prog.cellsOf 22=1:=by kernel_rfl
 have t:Tryz.prog.cellsOf 28=1:=by kernel_rfl
 rw[F]at m;have c:∀i,i<5->g[i]?=some (g.getD i (.nil,[])):=λi N=>by rw[List.getD_eq_getElem?_getD,Wa (by rw[C];exact N)];rfl
 match o,m with
 |[c0,c1,c2,c3,c4],_=>
  have v:Xa enc Z9 w base spare held n 3 (([c0,c1,c2,c3,c4].drop 0).take (Tryz.prog.cellsOf 3))=some (g.getD 0 (.nil,[])):=(u 0 _ rfl).trans (c 0 (by decide));rw[q]at v;replace v:Xa enc Z9 w base spare held n 3 [c0]=some (g.getD 0 (.nil,[])):=v;have x:Xa enc Z9 w base spare held n 22 (([c0,c1,c2,c3,c4].drop 1).take (Tryz.prog.cellsOf 22))=some (g.getD 1 (.nil,[])):=(u 1 _ rfl).trans (c 1 (by decide));rw[s]at x;replace x:Xa enc Z9 w base spare held n 22 [c1]=some (g.getD 1 (.nil,[])):=x;have z:Xa enc Z9 w base spare held n 3 (([c0,c1,c2,c3,c4].drop 2).take (Tryz.prog.cellsOf 3))=some (g.getD 2 (.nil,[])):=(u 2 _ rfl).trans (c 2 (by decide));rw[q]at z;replace z:Xa enc Z9 w base spare held n 3 [c2]=some (g.getD 2 (.nil,[])):=z;have A:Xa enc Z9 w base spare held n 3 (([c0,c1,c2,c3,c4].drop 3).take (Tryz.prog.cellsOf 3))=some (g.getD 3 (.nil,[])):=(u 3 _ rfl).trans (c 3 (by decide));rw[q]at A;replace A:Xa enc Z9 w base spare held n 3 [c3]=some (g.getD 3 (.nil,[])):=A;have B:Xa enc Z9 w base spare held n 28 (([c0,c1,c2,c3,c4].drop 4).take (Tryz.prog.cellsOf 28))=some (g.getD 4 (.nil,[])):=(u 4 _ rfl).trans (c 4 (by decide));rw[t]at B;replace B:Xa enc Z9 w base spare held n 28 [c4]=some (g.getD 4 (.nil,[])):=B;obtain⟨S,D,X⟩:=zjZ Tryz.underlying3 v;obtain⟨T,H,Y⟩:=zjZ Tryz.underlying22 x;obtain⟨U,I,Z⟩:=zjZ Tryz.underlying3 z;obtain⟨V,J,w3⟩:=zjZ Tryz.underlying3 A;obtain⟨R,v4,K,W,w4⟩:=zu5 (L:=L) (α:=Ex) (cells:=encX) hL Tryz.underlying28 F (λp M o y h _=>Q p (by omega) o y h) B;cases D;cases H;cases I;cases J;cases K;refine⟨.mk S T U V R,λj O=>?_⟩;rw[zjz]
  match j with
  |0=>exact⟨.int _ _ _ X,rfl⟩
  |1=>exact⟨.int _ _ _ Y,rfl⟩
  |2=>exact⟨.int _ _ _ Z,rfl⟩
  |3=>exact⟨.int _ _ _ w3,rfl⟩
  |4=>exact⟨w4 _,W⟩
  |j+5=>exact absurd O (by simp)
end
theorem zHJ{H}{v}{b}(h:Frz H v (.bool b)):v=.bool b:=by unfold Frz at h;generalize c:AV.bool b=x at h;cases h<;>first|(cases c;done)|(cases c;rfl)
theorem row_true{P}{f}{args}{vs}{w}(h:zq P f args (·=.bool true))(s:∀L:Nat->Prop,(∀b,¬L b)->VRs w L noI vs.toList args):
  Calls P f vs w λe j=>e=.returned (.bool true)/\Below w.heap.size w j:=by
 have g:∀b,¬Lt (λ_=>False) noI [] b:=λb d=>d.elim (λh=>h) (zpe b)
 refine(h w (λ_=>False) noI vs (.empty (λb d=>d.elim)) (s _ g)).mono λe j ⟨v,u,x,t,a,m,c,_,n,y,o,p⟩=>?_
 subst m p;have:=zHJ o;subst this;cases n;exact⟨rfl,c.ext.os,c.ext.tape,c.ext.output,c.ext.size,λk q=>c.ext.block k q (zpe k)⟩
end Go.Ab
namespace Go.Ab
def zqm:Nat:=2
def znO:Nat:=3
def zlF:Nat:=4
def zlA:Nat:=5
def zmn:Nat:=6
def zjr:Nat:=7
def zeq:Nat:=8
def zen:Nat:=9
def zlK:Nat:=10
def zaA:Nat:=11
def zaK:Nat:=12
def zqf:Nat:=13
def zo0:Nat:=14
def zrW:Nat:=15
def zcK:Nat:=16
def zgs:Nat:=17
def zel:Nat:=18
def zw6:Nat:=19
def zAz:Nat:=20
def zxq:Nat:=21
def zyj:Nat:=22
def zd5:Nat:=23
def zwI:Nat:=24
def zBy:Nat:=25
def zdE:Nat:=26
def zvz:Nat:=27
def zwx:Nat:=28
def zvx:Nat:=29
def zsB:Nat:=30
def ziJ:Nat:=31
def zeU:Nat:=32
def zmA:Nat:=33
def zdC:Nat:=34
def zfz:Nat:=35
def zd3:Nat:=36
def zch:Nat:=37
def ziu:Nat:=38
def zAy:Nat:=39
def zE8:Nat:=40
def zyh:Nat:=41
def zb5:Nat:=42
def za4:Nat:=43
def zB:Nat:=44
def zcH:Nat:=45
def zat:Nat:=46
def zsF:Nat:=47
def zq8:Nat:=48
def zjD:Nat:=49
def zdO:Nat:=50
def znP:Nat:=51
def zn7:Nat:=52
def zor:Nat:=53
def znI:Nat:=54
def znF:Nat:=55
def zO:Nat:=56
def zdW:Nat:=57
def zan:Nat:=58
def zS:Nat:=59
def zar:Nat:=60
def znD:Nat:=61
def zqd:Nat:=62
def zA:Nat:=63
def zaX:Nat:=64
def zqs:Nat:=65
def zAs:Nat:=66
def zw0:Nat:=67
def zuA:Nat:=68
def zAW:Nat:=69
def zvf:Nat:=70
def zv1:Nat:=71
def zv0:Nat:=72
def zwP:Nat:=73
def zwJ:Nat:=74
def zxS:Nat:=75
def zDw:Nat:=76
def zAq:Nat:=77
def ziG:Nat:=78
def zhM:Nat:=79
def zjc:Nat:=80
def zhL:Nat:=81
def zkH:Nat:=82
def zeE:Nat:=83
def zaY:Nat:=84
def zau:Nat:=85
def zdL:Nat:=86
def ze9:Nat:=87
def zbt:Nat:=88
def zaE:Nat:=89
def zC:Nat:=90
def za7:Nat:=91
def zQ:Nat:=92
def zP:Nat:=93
def zAY:Nat:=94
def zuk:Nat:=95
def zyC:Nat:=96
def zrc:Nat:=97
def zu8:Nat:=98
def zx6:Nat:=99
def zeO:Nat:=100
def zgC:Nat:=101
def zbm:Nat:=102
def zly:Nat:=103
def zb7:Nat:=104
def zim:Nat:=105
def zr3:Nat:=106
def zfq:Nat:=107
def zwe:Nat:=108
def zAM:Nat:=109
def ztP:Nat:=110
def ztM:Nat:=111
def zvk:Nat:=112
def zDq:Nat:=113
def zwH:Nat:=114
def zxI:Nat:=115
def zvO:Nat:=116
def zwE:Nat:=117
def zcT:Nat:=118
def zY:Nat:=119
def zaH:Nat:=120
def zfU:Nat:=121
def zeR:Nat:=122
def zaS:Nat:=123
def zeT:Nat:=124
def zcP:Nat:=125
def zbU:Nat:=126
def zd0:Nat:=127
def zdY:Nat:=128
def zam:Nat:=129
def zgE:Nat:=130
def ziW:Nat:=131
def zft:Nat:=132
def zaa:Nat:=133
def zgR:Nat:=134
def zbw:Nat:=135
def zp:Nat:=136
def zbH:Nat:=137
def zvU:Nat:=138
def zsh:Nat:=139
def zg6:Nat:=140
def zaz:Nat:=141
def zfF:Nat:=142
def zhO:Nat:=143
def zfC:Nat:=144
def zgy:Nat:=145
def zfV:Nat:=146
def zdI:Nat:=147
def zsp:Nat:=148
def zfk:Nat:=149
def zho:Nat:=150
def zpt:Nat:=151
def zpB:Nat:=152
def zgq:Nat:=153
def zup:Nat:=154
def zst:Nat:=155
def z8:Nat:=156
def zad:Nat:=157
def zfG:Nat:=158
def ziy:Nat:=159
def zbv:Nat:=160
def zaT:Nat:=161
def zd1:Nat:=162
def zbW:Nat:=163
def zbu:Nat:=164
def zcq:Nat:=165
def zao:Nat:=166
def zaB:Nat:=167
def zb1:Nat:=168
def zX:Nat:=169
def zF:Nat:=170
def zgG:Nat:=171
def zaf:Nat:=172
def zhW:Nat:=173
def zkA:Nat:=174
def zlt:Nat:=175
def zfi:Nat:=176
def ziQ:Nat:=177
def zra:Nat:=178
def zDl:Nat:=179
def zaR:Nat:=180
def zb0:Nat:=181
def zmP:Nat:=182
def zx:Nat:=183
def zab:Nat:=184
def ziK:Nat:=185
def ziS:Nat:=186
end Go.Ab
namespace Go.Ab
open Go.RowKit Go.Proofs
def rdN(s:Nat):Nat×Nat:=bif Nat.blt (s%16) 12 then(s%16,s/16)else bif Nat.blt (s%16) 15 then(12+(s%16-12)*16+s/16%16,s/256)else bif Nat.beq (s/16%256) 255 then(s/65536%16^(s/4096%16),s/65536/16^(s/4096%16))else(60+s/16%256,s/4096)
def kdN:Nat->IntKind|0=>.i8|1=>.i16|2=>.i32|3=>.i64|4=>.u8|5=>.u16|6=>.u32|_=>.u64
def rdI(s:Nat):Int×Nat:=match rdN s with|(n,r)=>(tbI n,r)
def rdB(s:Nat):Bool×Nat:=match rdN s with|(n,r)=>(Nat.beq n 1,r)
def rdK(s:Nat):IntKind×Nat:=match rdN s with|(n,r)=>(kdN n,r)
def rdJ(s:Nat):Option IntKind×Nat:=match rdN s with|(0,r)=>(none,r)|(n+1,r)=>(some (kdN n),r)
def rdL{α:Type}(f:Nat->α×Nat):Nat->Nat->List α×Nat
 |0,s=>([],s)
 |n+1,s=>match f s with|(a,r)=>match rdL f n r with|(l,r)=>(a::l,r)
def rdM{α:Type}(f:Nat->α×Nat)(s:Nat):List α×Nat:=match rdN s with|(n,r)=>rdL f n r
def rdA(s:Nat):AV×Nat:=match rdN s with
 |(0,r)=>match rdI r with|(n,r)=>(.int .i64 n,r)
 |(1,r)=>(.bool false,r)
 |(2,r)=>(.bool true,r)
 |(3,r)=>match rdI r with|(n,r)=>(.int .u32 n,r)
 |(4,r)=>(.nilsl,r)
 |(5,r)=>(.undef,r)
 |(6,r)=>(.nilp,r)
 |(7,r)=>match rdK r with|(k,r)=>match rdI r with|(n,r)=>(.int k n,r)
 |(8,r)=>(.nilmp,r)
 |(_,r)=>(.nilfn,r)
def rdV(s:Nat):AV×Nat:=bif Nat.beq (s%16) 10 then match rdM rdA (s/16)with|(l,r)=>(.agg l,r)else rdA s
def rdO(c s:Nat):AOpd×Nat:=match rdN s with
 |(0,r)=>match rdV r with|(v,r)=>(.c v,r)
 |(1,r)=>(.t c,r)
 |(2,r)=>(.t (c-1),r)
 |(n+3,r)=>(.t n,r)
def rdP(c s:Nat):Option AOpd×Nat:=match rdN s with|(0,r)=>(none,r)|(_,r)=>match rdO c r with|(x,r)=>(some x,r)
def rd2(c s:Nat):(Nat×AOpd)×Nat:=match rdN s with|(n,r)=>match rdO c r with|(x,r)=>((n,x),r)
def rd3(c s:Nat):(Nat×Nat×AOpd)×Nat:=match rdN s with|(n,r)=>match rdN r with|(m,r)=>match rdO c r with|(x,r)=>((n,m,x),r)
def opN:Nat->BinOp|0=>.add|1=>.sub|2=>.mul|3=>.lss|4=>.leq|5=>.gtr|6=>.geq|7=>.eql|8=>.neq|9=>.quo|10=>.rem|11=>.and|12=>.or|13=>.xor|14=>.shl|15=>.shr|_=>.andNot
def rdX(s:Nat):XOp×Nat:=match rdN s with
 |(0,r)=>(.nilck,r)
 |(1,r)=>(.mkmap,r)
 |(2,r)=>(.nope,r)
 |(3,r)=>(.mrange,r)
 |(4,r)=>(.mlen,r)
 |(5,r)=>(.ment,r)
 |(6,r)=>(.capn,r)
 |(7,r)=>match rdN r with|(a,r)=>match rdN r with|(b,r)=>(.aaddr a b,r)
 |(8,r)=>match rdN r with|(a,r)=>match rdN r with|(b,r)=>match rdB r with|(t,r)=>(.aidx a b t,r)
 |(9,r)=>match rdJ r with|(k,r)=>match rdB r with|(b,r)=>match rdV r with|(z,r)=>(.mlook k b z,r)
 |(10,r)=>match rdJ r with|(k,r)=>(.mset k,r)
 |(11,r)=>match rdJ r with|(k,r)=>(.mdel k,r)
 |(12,r)=>match rdB r with|(b,r)=>match rdM rdN r with|(l,r)=>(.eqs b l,r)
 |(13,r)=>match rdN r with|(a,r)=>(.sl3 a,r)
 |(14,r)=>match rdN r with|(a,r)=>match rdN r with|(b,r)=>match rdM rdV r with|(z,r)=>(.apz a b z,r)
 |(_,r)=>(.sidx,r)
def rdQ(c s:Nat):AOp×Nat:=match rdN s with
 |(0,r)=>match rdO c r with|(x,r)=>(.mov x,r)
 |(1,r)=>match rdO c r with|(x,r)=>(.load false 1 x,r)
 |(2,r)=>match rdN r with|(n,r)=>match rdO c r with|(x,r)=>(.load true n x,r)
 |(3,r)=>match rdN r with|(a,r)=>match rdN r with|(b,r)=>match rdO c r with|(x,r)=>(.fldaddr a b x,r)
 |(4,r)=>match rdN r with|(n,r)=>match rdO c r with|(x,r)=>match rdO c r with|(y,r)=>(.idx n x y,r)
 |(5,r)=>match rdO c r with|(x,r)=>(.len x,r)
 |(6,r)=>match rdN r with|(n,r)=>match rdO c r with|(x,r)=>match rdO c r with|(y,r)=>(.bin (opN n) x y,r)
 |(7,r)=>match rdO c r with|(z,r)=>match rdO c r with|(x,r)=>match rdO c r with|(y,r)=>(.pick z x y,r)
 |(8,r)=>match rdN r with|(n,r)=>match rdO c r with|(x,r)=>match rdO c r with|(y,r)=>(.store n x y,r)
 |(9,r)=>match rdM rdV r with|(l,r)=>(.alloc l,r)
 |(10,r)=>match rdN r with|(n,r)=>match rdM (rdO c) r with|(l,r)=>(.call n l,r)
 |(11,r)=>match rdN r with|(n,r)=>match rdM (rdO c) r with|(l,r)=>(.callq n l,r)
 |(12,r)=>match rdO c r with|(x,r)=>(.un .not x,r)
 |(13,r)=>match rdO c r with|(x,r)=>(.rbox x,r)
 |(14,r)=>match rdN r with|(n,r)=>match rdO c r with|(x,r)=>(.ext n x,r)
 |(15,r)=>match rdN r with|(n,r)=>match rdN r with|(m,r)=>match rdO c r with|(x,r)=>match rdO c r with|(y,r)=>(.append n m x y,r)
 |(16,r)=>match rdX r with|(x,r)=>match rdM (rdO c) r with|(l,r)=>(.xop x l,r)
 |(17,r)=>match rdN r with|(n,r)=>match rdN r with|(m,r)=>match rdM rdV r with|(z,r)=>match rdM (rd2 c) r with|(p,r)=>(.buildSl n m z p,r)
 |(18,r)=>match rdN r with|(n,r)=>(.mknil n,r)
 |(19,r)=>match rdO c r with|(x,r)=>(.box x,r)
 |(20,r)=>match rdN r with|(n,r)=>match rdN r with|(m,r)=>match rdM rdV r with|(z,r)=>match rdM (rd2 c) r with|(p,r)=>(.rbuildSl n m z p,r)
 |(21,r)=>match rdM rdV r with|(z,r)=>match rdM (rd3 c) r with|(p,r)=>(.build z p,r)
 |(22,r)=>match rdN r with|(n,r)=>match rdN r with|(m,r)=>match rdM rdV r with|(z,r)=>match rdO c r with|(x,r)=>match rdO c r with|(y,r)=>(.mksl n m z x y,r)
 |(23,r)=>match rdO c r with|(x,r)=>match rdM (rdO c) r with|(l,r)=>(.callv x l,r)
 |(24,r)=>match rdN r with|(n,r)=>match rdO c r with|(x,r)=>match rdP c r with|(a,r)=>match rdP c r with|(b,r)=>(.slice n x a b,r)
 |(25,r)=>match rdK r with|(k,r)=>match rdO c r with|(x,r)=>(.conv k x,r)
 |(26,r)=>match rdB r with|(a,r)=>match rdB r with|(b,r)=>match rdO c r with|(x,r)=>(.isnil a b x,r)
 |(27,r)=>match rdB r with|(a,r)=>match rdO c r with|(x,r)=>match rdO c r with|(y,r)=>(.eqb a x y,r)
 |(28,r)=>match rdN r with|(n,r)=>match rdM rdV r with|(z,r)=>match rdO c r with|(x,r)=>(.clear n z x,r)
 |(29,r)=>match rdN r with|(a,r)=>match rdN r with|(b,r)=>match rdB r with|(t,r)=>match rdO c r with|(x,r)=>(.fld a b t x,r)
 |(30,r)=>match rdO c r with|(x,r)=>(.mnext x,r)
 |(_,r)=>match rdN r with|(n,r)=>match rdM (rdO c) r with|(l,r)=>(.mkfn (.func n) l,r)
def gdN(g:Nat):Option (Nat×Bool):=some (g/2,Nat.beq (g%2) 1)
def rdR(s c g:Nat):AOper×Nat×Nat×Nat:=match rdN s with
 |(0,r)=>match rdQ c r with|(o,r)=>(⟨some (c+1),o,none⟩,r,c+1,g)
 |(1,r)=>match rdQ c r with|(o,r)=>(⟨none,o,none⟩,r,c,g)
 |(2,r)=>match rdN r with|(d,r)=>match rdQ c r with|(o,r)=>(⟨some d,o,none⟩,r,d,g)
 |(3,r)=>match rdQ c r with|(o,r)=>(⟨some (c+1),o,gdN g⟩,r,c+1,g)
 |(4,r)=>match rdQ c r with|(o,r)=>(⟨none,o,gdN g⟩,r,c,g)
 |(5,r)=>match rdN r with|(d,r)=>match rdQ c r with|(o,r)=>(⟨some d,o,gdN g⟩,r,d,g)
 |(6,r)=>match rdN r with|(g,r)=>match rdQ c r with|(o,r)=>(⟨some (c+1),o,gdN g⟩,r,c+1,g)
 |(7,r)=>match rdN r with|(g,r)=>match rdQ c r with|(o,r)=>(⟨none,o,gdN g⟩,r,c,g)
 |(_,r)=>match rdN r with|(g,r)=>match rdN r with|(d,r)=>match rdQ c r with|(o,r)=>(⟨some d,o,gdN g⟩,r,d,g)
def rdS:Nat->Nat->Nat->Nat->List AOper×Nat×Nat×Nat
 |0,s,c,g=>([],s,c,g)
 |n+1,s,c,g=>match rdR s c g with|(o,s,c,g)=>match rdS n s c g with|(l,r)=>(o::l,r)
def rdU:Nat->Nat->Nat->List Nat×Nat
 |0,_,s=>([],s)
 |n+1,p,s=>match rdN s with|(d,s)=>match rdU n (p+d+1) s with|(l,s)=>((p+d)::l,s)
def rdD(s:Nat):List Nat×Nat:=match rdN s with|(n,r)=>rdU n 0 r
def rdT:Nat->Nat->Nat->Nat->DTree×Nat
 |0,s,_,_=>(.stop,s)
 |n+1,s,c,g=>match rdN s with
  |(0,s)=>(.done,s)
  |(1,s)=>(.stop,s)
  |(2,s)=>match rdR s c g with|(o,s,c,g)=>match rdT n s c g with|(t,s)=>(.step o t,s)
  |(_,s)=>match rdR s c g with|(o,s,b,d)=>match rdT n s b d with|(t,s)=>match rdT n s c g with|(u,s)=>(.alt o t u,s)
def rdC(e:List ACode):Nat->Nat->Nat->ACode×Nat×Nat
 |0,s,c=>(.skip,s,c)
 |n+1,s,c=>match rdN s with
  |(0,s)=>(.skip,s,c)
  |(1,s)=>match rdN s with|(k,s)=>match rdS k s c 0 with|(l,s,c,_)=>match rdD s with|(d,s)=>(.region l d,s,c)
  |(2,s)=>match rdT n s c 0 with|(t,s)=>match rdD s with|(d,s)=>(.draw t d,s,c)
  |(3,s)=>match rdC e n s c with|(a,s,c)=>match rdC e n s c with|(b,s,c)=>(.seq a b,s,c)
  |(4,s)=>match rdO c s with|(x,s)=>match rdC e n s c with|(a,s,c)=>match rdC e n s c with|(b,s,c)=>(.cond x a b,s,c)
  |(5,s)=>match rdN s with|(k,s)=>match rdC e n s c with|(a,s,c)=>(.block k a,s,c)
  |(6,s)=>match rdC e n s c with|(a,s,c)=>(.loop a,s,c)
  |(7,s)=>match rdN s with|(k,s)=>(.exit k,s,c)
  |(8,s)=>(.ret,s,c)
  |(9,s)=>match rdN s with|(k,s)=>(e.getD k .skip,s,c)
  |(10,s)=>match rdC e n s c with|(a,s,c)=>match rdC e n s c with|(b,s,c)=>(.join a b,s,c)
  |(_,s)=>match rdO c s with|(x,s)=>match rdM rdN s with|(p,s)=>match rdC e n s c with|(a,s,c)=>match rdC e n s c with|(b,s,c)=>(.range x p a b,s,c)
def Z8(s:Nat)(b:List ACode):ACode:=(rdC b 150 s 0).1
theorem dcU{a b:ACode}{p q:Prop}(e:a=b)(k:q)(h:a=b->p=q:=by intro e;rewrite [e];(conv in Z8 _ _=>reduce);try exact rfl):p:=(h e).symm ▸ k
def zg2:ACode:=Z8 0x23c210921000c066c2210003c31032100106060031140753a00176011011031c231300a33c158144000000595215202a5404131530701430b0c36a2113 []
def zg8:ACode:=.seq (.region [(oM 19 3),(oM 2 19)] [3,7,8,9,19]) (.ret)
def zjd:ACode:=Z8 0x190960541200000150111ea04526241330000001131020000011c0213 [zg2,zg8]
attribute[irreducible]zg2 zg8
def zjl:List ARet:=[.tmp 2]
theorem zoR:zU Z9 zd5 (qRo [1])=some (zjd.strip,zjl,20):=by kernel_rfl
def zf8:ACode:=Z8 0x595310921000c069c221000000957103217c813c0101001115c011081230600611401c2b00176011011031c231300a33c158144000000595215202a5404131530701430b0c36a2113 []
def zf7:ACode:=.seq (.region [(oM 22 3),(oM 2 22)] [3,7,8,9,22]) (.ret)
def zit:ACode:=Z8 0x190960541200000150111ea0452624133016c011310216c011c0213 [zf8,zf7]
attribute[irreducible]zf8 zf7
def zik:List ARet:=[.tmp 2]
theorem znp:zU Z9 zdE (qRo [1])=some (zit.strip,zik,23):=by kernel_rfl
def zlY:ACode:=Z8 0x04d210821001060b04d2310000000023da107212dd3ada0a001001160400152012540b0011061436d2a1153070140000000bc81013d700001663a0de61001ec36015011061430b0bc29133 []
def zir:ACode:=.seq (.region [(oM 43 7),(oM 6 43)] [1,3,7,8,43]) (.ret)
def zpL:ACode:=Z8 0x19096050000001133001c32510721001160509c2313084c00149000621131400000000009b1206c70400156315311361432d61001202c70100136350ac6100100136040920c13350200006211c32213 [zlY,zir]
attribute[irreducible]zlY zir
def zfh:List ARet:=[.tmp 6]
theorem zwu:zU Z9 ziu (qRo [3])=some (zpL.strip,zfh,44):=by kernel_rfl
def zil:ACode:=Z8 0x09d210621001160909d231000000028d910421ed0cf53c0101440000005155c01520125409001108143070bd291353270147d10001660907d22133 []
def zif:ACode:=Z8 0x0962500002d510621001160150110814305130171400fc300017601501108143fc24133000bc410321ec0cf53c0101440000005155c0852020bc251300006c510421109c5cc01001160150700206c2613000000b78c1581440000005952152013c54010011601507007008131507014092000156015070923133 [zil]
def zin:ACode:=.seq (.region [(oM 47 3),(oM 2 47)] [3,4,5,6,47]) (.ret)
def zkW:ACode:=.seq (.region [(oN 1 (.rbox (.t 0))),(oN 2 (.mknil 5))] [0,2]) (.scope (.seq (.region [(oN 3 (.mknil 5))] []) (.seq (.region [(oA 7 5 1),(oN 8 (.buildSl 5 1 [.int .i64 0,.int .i64 0,.int .i64 0,.nilsl,.nilsl] [(0,(.t 7))])),(oM 4 8)] [1,7,8]) (.seq (.label 0) (.seq (.block 0 (.loop zif)) (zin))))))
attribute[irreducible]zil
def zk6:List ARet:=[.tmp 2]
theorem zql:zU Z9 zcH (qRo [1])=some (zkW.strip,zk6,48):=by kernel_rfl
def zck:ACode:=Z8 0x8000305102212ce53c030004000003005055c524130830256c221131431100ec030021332156c22113 []
def zal:List ARet:=[.tmp 2]
theorem zfy:zU Z9 zA (qRo [])=some (zck.strip,zal,8):=by kernel_rfl
def zfg:ACode:=Z8 0xcc110b21002c06cc221000000000a3b102158137c6c54021104fb0215202125402600211024143026002110241432c22200c2103220021315307014301c2c360c2113 []
def zeZ:ACode:=Z8 0x81c081415581452dc2213 []
def zg7:ACode:=Z8 0x1909605082000001501104143041330004421181414301103fa01102143425130140000030059017c0213 [zfg,zeZ]
attribute[irreducible]zfg zeZ
def zgU:List ARet:=[.cell 2 true 5]
theorem zlN:zU Z9 zaX (qRo [])=some (zg7.strip,zgU,26):=by kernel_rfl
def zhg:ACode:=Z8 0x80203155811141001024400000059c03003130440000005922113 []
def zhc:List ARet:=[.cell 2 true 5]
theorem zlf:zU Z9 zQ (qRo [])=some (zhg.strip,zhc,5):=by kernel_rfl
def ziv:ACode:=Z8 0xbc1102c21005c06bc22100000c56103219c06015011081130606c261003c38c12814032952122023c24041315307014304c5c363c2113 []
def zh7:ACode:=Z8 0x1dd724101e21004e06ae221080600400dca910221c00213147e10001860107e22130bd9310a21117fa01825e2313002e37e1881440300000000008992182022e84041355347014303e4e362e2113 []
def zh4:ACode:=Z8 0x900fd410ad2100dd06be221 []
def zie:ACode:=Z8 0x19096456d72000001501101113ed241300bd30e1281403297212202bd2404133532701430cddd36bd2113 [zh7,zh4]
def ziF:ACode:=.seq (.region [(oK 2 0)] [36,37,38]) (.ret)
def zh5:ACode:=Z8 0x190962503d0140000015011021137d24133084d127c0002211314000d2410c01116fa02224d23133081d126000221131400000090083b1203d705e00156360ce61000e0015601501104113cc28133 [zie,ziF]
def zlg:ACode:=Z8 0x1909605b1000001501104113b241330000001131020000011c0213 [ziv,zh5]
attribute[irreducible]ziv zh7 zh4 zie ziF zh5
def zeS:List ARet:=[.tmp 2]
theorem zqr:zU Z9 zb5 (qRo [1])=some (zlg.strip,zeS,56):=by kernel_rfl
def zlR:ACode:=.seq (.region [(oB 14 .lss 13 12)] []) (.seq (.cond (.t 14) (.skip) (.exit 0)) (.seq (.block 1 (.seq (.region [(oI 15 2 11 13),(oA 16 2 15),(oN 4 (.alloc [.int .u32 0,.nilsl])),(oS 2 4 16)] [14,15,16]) (.seq (.region [(oF 17 1 1 4),(oL 18 17),(oE 19 18),(oM 5 19)] [17,18,19]) (.seq (.seq (.region [(oM 20 5),(oC 21 .eql 20 0),(oM 22 21),(oG 23 22 false (.fldaddr 1 1 (.t 4))),(oG 24 22 false (.load false 1 (.t 23))),(oG 25 22 false (.mov (.t 5))),(oG 26 22 false (.bin .sub (.t 25) (.c (.int .i64 1)))),(oG 27 22 false (.idx 8 (.t 24) (.t 26))),(oG 28 22 false (.load true 8 (.t 27))),(oG 29 22 false (.call zcT [(.t 28)])),(oG 30 22 false (.un .not (.t 29))),(oN 31 (.pick (.t 22) (.c (.bool true)) (.t 30))),(oM 32 31),(oG 33 32 false (.fldaddr 1 1 (.t 4))),(oG 34 32 false (.load false 1 (.t 33))),(oG 35 32 false (.mov (.t 5))),(oG 36 32 false (.bin .sub (.t 35) (.c (.int .i64 1)))),(oG 37 32 false (.slice 8 (.t 34) none (some (.t 36)))),(oG 38 32 false (.call zY [(.t 37),(.c (.fn (.func zcT) []))])),(oN 39 (.pick (.t 32) (.c (.bool true)) (.t 38)))] [5,20,21,22,23,24,25,26,27,28,29,30,31,32,33,34,35,36,37,38]) (.cond (.t 39) (.seq (.region [(oN 2 (.mov (.c (.bool false))))] [1,4,11,12,13,39]) (.ret)) (.skip))) (.seq (.region [(oA 40 2 4),(oN 41 (.call zdL [(.t 40)])),(oN 42 (.mkfn (.func zfU) [(.t 1)])),(oN 43 (.call zaH [(.t 41),(.t 42)]))] [2,4,39,40,41,42]) (.cond (.t 43) (.seq (.region [(oN 2 (.mov (.c (.bool false))))] [1,11,12,13,43]) (.ret)) (.skip))))))) (.region [(oC 44 .add 13 1),(oM 13 44)] [2,43,44])))
def zlx:ACode:=.seq (.region [(oN 2 (.mov (.c (.bool true))))] [1,11,12,13]) (.ret)
def zp5:ACode:=Z8 0x19096050623000001501102113a24133087121002211314006300017601501102113624133102100011c0213 [zlR,zlx]
attribute[irreducible]zlR zlx
def zdQ:List ARet:=[.tmp 2]
theorem zvL:zU Z9 zkH (qRo [1])=some (zp5.strip,zdQ,45):=by kernel_rfl
def zi9:ACode:=Z8 0x1ac32410ac2100dc063d2210806001c4171022900213140d10001860100d221308c5310621129fa0152ec231300bc30d1581400000300595215202bc5404131530701430ccdc36bc2113 []
def zi3:ACode:=Z8 0x86d1000022113086d12000221131409006c1610c0113ffa04824d23133 []
def zmd:ACode:=Z8 0x190960503c230000015011021637c24133084c122000221131400000006391203c7014c8631531134163360cc6100000136010a291300731032113efa011021037241331020000011c0213 [zi9,zi3]
attribute[irreducible]zi9 zi3
def zaW:List ARet:=[.tmp 2]
theorem zqJ:zU Z9 zeE (qRo [1])=some (zmd.strip,zaW,35):=by kernel_rfl
def zkY:ACode:=Z8 0x8ec3216c2211308001ec35102211fea011061734d241314755c3102d28008c763d221380000151c381022111d02001215c0110614301106133dc26131456c210bc27008c76cc2213800101c361022101001115c011061338c2413147c1106c26001767c2213054c111011034c2213300000000401b6c1881440300000000008932182010c840100116015011041130110211382a130851216c221131400430001760150110211342413310216c011c0213 []
def zci:List ARet:=[.tmp 2]
theorem zqp:zU Z9 zdL (qRo [1])=some (zkY.strip,zci,35):=by kernel_rfl
def zlU:ACode:=Z8 0x871000022113087120002211314004115107210c01151fa02528241381129c00022113140043103210c05d001250fa0252424130531020000011c0213 []
def zfP:List ARet:=[.tmp 2]
theorem zrd:zU Z9 zgC (qRo [1])=some (zlU.strip,zfP,11):=by kernel_rfl
def zkV:ACode:=Z8 0x800000001191022101970b00146311341031c6100600166011021030913102100011c0213 []
def zhf:List ARet:=[.tmp 2]
theorem zqh:zU Z9 zcT (qRo [1])=some (zkV.strip,zhf,11):=by kernel_rfl
def za9:ACode:=Z8 0x800030061042000166012260fa04003005134110042113 []
def zbh:List ARet:=[.tmp 4]
theorem zdK:zU Z9 zY (qRo [])=some (za9.strip,zbh,9):=by kernel_rfl
def zc1:ACode:=Z8 0x800030061042000166012261fa04003005134110042113 []
def zc0:List ARet:=[.tmp 4]
theorem zg4:zU Z9 zaH (qRo [])=some (zc1.strip,zc0,9):=by kernel_rfl
def zmV:ACode:=Z8 0x800000000200b10321209701a66315311341133300c61000001360300a133110032113 []
def zgF:List ARet:=[.tmp 3]
theorem zsH:zU Z9 zfU (qRo [])=some (zmV.strip,zgF,13):=by kernel_rfl
def zjO:ACode:=Z8 0x873290002211308732000022113140c3210b2b006764c2210143c110b2a006763c22130142c110b26006762c22130141c110b25006761c221301429210b23006760c221338532200022113145421092200676a2213803210002211314811042800276822101471104270027672213014611042400276622130145110421001765221330501300113321000022113 []
def zV:List ARet:=[.tmp 2]
theorem zo5:zU Z9 zeR (qRo [])=some (zjO.strip,zV,17):=by kernel_rfl
def zbn:ACode:=Z8 0x8000000000000000000000000000000000000000096c8b0113e10221011ff7012763703153113417375f610010118f7011af76311361433113414367f610010111f70113f76311361333113413359f61001010af7010cf7631136153311341534bf610010103f70105f7631136123311341233df61001fe760110611301102113be2dd130085e0114100221131400005e5120ae705d001563702af61001001360105e26130010e4104215011041732e24131481d63100e28009761e22130000011d681100e118136143fd22fd1dd22ed118131100e118136143fd22ed1e1813fd1dd236133ed2241430211024133ad2221453d2108d27009769d2213001cc65211816133011041335d241145ec2103d26009764d22130017c65211816153011041530d2411495c210ec2500976fc2213088c0114100221131400ac310c01163fa011041230413001a65211816123011041237c241314a72105c22009766c221308b01141002211314001c310c01162fa01104113041300206521181611301104113a24131491107230027692210148110721001768221330551110410302133000000113044030000000000890113102100011c0213 []
def zg:List ARet:=[.tmp 2]
theorem zbR:zU Z9 zaS (qRo [1])=some (zbn.strip,zg,95):=by kernel_rfl
def zoC:ACode:=.seq (.region [(oN 2 (.rbox (.t 0))),(oN 3 (.rbox (.t 1))),(oN 4 (.mov (.c (.bool false))))] [0,1,4]) (.seq (.region [(oL 5 3),(oC 6 .geq 5 1),(oM 7 6),(oG 8 7 true (.fldaddr 4 1 (.t 2))),(oG 9 7 true (.load false 1 (.t 8))),(oG 10 7 true (.mkfn (.func zgG) [(.t 3)])),(oG 11 7 true (.call zF [(.t 9),(.t 10)])),(oG 12 7 true (.un .not (.t 11))),(oN 13 (.pick (.t 7) (.t 12) (.c (.bool false)))),(oM 4 13)] [2,3,5,6,7,8,9,10,11,12,13]) (.ret))
def zkv:List ARet:=[.tmp 4]
theorem zuy:zU Z9 zg6 (qRo [2,3])=some (zoC.strip,zkv,14):=by kernel_rfl
def zaZ:ACode:=.seq (.region [(oN 1 (.rbox (.t 0))),(oN 2 (.mov (.c (.bool false))))] [0,2]) (.seq (.region [(oF 5 0 1 1),(oL 6 5),(oN 7 (.build [.int .i64 0,.int .u32 0,.int .i64 0,.int .i64 0,.nilsl] [(0,1,(.t 6))])),(oN 3 (.alloc [.int .i64 0,.int .u32 0,.int .i64 0,.int .i64 0,.nilsl])),(oS 5 3 7)] [5,6,7]) (.seq (.region [(oK 4 0)] []) (.seq (.block 0 (.seq (.region [(oF 9 0 1 1),(oL 10 9),(oC 11 .eql 10 1),(oM 8 11)] [9,10,11]) (.cond (.t 8) (.region [(oF 12 1 1 1),(oL 13 12),(oF 14 1 1 3),(oS 1 14 13)] [8,12,13,14]) (.seq (.region [(oF 16 0 1 1),(oL 17 16),(oC 18 .eql 17 2),(oM 19 18),(oG 20 19 true (.fldaddr 2 1 (.t 1))),(oG 21 19 true (.load false 1 (.t 20))),(oG 22 19 true (.call zfG [(.t 21)])),(oN 23 (.pick (.t 19) (.t 22) (.c (.bool false)))),(oM 15 23)] [8,16,17,18,19,20,21,22,23]) (.cond (.t 15) (.region [(oF 24 2 1 1),(oL 25 24),(oF 26 2 1 3),(oS 1 26 25)] [15,24,25,26]) (.seq (.region [(oF 28 0 1 1),(oL 29 28),(oC 30 .geq 29 3),(oM 31 30),(oG 32 31 true (.fldaddr 0 1 (.t 1))),(oG 33 31 true (.load false 1 (.t 32))),(oG 34 31 true (.bin .leq (.t 33) (.c (.int .i64 15)))),(oN 35 (.pick (.t 31) (.t 34) (.c (.bool false)))),(oM 27 35)] [4,15,28,29,30,31,32,33,34,35]) (.cond (.t 27) (.region [(oK 4 2)] [27]) (.seq (.seq (.region [(oF 37 0 1 1),(oL 38 37),(oC 39 .eql 38 16),(oM 36 39)] [27,37,38,39]) (.cond (.t 36) (.skip) (.region [(oF 40 0 1 1),(oL 41 40),(oC 42 .eql 41 17),(oM 36 42)] [40,41,42]))) (.cond (.t 36) (.region [(oK 4 1)] [36]) (.seq (.seq (.region [(oF 44 0 1 1),(oL 45 44),(oC 46 .eql 45 18),(oM 47 46),(oG 48 47 true (.fldaddr 3 1 (.t 1))),(oG 49 47 true (.load false 1 (.t 48))),(oG 50 47 true (.call ziy [(.t 49)])),(oN 51 (.pick (.t 47) (.t 50) (.c (.bool false)))),(oM 43 51)] [36,44,45,46,47,48,49,50,51]) (.cond (.t 43) (.skip) (.region [(oF 52 0 1 1),(oL 53 52),(oC 54 .eql 53 19),(oM 55 54),(oG 56 55 true (.fldaddr 3 1 (.t 1))),(oG 57 55 true (.load false 1 (.t 56))),(oG 58 55 true (.bin .eql (.t 57) (.c (.int .i64 1)))),(oG 59 55 true (.mov (.t 58))),(oG 60 59 false (.fldaddr 3 1 (.t 1))),(oG 61 59 false (.load false 1 (.t 60))),(oG 62 59 false (.bin .eql (.t 61) (.c (.int .i64 2)))),(oG 63 55 true (.pick (.t 59) (.c (.bool true)) (.t 62))),(oN 64 (.pick (.t 55) (.t 63) (.c (.bool false)))),(oM 43 64)] [52,53,54,55,56,57,58,59,60,61,62,63,64]))) (.cond (.t 43) (.seq (.region [(oK 4 1)] [43]) (.region [(oF 65 3 1 1),(oL 66 65),(oF 67 3 1 3),(oS 1 67 66)] [65,66,67])) (.seq (.region [(oN 2 (.mov (.c (.bool false))))] [1,3,43]) (.ret))))))))))))) (.seq (.region [(oF 68 1 1 1),(oL 69 68),(oF 70 1 1 3),(oL 71 70),(oB 72 .eql 69 71),(oM 73 72),(oG 74 73 true (.fldaddr 2 1 (.t 1))),(oG 75 73 true (.load false 1 (.t 74))),(oG 76 73 true (.fldaddr 2 1 (.t 3))),(oG 77 73 true (.load false 1 (.t 76))),(oG 78 73 true (.bin .eql (.t 75) (.t 77))),(oN 79 (.pick (.t 73) (.t 78) (.c (.bool false)))),(oM 80 79),(oG 81 80 true (.fldaddr 3 1 (.t 1))),(oG 82 80 true (.load false 1 (.t 81))),(oG 83 80 true (.fldaddr 3 1 (.t 3))),(oG 84 80 true (.load false 1 (.t 83))),(oG 85 80 true (.bin .eql (.t 82) (.t 84))),(oN 86 (.pick (.t 80) (.t 85) (.c (.bool false)))),(oM 87 86),(oG 88 87 true (.fldaddr 4 1 (.t 1))),(oG 89 87 true (.load false 1 (.t 88))),(oG 90 87 true (.len (.t 89))),(oG 91 87 true (.mov (.t 4))),(oG 92 87 true (.bin .eql (.t 90) (.t 91))),(oN 93 (.pick (.t 87) (.t 92) (.c (.bool false)))),(oM 94 93),(oG 95 94 true (.fldaddr 4 1 (.t 1))),(oG 96 94 true (.load false 1 (.t 95))),(oG 97 94 true (.call zF [(.t 96),(.c (.fn (.func zaf) []))])),(oG 98 94 true (.un .not (.t 97))),(oN 99 (.pick (.t 94) (.t 98) (.c (.bool false)))),(oM 2 99)] [1,3,4,68,69,70,71,72,73,74,75,76,77,78,79,80,81,82,83,84,85,86,87,88,89,90,91,92,93,94,95,96,97,98,99]) (.ret)))))
def zl:List ARet:=[.tmp 2]
theorem zbp:zU Z9 zaz (qRo [1])=some (zaZ.strip,zl,100):=by kernel_rfl
def zbb:ACode:=Z8 0x1a0441082100b066c22108070130071042800213140000b5112cbc018201284080030040b261309210522002131530701430ab3692113 []
def zbf:ACode:=.seq (.region [(oK 4 (-1))] [0,1,7,8]) (.ret)
def zbD:ACode:=Z8 0x190960561000001503062313341000042113 [zbb,zbf]
attribute[irreducible]zbb zbf
def zay:List ARet:=[.tmp 4]
theorem zes:zU Z9 z8 (qRo [])=some (zbD.strip,zay,19):=by kernel_rfl
def zbq:ACode:=Z8 0x1a0441082100b066c22108070130071042800213140000b5112cbc01101214080030040b261309210522002131530701430ab3692113 []
def zbo:ACode:=.seq (.region [(oK 4 (-1))] [0,1,7,8]) (.ret)
def zbX:ACode:=Z8 0x190960561000001503062313341000042113 [zbq,zbo]
attribute[irreducible]zbq zbo
def zas:List ARet:=[.tmp 4]
theorem zdV:zU Z9 zad (qRo [])=some (zbX.strip,zas,19):=by kernel_rfl
def znb:ACode:=Z8 0x8000002071022101870ae00136330b610000016603007132110022113 []
def zjy:List ARet:=[.tmp 2]
theorem zsx:zU Z9 zfG (qRo [])=some (znb.strip,zjy,9):=by kernel_rfl
def zqa:ACode:=Z8 0x800000000020b10221200c704001763306c6100120870200176330a61001001760300b132110022113 []
def ziT:List ARet:=[.tmp 2]
theorem zwp:zU Z9 ziy (qRo [])=some (zqa.strip,ziT,13):=by kernel_rfl
def zbg:ACode:=Z8 0x80003006104200016601227cfa04003005134110042113 []
def zbd:List ARet:=[.tmp 4]
theorem zdJ:zU Z9 zF (qRo [])=some (zbg.strip,zbd,9):=by kernel_rfl
def zmg:ACode:=Z8 0x800001017103210c017250fa010011604102520613202100011c22213 []
def zl1:List ARet:=[.tmp 3]
theorem zqL:zU Z9 zgG (qRo [2])=some (zmg.strip,zl1,9):=by kernel_rfl
def zna:ACode:=Z8 0x800114102210c01151fa02520413102100011c0213 []
def znk:List ARet:=[.tmp 2]
theorem zsn:zU Z9 zaf (qRo [1])=some (zna.strip,znk,6):=by kernel_rfl
def zbc:ACode:=Z8 0x1a0441082100b066c22108070130071042800213140000b5112cbc015201254080030040b261309210522002131530701430ab3692113 []
def zba:ACode:=.seq (.region [(oK 4 (-1))] [0,1,7,8]) (.ret)
def zbE:ACode:=Z8 0x190960561000001503062313341000042113 [zbc,zba]
attribute[irreducible]zbc zba
def zax:List ARet:=[.tmp 4]
theorem zeo:zU Z9 zab (qRo [])=some (zbE.strip,zax,19):=by kernel_rfl
end Go.Ab
namespace Go.Ab
def seqF:NdF:=⟨1,0,0⟩
def zhh(k:Int):Bool:=decide (k=4\/k=5)
mutual
def coll(p:NdF->List Int):Nd->List Int
 |.mk f _ l=>p f++zgT p l
def zgT(p:NdF->List Int):List Nd->List Int
 |[]=>[]
 |x::l=>coll p x++zgT p l
end
def labP(f:NdF):List Int:=if f.kind=10 then[f.label]else[]
def blkP(f:NdF):List Int:=if f.kind=2\/f.kind=5 then[f.block]else[]
def zgg(f:NdF):List Int:=if f.kind=9 then[f.label]else[]
mutual
theorem zuI(p:NdF->List Int):∀n:Nd,coll p n=(allN n).flatMap λx=>p x.f
 |.mk f c l=>by rw[coll,allN,List.flatMap_cons,zvA p l];rfl
theorem zvA(p:NdF->List Int):∀l:List Nd,zgT p l=(zaI l).flatMap λx=>p x.f
 |[]=>by rw[zgT,zaI];rfl
 |x::l=>by rw[zgT,zaI,List.flatMap_append,zuI p x,zvA p l]
end
end Go.Ab
namespace Go.Ab
open Go.RowKit Go.Proofs
theorem fldP{off n m}{c}{H}{nx}:zcF off n (encP m c) H nx=⟨off+n<=m,True,.iptr n (λj=>c.getD (off+j) .undef),H,nx⟩:=rfl
theorem loadP{n m}{c}{H}{nx}:zdX true n (encP m c) H nx=⟨n<=m,(AV.agg (tab (λj=>c.getD j .undef) n 0)).wf,.agg (tab (λj=>c.getD j .undef) n 0),H,nx⟩:=rfl
theorem zdZ:∀{e:Ex},(encX e).length=5
 |.mk _ _ _ _ _=>by rw[zjz];rfl
theorem zD:∀{e:Nd},(encN e).length=5
 |.mk _ _ _=>by rw[zbj];rfl
theorem zdh:∀{e:Ex},[(encX e).getD 0 .undef,(encX e).getD 1 .undef,(encX e).getD 2 .undef,(encX e).getD 3 .undef,(encX e).getD 4 .undef]=encX e
 |.mk _ _ _ _ _=>by rw[zjz];rfl
theorem zJ:∀{e:Nd},[(encN e).getD 0 .undef,(encN e).getD 1 .undef,(encN e).getD 2 .undef,(encN e).getD 3 .undef,(encN e).getD 4 .undef]=encN e
 |.mk _ _ _=>by rw[zbj];rfl
theorem zm:∀{e:Ex},zu (encX e)=true
 |.mk _ _ _ _ _=>by rw[zjz];rfl
theorem zt:∀{e:Nd},zu (encN e)=true
 |.mk _ _ _=>by rw[zbj];rfl
theorem flX{r}(h:r.all AV.flat=true):∀{e:Ex},(AV.agg (encX e)::r).all AV.flat=true
 |.mk _ _ _ _ _=>by rw[zjz,List.all_cons,h];rfl
theorem flN{r}(h:r.all AV.flat=true):∀{e:Nd},(AV.agg (encN e)::r).all AV.flat=true
 |.mk _ _ _=>by rw[zbj,List.all_cons,h];rfl
mutual
def zhS:Ex->Nat
 |.mk _ _ _ _ l=>1+zno l
def zno:List Ex->Nat
 |[]=>0
 |e::l=>zhS e+zno l
end
theorem zl4:∀{l:List Ex}{y:Ex},y∈l->zhS y<=zno l
 |[],y,b=>by simp at b
 |
  a::l,y,b=>by
  rw[zno];rcases List.mem_cons.1 b with rfl|b
  .omega
  .have:=zl4 b;omega
mutual
theorem zi7:∀(e:Ex)(m n:Int),-1<=n -> -1<=zgZ e m n/\(zgZ e m n<=n)
 |
  .mk _ _ _ _ l,m,n,h=>by
  rw[zgZ];split
  .omega
  .rename_i b;have:=zn8 l (m-1) (n-1) (by omega);omega
theorem zn8:∀(l:List Ex)(m n:Int),-1<=n -> -1<=zda l m n/\zda l m n<=n
 |[],m,n,h=>by rw[zda];omega
 |
  e::l,m,n,h=>by
  rw[zda];split
  .omega
  .have b:=zi7 e m n h;have:=zn8 l m _ b.1;omega
end
theorem zwB{l:List Ex}{i:Nat}{m n:Int}(h:i<l.length)(b:0<=n):zda (l.drop i) m n=zda (l.drop (i+1)) m (zgZ l[i] m n):=by rw[Wc h,zda,if_neg (by omega)]
theorem zsb{l}{m n}(b:n<0):zda l m n=n:=by
 cases l with
 |nil=>rw[zda]
 |cons a l=>rw[zda,if_pos b]
theorem uf:type_of% @fldP:=@fldP
theorem zwd:∀(k:Nat)(e:Ex)(m n:Int),zhS e<=k -> -1000<=m->m<=1000 -> -1<=n->n<=1000->zq Z9 ziu [.agg (encX e),.int .i64 m,.int .i64 n] (·=.int .i64 (zgZ e m n)):=by
 intro k
 induction k with
 |zero=>intro e m n h;obtain⟨_,_,_,_,l⟩:=e;rw[zhS]at h;omega
 |succ k D=>
 intro e m n B F H y I;obtain⟨op,o,v,w,l⟩:=e;refine fn_x zwu rfl ?_;refine dcU zpL.eq_1 ?_;have J:=hBig;rw[zhS]at B;have d:=zi7 (.mk op o v w l) m n y;rw[zgZ]at d⊢;generalize p:encX (.mk op o v w l)=E;rw[zjz]at p;subst p;by_cases q:m<1
 .rw[if_pos (.inl q)];refine Gw2 @dT @zfh.eq_1 ?_;intros;exact izO
 by_cases t:n<1
 .rw[if_pos (.inr (.inl t))];refine Gw3 @dT @dF @zfh.eq_1 ?_;intros;exact izO
 by_cases u:4<l.length
 .rw[if_pos (.inr (.inr u))];refine Gw3 @dT @dF @zfh.eq_1 ?_;intros;exact izO
 rw[if_neg (by omega)]at d⊢;refine Gw1 @dF ?_;intros;generalize z:zda l (m-1) (n-1)=R at d⊢;refine zd (λs:Nat×Int=>([(1,.int .i64 m),(3,encP 5 [.int .i64 op,.int .u32 o,.int .i64 v,.int .i64 w,encL 5 encX l]),(7,.int .i64 s.2),(8,.int .i64 s.1)],[])) 0 (λs=>s.1<=l.length /\ -1<=s.2/\s.2<=n/\zda (l.drop s.1) (m-1) s.2=R) (λs=>l.length-s.1) (0,n-1) ⟨Nat.zero_le _,by simp only;omega,by simp only;omega,z⟩ (Ent.keep rfl fin5) ?_;rintro⟨i,x⟩ ⟨A,c,j,b⟩ wf;simp only at A c j b;refine dcU zlY.eq_1 ?_;by_cases g:i<l.length
 .by_cases C:0<=x
  .rw[zwB g C]at b;have K:=zl4 (List.getElem_mem g);have L:=zi7 l[i] (m-1) x c;refine Gw6 @uf @dT @dF (gmp g) @zdZ @zdh ?_;intros;refine ze (zh (D l[i] (m-1) x (by omega) (by omega) (by omega) (by omega) (by omega)) (flX rfl)) ?_;refine Gw0 ?_;intros;exact⟨(i+1,zgZ l[i] (m-1) x),⟨by simp only;omega,by simp only;omega,by simp only;omega,b⟩,by simp only;omega,Ent.keep rfl fin5⟩
  .rw[zsb (by omega)]at b;subst b;refine Gw3 @uf @dT @dF ?_;intros;unfold zir;refine Gw1 @zfh.eq_1 ?_;intros;exact izO
 .rw[List.drop_of_length_le (by omega),zda]at b;subst b;refine Gw3 @uf @dT @dF ?_;intros;unfold zir;refine Gw1 @zfh.eq_1 ?_;intros;exact izO
theorem zuU{l:List Ex}{i:Nat}(h:i<l.length):zjv (l.drop i)=if zgZ l[i] 70 200<0 then false else zjv (l.drop (i+1)):=by rw[Wc h,zjv]
end Go.Ab
