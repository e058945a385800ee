/-
  Part 6 of the proof: how the calls of this program run, over values instead of memory, and what each function computes.
-/
import Derived.Test.YtmlhipilbnjhiaaGreatProg
import Derived.Shelf.SlIterI.Nil
import Derived.Shelf.SortM.Plain
import Derived.Shelf.SortM.SortNone
import Derived.Test.YtmlhipilbnjhiaaGreatQe
set_option maxRecDepth 100000
set_option linter.unusedVariables false
set_option linter.unusedSimpArgs false
set_option linter.unnecessarySimpa false
set_option linter.unusedSectionVars false
open Nat renaming reduceBEq->Xa,reduceAdd->Xb,reduceLeDiff->Xc,ble->Xd
open Nat renaming beq→Wa,blt_eq→Wi,le_succ→Wk
open And renaming intro→Wc
open Bool renaming and_eq_true→Wd
open List renaming range→We,mem_iff_getElem→Wf,getElem?_eq_getElem→Wg,mem_of_getElem?→Wh,getElem?_eq_some_iff→Wl,findIdx?_eq_some_iff_getElem→Wm
open Array renaming getElem?_eq_getElem→Wj
open Option renaming bind_eq_some_iff→Wn
namespace Go.Ab
open Go.RowKit
section
variable {P:Program}{w:World}{L:Nat->Prop}{ι:Inj}{H:AH}{nx:Nat}
theorem vr_low{w}{L}{N}{ι}{v}{a}(h:VR w L ι v a):(∀r q g l,ι r q g=some l->r<N)->a.Below N:=by
 induction h with
 |undef=>intro _;exact .undef
 |int ι k n h=>intro _;exact .int _ _
 |bool=>intro _;exact .bool _
 |str=>intro _;exact .str _
 |nilp=>intro _;exact .nilp
 |ptr ι r q g i f l h j=>intro b;exact .ptr _ _ _ _ _ (b _ _ _ _ h)
 |iptr=>intro _;exact .iptr _ _
 |sl=>intro _;exact .sl _ _ _
 |sl0=>intro _;exact .sl _ _ _
 |nilsl=>intro _;exact .nilsl
 |cut=>intro _;exact .cut
 |own ι r q g off n a c l h j o m d=>intro b;exact .own _ _ _ _ _ (b _ _ _ _ h)
 |mp ι r q l h j=>intro b;exact .mp _ _ (b _ _ _ _ h)
 |nilmp=>intro _;exact .nilmp
 |it ι r l h j=>intro b;exact .it _ (b _ _ _ _ h)
 |fn ι f cs caps hs hv ih=>
  intro b;refine .fn _ _ λa d=>?_
  obtain⟨i,e,rfl⟩:=Wf.1 d;exact ih i _ _ (Wj (show i<cs.size by omega)) (Wg e) b
 |nilfn=>intro _;exact .nilfn
 |agg ι cs asv hs h1 hv ih=>
  intro b;refine .agg _ λa d=>?_
  obtain⟨i,e,rfl⟩:=Wf.1 d;exact ih i _ _ (Wj (show i<cs.size by omega)) (Wg e) b
 |tup ι cs asv hs hv ih=>
  intro b;refine .tup _ λa d=>?_
  obtain⟨i,e,rfl⟩:=Wf.1 d;exact ih i _ _ (Wj (show i<cs.size by omega)) (Wg e) b
theorem RelH.below(rel:RelH w L ι H nx){r q sz g}{els}(h:H.get r q=some (.row sz els g)){c}(d:c∈els){a}(b:a∈c):a.Below nx:=by obtain⟨l,_,ok⟩:=rel.row _ _ _ _ _ h;obtain⟨i,e,rfl⟩:=Wf.1 d;obtain⟨j,k,rfl⟩:=Wf.1 b;obtain⟨v,_,_,m⟩:=ok.hold i _ j _ (Wg e) (Wg k);exact vr_low m λr q g l h=>rel.idx r q g l h
def zyA(H:AH)(nx d n:Nat)(b:List (List AV))(v:AV)(c:AH):Prop :=
 ∃r g,nx<=r/\v=.own r 0 g 0 n/\(∀x q,x<nx->c.get x q=H.get x q)/\c.get r 0=some (.row d b g)
theorem zHj{f}{args}{Q}(h:(∀r o,H.look r=some o->r<nx)->zS P f args H nx Q):zS P f args H nx Q :=
 λw L ι c rel b=>h rel.dom w L ι c rel b
theorem zGe{f}{args}{sz n}{t}(h:zS P f args H nx (λv N _=>zyA H nx sz n t v N))(M:∀w L ι,RelH w L ι H nx->∀c∈t,∀a∈c,a.Below nx):zS P f args H nx (λv N nx'=>(v,N,nx')=(.own nx 0 0 0 n,H.set nx 0 (.row sz t 0),nx+1)):=by
 intro w L ι vs rel hv;refine(h w L ι vs rel hv).mono λe w' ⟨v,y,N,nx',a,X,J,h3,h4,r,g,hr,Y,p,I⟩=>?_
 subst Y;obtain⟨l,hl,ok⟩:=J.rel.row _ _ _ _ _ I;have A:=AH.get_set (rel.sok sz) t 0;let k:Inj:=λx q u=>if x<nx then y x q u else if x=nx/\q=0/\u=0 then some l else none
 have Q:∀{x q u},x<nx->k x q u=y x q u:=λh=>by simp only[k,if_pos h]
 have W:k nx 0 0=some l:=by simp[k]
 have z:∀b,live k (H.set nx 0 (.row sz t 0)) b->live y N b:=by
  rintro b ⟨x,q,s,B,u,D,R,a2,a3,a4⟩;rw[A]at R;split at R
  .rename_i T;obtain⟨rfl,rfl⟩:=T;cases R;rw[W]at a2;cases a2;exact⟨r,0,_,_,_,_,I,hl,a3,a4⟩
  .rename_i T
   have m:x<nx:=by
    unfold AH.get at R
    cases F:H.look x with
    |none=>rw[F]at R;cases R
    |some o=>exact rel.dom _ _ F
   rw[Q m]at a2;exact⟨x,q,s,B,u,D,by rw[p x q m];exact R,a2,a3,a4⟩
 have hLt:∀b,Lt L k (H.set nx 0 (.row sz t 0)) b->Lt L y N b:=λb h=>h.elim .inl λh=>.inr (z b h)
 have move:∀{v:Value}{a:AV},a.Below nx->VR w' (Lt L y N) y v a->VR w' (Lt L k (H.set nx 0 (.row sz t 0))) k v a:=λM hv=>
  ((
   hv.upto M).anti hLt).mono (λ_ _ h=>⟨rfl,h⟩) λr q g l h=>by
   unfold Inj.upto at h;split at h
   .rename_i hlt;rw[Q hlt];exact h
   .cases h
 have keep:∀ {s:Nat}{B:List (List AV)}{l:Loc},(∀c∈B,∀a∈c,a.Below nx)->RowOk w' (Lt L y N) y s B l->RowOk w' (Lt L k (H.set nx 0 (.row sz t 0))) k s B l:=λM ok=>
  ok.view (λ_=>rfl) rfl λi c hi=>⟨c,hi,rfl,λj a a' hj Z v hv=>by
   rw[hj]at Z;cases Z
   exact move (M c (Wh hi) a (Wh hj)) hv⟩
 have d:∀{x q o},H.get x q=some o->x<nx:=λ{x q o} h=>by
  unfold AH.get at h
  cases F:H.look x with
  |none=>rw[F]at h;cases h
  |some o=>exact rel.dom _ _ F
 refine⟨v,k,_,_,_,X,⟨J.ext,λx q u D h=>?_,?_,λb M=>J.lv b (z b M)⟩,Wk _,?_,rfl⟩
 .rw[Q (rel.idx _ _ _ _ h)];exact J.inj _ _ _ _ h
 .constructor
  .intro x q s B u C;rw[A]at C;split at C
   .rename_i T;obtain⟨rfl,rfl⟩:=T;cases C;exact⟨l,W,keep (M w L ι rel) ok⟩
   .have m:=d C;obtain⟨D,h5,ok'⟩:=J.rel.row x q s B u (by rw[p x q m];exact C);exact⟨D,by rw[Q m];exact h5,keep (λc hc a Y=>rel.below C hc Y) ok'⟩
  .intro r1 q1 r2 q2 s1 es1 g1 l1 s2 es2 g2 l2 O K U V b5 b6 b7;rw[A]at O K;have nope:∀{x q s B u D},H.get x q=some (.row s B u)->k x q u=some D->0<D.cap*D.sz->0<l.cap*l.sz->D.block=l.block->False:=λ{x q s B u D} c1 c2 c3 c4 c5=>by have m:=d c1;rw[Q m]at c2;have:=J.rel.apart x q r 0 _ _ _ _ _ _ _ _ (by rw[p x q m];exact c1) I c2 hl c3 c4 c5;omega
   by_cases X:r1=nx/\q1=0
   .rw[if_pos X]at O;obtain⟨rfl,rfl⟩:=X;cases O;rw[W]at U;cases U;by_cases S:r2=r1/\q2=0
    .exact⟨S.1.symm,S.2.symm⟩
    .rw[if_neg S]at K;exact(nope K V b6 b5 b7.symm).elim
   .rw[if_neg X]at O;by_cases S:r2=nx/\q2=0
    .rw[if_pos S]at K;obtain⟨rfl,rfl⟩:=S;cases K;rw[W]at V;cases V;exact(nope O U b5 b6 b7).elim
    .rw[if_neg S]at K;rw[Q (d O)]at U;rw[Q (d K)]at V;exact J.rel.apart _ _ _ _ _ _ _ _ _ _ _ _ (by rw[p _ _ (d O)];exact O) (by rw[p _ _ (d K)];exact K) U V b5 b6 b7
  .exact λb M=>J.rel.out b (z b M)
  .intro x q u D h;simp only[k]at h;split at h
   .omega
   .split at h
    .omega
    .cases h
  .intro x o h;rcases AH.look_set h with rfl|h
   .omega
   .have:=rel.dom _ _ h;omega
  .intro x q s B u C g2 l2 h;rw[A]at C;split at C
   .rename_i T;obtain⟨rfl,rfl⟩:=T;cases C;simp only[k]at h;rw[if_neg (by omega)]at h;split at h
    .omega
    .cases h
   .have m:=d C;rw[Q m]at h;exact J.rel.gen x q s B u (by rw[p x q m];exact C) g2 l2 h
  .exact J.rel.Lsz
 .have h4':=h4
  cases h4' with
  |own _ _ _ _ _ _ ad c D hl' hm hn hc Y=>rw[hl]at hl';cases hl';exact .own _ nx 0 0 0 n ad c l W hm hn hc Y
def zqo(b bytes:Nat)(z:List AV):ACode :=
 .seq (.region [⟨some 2,.mknil b,none⟩] [2])
 (.seq (.seq (.region [⟨some 3,.mov (.t 0),none⟩,⟨some 4,.isnil false false (.t 3),none⟩] [3])
  (.cond (.t 4) (.seq (.region [⟨some 2,.mknil b,none⟩] [0,4]) .ret) .skip))
 (.seq (.region [⟨some 5,.buildSl b 0 z [],none⟩,⟨some 6,.mov (.t 0),none⟩,⟨some 7,.append b bytes (.t 5) (.t 6),none⟩,⟨some 2,.mov (.t 7),none⟩] [0,4,5,6,7]) .ret))
def zDx(c:Nat)(x:AV)(H:AH):Bool :=
 match zcq c x H,lenV x with
 |some b,some n=>Wa n 0&&(Wa b.length 0&&zCX H x)
 |_,_=>false
theorem zCl{sz}{x}(h:zDx sz x H=true):zcq sz x H=some []/\lenV x=some 0/\fits H x:=by
 unfold zDx at h;split at h
 .rename_i b n c d;simp only[Wd]at h;rw[c,d,List.eq_nil_of_length_eq_zero (zm h.2.1),zm h.1];exact⟨rfl,rfl,zpw h.2.2⟩
 .cases h
theorem zxt{x}(h:lenV x=some 0):nilB false x=some none\/nilB false x=some (some true):=by cases x<;>simp_all [lenV,nilB]
theorem zLm{H'}(c:∀x q,x<nx->H'.get x q=H.get x q)(hd:∀r o,H.look r=some o->r<nx){sz}{x}{els}(h:zcq sz x H=some els)(b:fits H x):zcq sz x H'=some els/\fits H' x:=by
 cases x<;>try exact⟨h,b⟩
 rename_i r q g off n;simp only[zcq,fits]at h b⊢
 have e:r<nx:=by
  cases d:H.look r with
  |none=>unfold AH.get at b;rw[d]at b;exact b.elim
  |some o=>exact hd _ _ d
 rw[c r q e];exact⟨h,b⟩
theorem zwq{f sz bytes O:Nat}{z:List AV}{q:Nat->List Nat}(B:zM P f q=some ((zqo sz bytes z).strip,[.tmp 2],O))(I:1<=O){x:AV}(T:zDx sz x H=true):
  zS P f [x] H nx (λv n J=>(v,n,J)=(.own nx 0 0 0 0,H.set nx 0 (.row sz [] 0),nx+1)):=by
 obtain⟨R,N,S⟩:=zCl T;refine zGe (zHj λhd=>fn_of B I ?_) (λ_ _ _ _ c B=>by simp at B)
 have m:H.look nx=none:=by
  cases h:H.look nx with
  |none=>rfl
  |some o=>have:=hd _ _ h;omega
 have K:=AH.get_set (H:=H) (r:=nx) (q:=0) (sz:=sz) (.inr ⟨m,rfl⟩) [] 0;generalize p:H.set nx 0 (.row sz [] 0)=H1 at K
 have g:H1.look (nx+1)=none:=by
  cases h:H1.look (nx+1)with
  |none=>rfl
  |some o=>
   rw[<-p]at h;rcases AH.look_set h with h|h
   .omega
   .have:=hd _ _ h;omega
 have s:=AH.get_set (H:=H1) (r:=nx+1) (q:=0) (sz:=sz) (.inr ⟨g,rfl⟩) [] 0;generalize u:H1.set (nx+1) 0 (.row sz [] 0)=e at s;have j:zn8 (H.look nx) H nx 0 (.row sz [] 0)=H1:=by rw[<-p];rfl
 have k:zn8 (H1.look (nx+1)) H1 (nx+1) 0 (.row sz [] 0)=e:=by rw[<-u];rfl
 have Q:zn8 (e.look (nx+1)) e (nx+1) 0 (.row sz [] 1)=e.set (nx+1) 0 (.row sz [] 1):=rfl;have b:e.get (nx+1) 0=some (.row sz [] 0):=by rw[s,if_pos ⟨rfl,rfl⟩]
 have d:∀x q,x<nx->e.get x q=H.get x q:=λx q h=>by rw[s,if_neg (by omega),K,if_neg (by omega)]
 have M:=AH.get_set (H:=e) (r:=nx+1) (q:=0) (sz:=sz) (.inl ⟨_,_,b⟩) [] 1;obtain⟨C,D⟩:=zLm d hd R S;have isnil:zyA H nx sz 0 [] (.own (nx+1) 0 0 0 0) e:=⟨nx+1,0,Wk _,rfl,d,b⟩
 have more:zyA H nx sz 0 [] (.own (nx+1) 0 1 0 0) (e.set (nx+1) 0 (.row sz [] 1)) :=
  ⟨nx+1,1,Wk _,rfl,λx q h=>by rw[M,if_neg (by omega)];exact d x q h,by rw[M,if_pos ⟨rfl,rfl⟩]⟩
 have yes:wpX P nx (.seq (.region [⟨some 2,.mknil sz,none⟩] [0,4]) .ret) (retK [.tmp 2] (λv n _=>zyA H nx sz 0 [] v n)) [(0,x),(4,.bool true)] H1 (nx+1):=by
  (repeat(first|(simp(disch:=(first|omega|(simp only[evF,evL,implies_true,and_self];done)|fail)) only[evS,evZ,evX,evK,evB,evL,evR,Xa,Xb,Xc,boxR,zoC,zjz,fldR,binI,unR,zlu,zlL,zlz,zcM,zg3,extR,zmt,eqB,evU,zrC,k])|(with_reducible intro _)|((with_reducible apply Wc);omega)))
  exact isnil
 have no:wpX P nx (.seq (.region [⟨some 5,.buildSl sz 0 z [],none⟩,⟨some 6,.mov (.t 0),none⟩,⟨some 7,.append sz bytes (.t 5) (.t 6),none⟩,⟨some 2,.mov (.t 7),none⟩] [0,4,5,6,7]) .ret) (retK [.tmp 2] (λv n _=>zyA H nx sz 0 [] v n)) [(0,x),(4,.bool false)] H1 (nx+1):=by
  have y:((e.look (nx+1)).bind λx=>x.part 0)=some (.row sz [] 0):=b
  (repeat(first|(simp(disch:=(first|omega|(simp only[evF,evL,implies_true,and_self];done)|fail)) only[evS,evZ,evX,evK,evB,evL,evR,Xa,Xb,Xc,boxR,zoC,zjz,fldR,binI,unR,zlu,zlL,zlz,zcM,zg3,extR,zmt,eqB,evU,zrC,k,y,C,N,apTo,zGk,and_true,D,Nat.zero_mul,List.append_nil])|(with_reducible intro _)|((with_reducible apply Wc);omega)))
  exact more
 show wpX P nx _ _ _ _ _;unfold zqo
 (repeat(first|(simp(disch:=(first|omega|(simp only[evF,evL,implies_true,and_self];done)|fail)) only[evS,evZ,evX,evK,evB,evL,evR,Xa,Xb,Xc,boxR,zoC,zjz,fldR,binI,unR,zlu,zlL,zlz,zcM,zg3,extR,zmt,eqB,evU,zrC,j])|(with_reducible intro _)|((with_reducible apply Wc);omega)))
 rcases zxt N with F|F
 .rw[F]
  (repeat(first|(simp(disch:=(first|omega|(simp only[evF,evL,implies_true,and_self];done)|fail)) only[evS,evZ,evX,evK,evB,evL,evR,Xa,Xb,Xc,boxR,zoC,zjz,fldR,binI,unR,zlu,zlL,zlz,zcM,zg3,extR,zmt,eqB,evU,zrC,j])|(with_reducible intro _)|((with_reducible apply Wc);omega)))
  refine zf (λA=>?_) (λA=>?_)
  .subst A;exact yes
  .subst A;exact no
 .rw[F]
  (repeat(first|(simp(disch:=(first|omega|(simp only[evF,evL,implies_true,and_self];done)|fail)) only[evS,evZ,evX,evK,evB,evL,evR,Xa,Xb,Xc,boxR,zoC,zjz,fldR,binI,unR,zlu,zlL,zlz,zcM,zg3,extR,zmt,eqB,evU,zrC,j,k])|(with_reducible intro _)|((with_reducible apply Wc);omega)))
  exact isnil
end
def frB(m:Bool)(H:AH):Nat->AV->AV->Bool
 |0,_,_=>false
 |
  d+1,b,a=>match a with
  |.undef=>true
  |
   .int k n=>match b with
   |.int v o=>decide (v=k)&&decide (o=n)
   |_=>false
  |
   .bool x=>match b with
   |.bool y=>y == x
   |_=>false
  |
   .str s=>match b with
   |.str t=>decide (t=s)
   |_=>false
  |
   .nilp=>match b with
   |.nilp=>true
   |_=>false
  |
   .nilfn=>match b with
   |.nilfn=>true
   |_=>false
  |
   .cut=>match b with
   |.cut=>true
   |_=>false
  |
   .nilsl=>match b with
   |.nilsl=>true
   |_=>false
  |
   .sl sz n f=>match b with
   |.sl c o p=>Wa c sz&&(Wa o n&&allB n λi=>allB sz λj=>frB m H d (p i j) (f i j))
   |.nilsl=>Wa n 0
   |
    .own r q g off o=>m&&(match H.get r q with
    |some (.row c e u)=>Wa c sz&&(Wa o n&&(Wa g u&&(Xd n big&&(Xd (off+n) e.length&&allB n λi=>allB sz λj=>frB m H d ((e.getD (off+i) []).getD j .undef) (f i j)))))
    |_=>false)
   |_=>false
  |
   .agg l=>match b with
   |.agg h=>Wa h.length l.length&&allB l.length λi=>frB m H d (h.getD i .undef) (l.getD i .undef)
   |_=>false
  |
   .tup l=>match b with
   |.tup h=>Wa h.length l.length&&allB l.length λi=>frB m H d (h.getD i .undef) (l.getD i .undef)
   |_=>false
  |_=>false
theorem zvx{α:Type}{l:List α}{i:Nat}{a d:α}(h:l[i]?=some a):l.getD i d=a:=by rw[List.getD_eq_getElem?_getD,h];rfl
theorem zve{H}{m}{D}(k:m=true->∀r q,D r q):∀(d:Nat)(b a:AV),frB m H d b a=true->Vw H [] nos D false b a
 |0,_,_,h=>by cases h
 |
  d+1,b,a,h=>by
  unfold frB at h;split at h
  .exact .undef _ _
  .split at h
   .simp only[Wd,decide_eq_true_eq]at h;obtain⟨rfl,rfl⟩:=h;exact .int _ _ _
   .cases h
  .split at h
   .simp only[beq_iff_eq]at h;subst h;exact .bool _ _
   .cases h
  .split at h
   .simp only[decide_eq_true_eq]at h;subst h;exact .str _ _
   .cases h
  .split at h
   .exact .nilp _
   .cases h
  .split at h
   .exact .nilfn _
   .cases h
  .split at h
   .exact .cut _
   .cases h
  .split at h
   .exact .nilsl _
   .cases h
  .split at h
   .rename_i o z K;simp only[Wd]at h;obtain⟨c,e,s⟩:=h;obtain rfl:=zm c;obtain rfl:=zm e;exact .slf _ _ _ _ _ λi j t u=>zve k d _ _ (zbD (zbD s t) u)
   .obtain rfl:=zm h;exact .nil0 _ _ _
   .rename_i r q g off z;rw[Wd]at h;obtain⟨I,h⟩:=h;split at h
    .rename_i o p L F;simp only[Wd]at h;obtain⟨c,e,s,A,B,C⟩:=h;obtain rfl:=zm c;obtain rfl:=zm e;obtain rfl:=zm s;exact .frz _ r q g off z o p _ (k I r q) F (bleT A) (bleT B) λi j t u=>zve k d _ _ (zbD (zbD C t) u)
    .cases h
   .cases h
  .split at h
   .rename_i l J;simp only[Wd]at h;obtain⟨c,e⟩:=h;have v:=zm c;refine .agg _ _ _ v λi x y w n=>?_
    have:=zbD e (Wl.1 n).1;rw[zvx w,zvx n]at this;exact zve k d _ _ this
   .cases h
  .split at h
   .rename_i l J;simp only[Wd]at h;obtain⟨c,e⟩:=h;have v:=zm c;refine .tup _ _ _ v λi x y w n=>?_
    have:=zbD e (Wl.1 n).1;rw[zvx w,zvx n]at this;exact zve k d _ _ this
   .cases h
  .cases h
def frBs(m:Bool)(H:AH):List AV->List AV->Bool
 |[],[]=>true
 |b::d,a::c=>frB m H 30 b a&&frBs m H d c
 |_,_=>false
theorem zAk{H}{m}{D}(e:m=true->∀r q,D r q):∀{d c:List AV},frBs m H d c=true->Lend H D d c
 |[],[],_=>.nil
 |
  b::d,a::c,h=>by
  rw[frBs,Wd]at h;exact .cons (zve e 30 _ _ h.1) (zAk e h.2)
 |[],_::_,h=>by cases h
 |_::_,[],h=>by cases h
structure Memo where
 f:FuncId
 args:List AV
 res:AV
def zB7:List Memo->zb2->zb2
 |[],b,f,args,H,nx=>b f args H nx
 |e::t,b,f,args,H,nx=>bif Wa e.f f&&(bif e.res.scal then frBs true H args e.args else frBs false H args e.args)then some (e.res,H,nx)else zB7 t b f args H nx
theorem zld{P}{d:zb2}(j:d.Sound P):∀{l:List Memo},(∀e∈l,zn P e.f e.args (·=e.res))->(zB7 l d).Sound P
 |[],_=>j
 |
  e::t,hl=>by
  intro f args H nx r h;unfold zB7 at h
  cases c:Wa e.f f&&(bif e.res.scal then frBs true H args e.args else frBs false H args e.args)with
  |false=>rw[c]at h;exact zld j (λk m=>hl k (List.mem_cons_of_mem _ m)) f args H nx r h
  |true=>
   rw[c]at h;cases h;rw[Wd]at c;obtain rfl:=zm c.1;have b:=c.2
   cases g:e.res.scal with
   |true=>rw[g]at b;exact(zaW (D:=allR) (hl e (by simp)) (zAk (λ_ _ _=>trivial) b) (.inl g)).ok rfl
   |false=>rw[g]at b;exact(zaW (D:=noR) (hl e (by simp)) (zAk (λh=>by cases h) b) (.inr λ_ _ h=>h)).ok rfl
def isFrz(a:AV):Option (AV×AH×Nat)->Bool
 |some (v,H,_)=>frB true H 30 v a
 |none=>false
theorem zgI{P}{qf}{b:zb2}(d:b.Sound P)(n){f}{args}{a}(h:isFrz a (zCH P qf b (zhD P qf b n) f args [] 0)=true):zn P f args (·=a):=by
 unfold isFrz at h;split at h
 .rename_i v j g e;exact(zuT d n e).mono λv1 k nx1 c=>by cases c;exact⟨a,zve (λ_ _ _=>trivial) 30 _ _ h,rfl⟩
 .cases h
def slL(b:Nat)(l:List (List AV)):AV:=.sl b l.length (λi j=>(l.getD i []).getD j .undef)
def oN(d:Nat)(a:AOp):AOper:=⟨some d,a,none⟩
def oG(d t:Nat)(b:Bool)(a:AOp):AOper:=⟨some d,a,some (t,b)⟩
def oM(d s:Nat):AOper:=⟨some d,.mov (.t s),none⟩
def oK(d:Nat)(k:Int):AOper:=⟨some d,.mov (.c (.int .i64 k)),none⟩
def oL(d s:Nat):AOper:=⟨some d,.load false 1 (.t s),none⟩
def oA(d n s:Nat):AOper:=⟨some d,.load true n (.t s),none⟩
def oF(d f n s:Nat):AOper:=⟨some d,.fldaddr f n (.t s),none⟩
def oI(d n a b:Nat):AOper:=⟨some d,.idx n (.t a) (.t b),none⟩
def oE(d s:Nat):AOper:=⟨some d,.len (.t s),none⟩
def oX(d s:Nat):AOper:=⟨some d,.xop .nilck [.t s],none⟩
def oB(d:Nat)(o:BinOp)(a b:Nat):AOper:=⟨some d,.bin o (.t a) (.t b),none⟩
def oC(d:Nat)(o:BinOp)(a:Nat)(k:Int):AOper:=⟨some d,.bin o (.t a) (.c (.int .i64 k)),none⟩
def oS(n a b:Nat):AOper:=⟨none,.store n (.t a) (.t b),none⟩
def oT(d k s:Nat):AOper:=⟨some d,.ext k (.t s),none⟩
def Yaa:AOper:=oN 144 (.buildSl 5 1 [.int .i64 0,.int .i64 0,.int .i64 0,.nilsl,.nilsl] [(0,(.t 143))])
def Yab:AOper:=oN 145 (.build [.int .i64 0,.int .i64 0,.int .i64 0,.nilsl,.nilsl] [(0,1,(.c (.int .i64 5))),(1,1,(.t 133)),(3,1,(.t 135)),(4,1,(.t 144))])
def Yac:AOper:=oN 142 (.append 5 72 (.t 140) (.t 141))
def Yad:AOper:=oN 140 (.buildSl 5 1 [.int .i64 0,.int .i64 0,.int .i64 0,.nilsl,.nilsl] [(0,(.t 139))])
def tbI:Nat->Int
 |0=>0
 |1=>1
 |2=>2
 |3=>3
 |4=>4
 |5=>5
 |6=>6
 |7=>7
 |8=>8
 |9=> -1
 |10=>9
 |11=>10
 |12=>11
 |13=>12
 |14=>13
 |15=>14
 |16=>15
 |17=>16
 |18=>17
 |19=>18
 |20=>19
 |21=>20
 |22=>21
 |23=>22
 |24=>24
 |25=>30
 |26=>31
 |27=>32
 |28=>40
 |29=>41
 |30=>50
 |31=>60
 |32=>63
 |33=>64
 |34=>65
 |35=>70
 |36=>80
 |37=>90
 |38=>99
 |39=>100
 |40=>120
 |41=>128
 |42=>200
 |43=>255
 |44=>256
 |45=>300
 |46=>500
 |47=>512
 |48=>1000
 |49=>1024
 |50=>2001
 |51=>4096
 |52=>10000
 |53=>65535
 |54=>65536
 |55=>1000000
 |56=>1048576
 |57=>16777216
 |58=>2147483647
 |59=>2147483648
 |60=>4294967280
 |61=>4294967295
 |62=>4294967296
 |63=>983036
 |64=>983040
 |65=> -2
 |66=> -4
 |67=> -8
 |_=>0
theorem tbE:tbI 0=0/\tbI 1=1/\tbI 2=2/\tbI 3=3/\tbI 4=4/\tbI 5=5/\tbI 6=6/\tbI 7=7/\tbI 8=8/\tbI 9 = -1/\tbI 10=9/\tbI 11=10/\tbI 12=11/\tbI 13=12/\tbI 14=13/\tbI 15=14/\tbI 16=15/\tbI 17=16/\tbI 18=17/\tbI 19=18/\tbI 20=19/\tbI 21=20/\tbI 22=21/\tbI 23=22/\tbI 24=24/\tbI 25=30/\tbI 26=31/\tbI 27=32/\tbI 28=40/\tbI 29=41/\tbI 30=50/\tbI 31=60/\tbI 32=63/\tbI 33=64/\tbI 34=65/\tbI 35=70/\tbI 36=80/\tbI 37=90/\tbI 38=99/\tbI 39=100/\tbI 40=120/\tbI 41=128/\tbI 42=200/\tbI 43=255/\tbI 44=256/\tbI 45=300/\tbI 46=500/\tbI 47=512/\tbI 48=1000/\tbI 49=1024/\tbI 50=2001/\tbI 51=4096/\tbI 52=10000/\tbI 53=65535/\tbI 54=65536/\tbI 55=1000000/\tbI 56=1048576/\tbI 57=16777216/\tbI 58=2147483647/\tbI 59=2147483648/\tbI 60=4294967280/\tbI 61=4294967295/\tbI 62=4294967296/\tbI 63=983036/\tbI 64=983040/\tbI 65 = -2/\tbI 66 = -4/\tbI 67 = -8:=by(repeat' apply Wc)<;>rfl
attribute [irreducible] tbI
theorem evD:type_of% @evA/\type_of% @boxR.eq_1/\type_of% @zoC.eq_1/\type_of% @zjz.eq_1/\type_of% @fldR.eq_1/\type_of% @binI.eq_1/\type_of% @binI.eq_2/\type_of% @binI.eq_3/\type_of% @binI.eq_4/\type_of% @binI.eq_5/\type_of% @binI.eq_6/\type_of% @binI.eq_7/\type_of% @binI.eq_8/\type_of% @binI.eq_9/\type_of% @binI.eq_10/\type_of% @binI.eq_11/\type_of% @binI.eq_12/\type_of% @binI.eq_13/\type_of% @binI.eq_14/\type_of% @binI.eq_15/\type_of% @binI.eq_16/\type_of% @binI.eq_17/\type_of% @unR.eq_1/\type_of% @unR.eq_2/\type_of% @zlu.eq_1/\type_of% @zlL.eq_1/\type_of% @zlz.eq_1/\type_of% @zcM.eq_1/\type_of% @zg3.eq_1/\type_of% @extR.eq_1/\type_of% @zmt.eq_1/\type_of% @eqB.eq_1/\type_of% @evU/\type_of% @zrC/\type_of% @oN.eq_1/\type_of% @oG.eq_1/\type_of% @oM.eq_1/\type_of% @oK.eq_1/\type_of% @oL.eq_1/\type_of% @oA.eq_1/\type_of% @oF.eq_1/\type_of% @oI.eq_1/\type_of% @oE.eq_1/\type_of% @oX.eq_1/\type_of% @oB.eq_1/\type_of% @oC.eq_1/\type_of% @oS.eq_1/\type_of% @oT.eq_1/\type_of% @Yaa.eq_1/\type_of% @Yab.eq_1/\type_of% @Yac.eq_1/\type_of% @Yad.eq_1/\type_of% @tbE :=
 ⟨@evA,@boxR.eq_1,@zoC.eq_1,@zjz.eq_1,@fldR.eq_1,@binI.eq_1,@binI.eq_2,@binI.eq_3,@binI.eq_4,@binI.eq_5,@binI.eq_6,@binI.eq_7,@binI.eq_8,@binI.eq_9,@binI.eq_10,@binI.eq_11,@binI.eq_12,@binI.eq_13,@binI.eq_14,@binI.eq_15,@binI.eq_16,@binI.eq_17,@unR.eq_1,@unR.eq_2,@zlu.eq_1,@zlL.eq_1,@zlz.eq_1,@zcM.eq_1,@zg3.eq_1,@extR.eq_1,@zmt.eq_1,@eqB.eq_1,@evU,@zrC,@oN.eq_1,@oG.eq_1,@oM.eq_1,@oK.eq_1,@oL.eq_1,@oA.eq_1,@oF.eq_1,@oI.eq_1,@oE.eq_1,@oX.eq_1,@oB.eq_1,@oC.eq_1,@oS.eq_1,@oT.eq_1,@Yaa.eq_1,@Yab.eq_1,@Yac.eq_1,@Yad.eq_1,@tbE⟩
theorem evWB:type_of% @evWA/\type_of% @and_self/\type_of% @Int.natCast_zero/\type_of% @Int.natCast_one/\type_of% @Int.cast_ofNat_Int/\type_of% @evV/\type_of% @za.eq_1/\type_of% @zb.eq_1/\type_of% @zcL.eq_1/\type_of% @encP.eq_1 :=
 ⟨@evWA,@and_self,@Int.natCast_zero,@Int.natCast_one,@Int.cast_ofNat_Int,@evV,@za.eq_1,@zb.eq_1,@zcL.eq_1,@encP.eq_1⟩
theorem dcd:type_of% @decide_eq_true_eq/\type_of% @decide_eq_false_iff_not/\type_of% @Bool.not_eq_true'/\type_of% @Bool.not_eq_false'/\type_of% @Bool.and_eq_true/\type_of% @Bool.or_eq_true/\type_of% @not_true_eq_false/\type_of% @not_false_eq_true :=
 ⟨@decide_eq_true_eq,@decide_eq_false_iff_not,@Bool.not_eq_true',@Bool.not_eq_false',@Bool.and_eq_true,@Bool.or_eq_true,@not_true_eq_false,@not_false_eq_true⟩
theorem fin4{p:Prop}(h:p:=by(repeat' with_reducible apply And.intro)<;>first|omega|exact zbX rfl rfl (by omega)|exact zbz rfl rfl (by omega)|exact zqc rfl rfl (by omega)|(refine zkK ?_;(repeat' first|exact bytes_flat|exact flat1|refine flat_app ?_ ?_);done)|exact zvH (λ_=>rfl)|exact zau (c:=cN) (λ_=>rfl) rfl|exact zck (λ_=>rfl) (by decide) ⟨rfl,rfl⟩ trivial|exact zck (λ_=>rfl) (by decide) (λ_ _=>⟨rfl,rfl⟩) trivial|(simp;done)):p:=h
theorem Gin4_0{p:Prop}(h:p:=by(try simp only[evWB,Nat.reduceBEq,Nat.reduceAdd,Nat.reduceSub,Nat.reduceLeDiff,Nat.reduceLT,implies_true])<;>exact fin4):p:=h
theorem Gin4_1{b p:Prop}(a0:b)(h:b->p:=by intro a0;(try simp only[evWB,Nat.reduceBEq,Nat.reduceAdd,Nat.reduceSub,Nat.reduceLeDiff,Nat.reduceLT,implies_true,a0])<;>exact fin4):p:=h a0
theorem Gin4_2{c d p:Prop}(a0:c)(b:d)(h:c->d->p:=by intro a0 b;(try simp only[evWB,Nat.reduceBEq,Nat.reduceAdd,Nat.reduceSub,Nat.reduceLeDiff,Nat.reduceLT,implies_true,a0,b])<;>exact fin4):p:=h a0 b
theorem Gin4_3{d e g p:Prop}(a0:d)(b:e)(c:g)(h:d->e->g->p:=by intro a0 b c;(try simp only[evWB,Nat.reduceBEq,Nat.reduceAdd,Nat.reduceSub,Nat.reduceLeDiff,Nat.reduceLT,implies_true,a0,b,c])<;>exact fin4):p:=h a0 b c
theorem Gin4_4{d e g j p:Prop}(a0:d)(b:e)(c:g)(a3:j)(h:d->e->g->j->p:=by intro a0 b c a3;(try simp only[evWB,Nat.reduceBEq,Nat.reduceAdd,Nat.reduceSub,Nat.reduceLeDiff,Nat.reduceLT,implies_true,a0,b,c,a3])<;>exact fin4):p:=h a0 b c a3
theorem lb{p:Prop}(h:p:=by first|rfl|exact(dT (by omega)).symm|exact(dF (by omega)).symm|exact decide_eq_decide.2 (by omega)):p:=h
theorem bzO{H}{b}:∃a,Frz H (.bool b) a/\a=.bool b:=⟨_,.bool _ _,rfl⟩
theorem izO{H}{k}{n}:∃a,Frz H (.int k n) a/\a=.int k n:=⟨_,.int _ _ _,rfl⟩
theorem bxO{H}{b c}(h:b=c):∃a,Frz H (.bool b) a/\a=.bool c:=⟨_,.bool _ _,congrArg AV.bool h⟩
theorem hBig:big=9223372036854775807:=rfl
theorem fin5{p:Prop}(h:p:=by(try simp[subK,Kn.get,zgX])<;>(repeat' with_reducible apply And.intro)<;>first|rfl|omega|(simp;done)):p:=h
theorem fin6{p:Prop}(h:p:=by((repeat' with_reducible apply And.intro)<;>first|omega|rfl|exact b (λ_=>rfl)|exact Vw.it _ _ rfl|exact Vw.mp _ _ _ _ rfl|exact zck zmv (by decide) ⟨rfl,rfl⟩ trivial|exact zck zmv (by decide) (λ_ _=>⟨rfl,rfl⟩) trivial|(refine zJK rfl ?_;(repeat' (first|exact zE zmv|exact rowI_flat|exact zE (λ_=>rfl)|exact zE (λ_=>zp)|exact zE (λ_=>zq)|exact zas zp|exact zas zq|exact zpz rfl|exact znp|exact zas rfl|refine zi6 ?_ ?_|refine zal rfl ?_|refine zal zp ?_|refine zal zq ?_));done)|exact zpx rfl|(refine RowV.of_flat ?_;(repeat' (first|exact zE zmv|exact rowI_flat|exact zE (λ_=>rfl)|exact zE (λ_=>zp)|exact zE (λ_=>zq)|exact zas zp|exact zas zq|exact zpz rfl|exact znp|exact zas rfl|refine zi6 ?_ ?_|refine zal rfl ?_|refine zal zp ?_|refine zal zq ?_));done)|((repeat' (first|exact zE zmv|exact rowI_flat|exact zE (λ_=>rfl)|exact zE (λ_=>zp)|exact zE (λ_=>zq)|exact zas zp|exact zas zq|exact zpz rfl|exact znp|exact zas rfl|refine zi6 ?_ ?_|refine zal rfl ?_|refine zal zp ?_|refine zal zq ?_));done)|exact zbX rfl rfl (by omega)|exact zbz rfl rfl (by omega)|exact zqc rfl rfl (by omega)|exact zvH (λ_=>rfl)|exact zck (λ_=>rfl) (by decide) ⟨rfl,rfl⟩ trivial|exact zck (λ_=>rfl) (by decide) (λ_ _=>⟨rfl,rfl⟩) trivial|(simp;done))):p:=h
theorem Gin6_2{c d p:Prop}(a0:c)(b:d)(h:c->d->p:=by intro a0 b;(try simp only[evWB,Nat.reduceBEq,Nat.reduceAdd,Nat.reduceSub,Nat.reduceLeDiff,Nat.reduceLT,implies_true,a0,b])<;>exact fin6):p:=h a0 b
theorem Gin6_8{g j k m n o q s p:Prop}(a0:g)(b:j)(c:k)(a3:m)(a4:n)(a5:o)(d:q)(e:s)(h:g->j->k->m->n->o->q->s->p:=by intro a0 b c a3 a4 a5 d e;(try simp only[evWB,Nat.reduceBEq,Nat.reduceAdd,Nat.reduceSub,Nat.reduceLeDiff,Nat.reduceLT,implies_true,a0,b,c,a3,a4,a5,d,e])<;>exact fin6):p:=h a0 b c a3 a4 a5 d e
theorem fin8{p:Prop}(h:p:=by(try simp only[evWB,Nat.reduceBEq,Nat.reduceAdd,Nat.reduceSub,Nat.reduceLeDiff,Nat.reduceLT,implies_true])<;>(repeat' with_reducible apply And.intro)<;>first|(refine zck zmv (by decide) ⟨rfl,rfl⟩ ?_;(try simp only[evWB,Nat.reduceBEq,Nat.reduceAdd,Nat.reduceSub,Nat.reduceLeDiff,Nat.reduceLT,implies_true])<;>(repeat' with_reducible apply And.intro)<;>first|(refine zck zmv (by decide) ⟨rfl,rfl⟩ ?_;(try simp only[evWB,Nat.reduceBEq,Nat.reduceAdd,Nat.reduceSub,Nat.reduceLeDiff,Nat.reduceLT,implies_true])<;>exact fin6;done)|exact fin6;done)|exact fin6):p:=h
theorem fin9{p:Prop}(h:p:=by(try simp only[evWB,Nat.reduceBEq,Nat.reduceAdd,Nat.reduceSub,Nat.reduceLeDiff,Nat.reduceLT,implies_true])<;>exact fin6):p:=h
inductive MC where
 |hd (c:Int)
 |en (k b:Int)
def cm:MC->List AV
 |.hd c=>[.int .i64 c,.undef,.undef]
 |.en k b=>[.int .i64 k,.bool true,.int .i64 b]
theorem zmv:∀a,zz (cm a)=true
 |.hd _=>rfl
 |.en _ _=>rfl
def enL(ps:List (Int×Int)):List MC:=ps.map λp=>.en p.1 p.2
def setM(c:Int)(b:List (Int×Int)):List MC:=.hd c::enL b
theorem zwv{k:Int}:∀ {b:List (Int×Int)}{i:Nat},zeC (.int .i64 k) ((enL b).map cm) i=some (match b.findIdx? (λp=>decide (p.1=k))with
  |some j=>some (i+j,.bool true)
  |none=>none)
 |[],i=>rfl
 |
  p::b,i=>by
  rw[List.findIdx?_cons];by_cases h:k=p.1
  .rw[if_pos (decide_eq_true h.symm)];simp only[enL,List.map_cons,cm,zeC,zwg,if_true,decide_eq_true h,Nat.add_zero]
  .rw[if_neg (by simp;exact λe=>h e.symm)];have e:zeC (.int .i64 k) ((enL (p::b)).map cm) i=zeC (.int .i64 k) ((enL b).map cm) (i+1):=by simp only[enL,List.map_cons,cm,zeC,zwg,if_true,decide_eq_false h]
   rw[e,zwv]
   cases b.findIdx? (λp=>decide (p.1=k))with
   |none=>rfl
   |some j=>simp only[Option.map_some];rw[show i+1+j=i+(j+1) by omega]
theorem ztZ{k}{ps}(h:k∈ps.map (·.1)):∃j,∃g:j<ps.length,ps[j].1=k/\zeC (.int .i64 k) ((enL ps).map cm) 0=some (some (j,.bool true)):=by
 rw[zwv]
 cases b:ps.findIdx? (λp=>decide (p.1=k))with
 |none=>obtain⟨p,e,rfl⟩:=List.mem_map.1 h;have:=List.findIdx?_eq_none_iff.1 b p e;simp at this
 |some j=>obtain⟨c,d,_⟩:=Wm.1 b;exact⟨j,c,of_decide_eq_true d,by simp⟩
theorem zqV{k}{ps}(h:k∉ps.map (·.1)):zeC (.int .i64 k) ((enL ps).map cm) 0=some none:=by
 rw[zwv]
 cases d:ps.findIdx? (λp=>decide (p.1=k))with
 |none=>rfl
 |some j=>obtain⟨b,c,_⟩:=Wm.1 d;exact absurd (List.mem_map.2 ⟨_,List.getElem_mem b,of_decide_eq_true c⟩) h
theorem zJK{H HH}{σ}{D}{r q r' q'}{tl}(k:σ r' q'=some (r,q,0))(h:zw tl):RowV H HH σ D ([.mp r q]::tl) ([.mp r' q']::tl):=by
 obtain⟨_,c⟩:=RowV.of_flat (H:=H) (HH:=HH) (σ:=σ) (D:=D) h;refine⟨by simp,λi g e=>?_⟩
 cases i with
 |zero=>
  cases e;refine⟨_,rfl,rfl,λj a b d c=>?_⟩
  cases j with
  |zero=>cases d;cases c;exact .mp _ _ _ _ k
  |succ j=>cases d
 |succ i=>exact c i g e
variable {P:Program}{H:AH}{nx:Nat}{D:Nat->Nat->Prop}
section
variable {P:Program}
structure DrawOk2(rk:Nat->Nat)(ops:List AOper)(deps:List (List Nat))(Ls:List Nat)(A:List (List Nat))(St:List (List Nat))(plan:Plan)(ks:List Nat):Prop where
 low:∀(i:Nat),i<ops.length->∀j∈deps.getD i [],j<ops.length/\rk j<rk i
 clo:∀(i:Nat),i<ops.length->∀j∈A.getD i [],j∈deps.getD i []\/∃d∈deps.getD i [],j∈A.getD d []
 one:∀(i j d:Nat),i<ops.length->j<ops.length->(ops.getD i default).dst=some d->(ops.getD j default).dst=some d->i=j
 keys:∀k∈ks,∃o∈ops,o.dst=some k
 look:∀(i:Nat),i<ops.length->∀t∈(ops.getD i default).looks,(∃j∈A.getD i [],(ops.getD j default).dst=some t)\/∀o∈ops,o.dst≠some t
 lin:∀i∈Ls,i<ops.length
 st0:[]∈St
 stc:∀S∈St,∀i∈Ls,zfg Ls A i S=true->znx Ls i S∈St
 plan:∀(i:Nat),i<ops.length->((ops.getD i default).fixed=true/\(ops.getD i default).sees=false/\i∉Ls/\anyP plan i=true) \/
  (i∉Ls/\∀S∈St,zfg Ls A i S=true->memP plan i S S=true)\/(i∈Ls/\∀S∈St,zfg Ls A i S=true->memP plan i S (znx Ls i S)=true)
end
def zrV(N:Nat):Nat->Nat->Option (Nat×Nat×Nat):=λr q=>if r<N then some (r,q,0)else none
section
variable {H H2:AH}{σ:Nat->Nat->Option (Nat×Nat×Nat)}{D:Nat->Nat->Prop}
theorem zJy{N}(b:∀r q,r<N->σ r q=some (r,q,0)){a}(h:a.lt0 N=true):Vw H H2 σ D true a a:=by
 cases a;case own r q g o n=>exact .own _ _ _ 0 _ _ _ _ _ (b _ _ (by simpa [AV.lt0,Wi]using h)) rfl
 case ptr r q g i f=>exact .ptr _ _ _ 0 _ _ _ _ _ (b _ _ (by simpa [AV.lt0,Wi]using h)) rfl
 case mp r q=>exact .mp _ _ _ _ (b _ _ (by simpa [AV.lt0,Wi]using h))
 case it r=>exact .it _ _ (b _ _ (by simpa [AV.lt0,Wi]using h))
 case fn _ _=>cases h
 case agg _=>cases h
 case tup _=>cases h
 case nilmp=>exact .nilmp _
 all_goals exact zl rfl
theorem zAG{N:Nat}(e:∀r q,r<N->σ r q=some (r,q,0)){l:List AV}(h:l.all (AV.lt0 N)=true):∀(i:Nat)(a b:AV),l[i]?=some a->l[i]?=some b->Vw H H2 σ D true a b:=by intro i a b c d;rw[c]at d;cases d;exact zJy e (List.all_eq_true.1 h a (Wh c))
theorem vw_lt1{N}(b:∀r q,r<N->σ r q=some (r,q,0)){a}(h:a.lt1 N=true):Vw H H2 σ D true a a:=by
 cases a;case fn f l=>exact .fn _ _ _ _ rfl (zAG b h)
 case agg l=>exact .agg _ _ _ rfl (zAG b h)
 case tup l=>exact .tup _ _ _ rfl (zAG b h)
 all_goals exact zJy b h
theorem zGI{N}(k:∀r q,r<N->σ r q=some (r,q,0)){els}(h:zqT N els):RowV H H2 σ D els els:=by refine⟨rfl,λi c d=>⟨c,d,rfl,λj a b e g=>?_⟩⟩;exact zAG k (h c (Wh d)) j a b e g
end
def zES(N:Nat):Kn->Kn->Prop
 |[],_=>True
 |(j,v)::t,K=>(K.get j=v/\v.lt1 N=true)/\zES N t K
theorem zuS{N}{K}:∀{b:Kn},zES N b K->∀i,b.get i=.undef\/(b.get i=K.get i/\(b.get i).lt1 N=true)
 |[],_,i=>.inl rfl
 |
  (j,v)::t,h,i=>by
  simp only[Kn.get]
  cases c:Wa j i with
  |true=>rw[<-zm c];exact .inr ⟨h.1.1.symm,h.1.2⟩
  |false=>exact zuS h.2 i
def zEP(H b:AH)(σ:Nat->Nat->Option (Nat×Nat×Nat))(D:Nat->Nat->Prop):Kn->Kn->Prop
 |[],_=>True
 |(j,v)::t,K=>Vw H b σ D true (K.get j) v/\zEP H b σ D t K
theorem zvb{H H2}{σ}{D}{K}:∀{b:Kn},zEP H H2 σ D b K->∀i,Vw H H2 σ D true (K.get i) (b.get i)
 |[],_,i=>.undef _ _
 |
  (j,v)::t,h,i=>by
  simp only[Kn.get]
  cases c:Wa j i with
  |true=>rw[<-zm c];exact h.1
  |false=>exact zvb h.2 i
theorem Ent.low{B N nx}{K K2}{H H2}(m:B<=N)(n:∀r o,H2.look r=some o->H.look r=some o)(d:zen N H2)(p:zES N K2 K):Ent B K H nx K2 H2 N:=by
 have e:∀r q,r<N->zrV N r q=some (r,q,0):=λr q h=>if_pos h
 refine Ent.view (zrV N) (λ_ _=>False) ⟨m,λr q h=>e r q (by omega),?_,λ_ _ _ _ _ _ h=>h,?_,λr o h=>(zcn d h).1,?_⟩ ?_
 .intro z v A w r q s t b c;unfold zrV at b c;split at b
  .split at c
   .cases b;cases c;exact⟨rfl,rfl⟩
   .cases c
  .cases b
 .intro y u x h;unfold zrV at h;split at h
  .assumption
  .cases h
 .intro r q C j g h;have k:=zgz d h;refine .inl ⟨r,q,0,j,e r q k.1,?_,zGI e k.2⟩;unfold AH.get at h⊢;obtain⟨o,b,c⟩:=Wn.1 h;rw[n r o b];exact c
 .intro i;rcases zuS p i with h|⟨b,c⟩
  .rw[h];exact .undef _ _
  .rw[<-b];exact vw_lt1 e c
theorem Ent.lowF{B N nx}{K K2}{H H2}(n:B<=N)(p:∀r o,H2.look r=some o->H.look r=some o)(e:zen N H2)(s:zEP H H2 (zrV N) (λr _=>N<=r) K2 K):Ent B K H nx K2 H2 N:=by
 have k:∀r q,r<N->zrV N r q=some (r,q,0):=λr q h=>if_pos h
 refine Ent.view (zrV N) (λr _=>N<=r) ⟨n,λr q h=>k r q (by omega),?_,?_,?_,λr o h=>(zcn e h).1,?_⟩ (zvb s)
 .intro A y C z r q v w b c;unfold zrV at b c;split at b
  .split at c
   .cases b;cases c;exact⟨rfl,rfl⟩
   .cases c
  .cases b
 .intro u t r q d h;unfold zrV at h;split at h
  .cases h;omega
  .cases h
 .intro u t x h;unfold zrV at h;split at h
  .assumption
  .cases h
 .intro r q F j g h;have m:=zgz e h;refine .inl ⟨r,q,0,j,k r q m.1,?_,zGI k m.2⟩;unfold AH.get at h⊢;obtain⟨o,b,c⟩:=Wn.1 h;rw[p r o b];exact c
end Go.Ab
namespace Go.Proofs
open Go.RowKit Go.Maps Go.Sort Go.Shelf
def zce:Go.Shelf.Ren:=⟨λ|7=>169|10=>183|n=>n,λ|23=>69|26=>3|3=>4|28=>164|0=>0|27=>163|33=>115|4=>4|n=>n,λ|n=>n⟩
theorem zyV:Go.Proofs.SlLaysZI.n7 Tryz.prog zce:={
 mixed:=by kernel_rfl,
 f7:=⟨Tryz.f169.name,by decide,Tryz.func169.trans (congrArg some (by kernel_rfl))⟩,
 f10:=⟨Tryz.f183.name,by decide,Tryz.func183.trans (congrArg some (by kernel_rfl))⟩,
 t0:=Tryz.underlying0,
 a0:=Tryz.isAgg0,
 z0:=Tryz.sizeOf0,
 v0:=Tryz.zeroValue0,
 t4:=Tryz.underlying4,
 a4:=Tryz.isAgg4,
 z4:=Tryz.sizeOf4,
 v4:=Tryz.zeroValue4,
 t23:=Tryz.underlying69,
 a23:=Tryz.isAgg69,
 z23:=Tryz.sizeOf69,
 v23:=Tryz.zeroValue69,
 t26:=Tryz.underlying3,
 a26:=Tryz.isAgg3,
 z26:=Tryz.sizeOf3,
 v26:=Tryz.zeroValue3,
 t27:=Tryz.underlying163,
 a27:=Tryz.isAgg163,
 z27:=Tryz.sizeOf163,
 v27:=Tryz.zeroValue163,
 t28:=Tryz.underlying164,
 a28:=Tryz.isAgg164,
 z28:=Tryz.sizeOf164,
 v28:=Tryz.zeroValue164,
 t33:=Tryz.underlying115,
 a33:=Tryz.isAgg115,
 z33:=Tryz.sizeOf115,
 v33:=Tryz.zeroValue115 }
def zpP:Go.Shelf.Ren:=⟨λ|6=>168|8=>182|9=>57|11=>186|13=>106|12=>105|23=>151|24=>152|14=>142|15=>143|16=>144|17=>145|18=>146|19=>147|20=>148|21=>149|22=>150|25=>173|26=>174|27=>175|28=>176|29=>177|30=>178|31=>185|n=>n,λ|26=>3|28=>164|24=>36|0=>0|3=>3|37=>120|48=>22|50=>152|4=>4|40=>144|39=>143|45=>148|5=>5|9=>9|51=>167|55=>171|57=>176|58=>177|33=>115|n=>n,λ|n=>n⟩
theorem zEf:Go.Proofs.SlLaysZI.n6 Tryz.prog zpP:={
 mixed:=by kernel_rfl,
 f6:=⟨Tryz.f168.name,by decide,Tryz.func168.trans (congrArg some (by kernel_rfl))⟩,
 f8:=⟨Tryz.f182.name,by decide,Tryz.func182.trans (congrArg some (by kernel_rfl))⟩,
 f11:=⟨Tryz.f186.name,by decide,Tryz.func186.trans (congrArg some (by kernel_rfl))⟩,
 t0:=Tryz.underlying0,
 a0:=Tryz.isAgg0,
 z0:=Tryz.sizeOf0,
 v0:=Tryz.zeroValue0,
 t24:=Tryz.underlying36,
 a24:=Tryz.isAgg36,
 z24:=Tryz.sizeOf36,
 v24:=Tryz.zeroValue36,
 t26:=Tryz.underlying3,
 a26:=Tryz.isAgg3,
 z26:=Tryz.sizeOf3,
 v26:=Tryz.zeroValue3,
 t28:=Tryz.underlying164,
 a28:=Tryz.isAgg164,
 z28:=Tryz.sizeOf164,
 v28:=Tryz.zeroValue164,
 i26:=by kernel_rfl }
def zzj:Go.Shelf.Ren:=⟨λ|5=>57|8=>106|7=>105|19=>151|20=>152|10=>142|11=>143|12=>144|13=>145|14=>146|15=>147|16=>148|17=>149|18=>150|30=>173|31=>174|32=>175|33=>176|34=>177|35=>178|40=>185|n=>n,λ|23=>36|25=>3|3=>3|32=>120|22=>36|0=>0|44=>22|46=>152|4=>4|36=>144|35=>143|41=>148|5=>5|9=>9|53=>167|57=>171|63=>176|64=>177|n=>n,λ|n=>n⟩
theorem zwr:Go.Proofs.SlLaysM.n5 Tryz.prog zzj:={
 mixed:=by kernel_rfl,
 f5:=⟨Tryz.f57.name,by decide,Tryz.func57.trans (congrArg some (by kernel_rfl))⟩,
 f7:=⟨Tryz.f105.name,by decide,Tryz.func105.trans (congrArg some (by kernel_rfl))⟩,
 f8:=Tryz.func106.trans (congrArg some (by kernel_rfl)),
 f10:=⟨Tryz.f142.name,by decide,Tryz.func142.trans (congrArg some (by kernel_rfl))⟩,
 f11:=⟨Tryz.f143.name,by decide,Tryz.func143.trans (congrArg some (by kernel_rfl))⟩,
 f12:=⟨Tryz.f144.name,by decide,Tryz.func144.trans (congrArg some (by kernel_rfl))⟩,
 f13:=⟨Tryz.f145.name,by decide,Tryz.func145.trans (congrArg some (by kernel_rfl))⟩,
 f14:=⟨Tryz.f146.name,by decide,Tryz.func146.trans (congrArg some (by kernel_rfl))⟩,
 f15:=⟨Tryz.f147.name,by decide,Tryz.func147.trans (congrArg some (by kernel_rfl))⟩,
 f16:=⟨Tryz.f148.name,by decide,Tryz.func148.trans (congrArg some (by kernel_rfl))⟩,
 f17:=⟨Tryz.f149.name,by decide,Tryz.func149.trans (congrArg some (by kernel_rfl))⟩,
 f18:=⟨Tryz.f150.name,by decide,Tryz.func150.trans (congrArg some (by kernel_rfl))⟩,
 f19:=Tryz.func151.trans (congrArg some (by kernel_rfl)),
 f20:=Tryz.func152.trans (congrArg some (by kernel_rfl)),
 f30:=⟨Tryz.f173.name,by decide,Tryz.func173.trans (congrArg some (by kernel_rfl))⟩,
 f31:=Tryz.func174.trans (congrArg some (by kernel_rfl)),
 f32:=Tryz.func175.trans (congrArg some (by kernel_rfl)),
 f33:=⟨Tryz.f176.name,by decide,Tryz.func176.trans (congrArg some (by kernel_rfl))⟩,
 f34:=⟨Tryz.f177.name,by decide,Tryz.func177.trans (congrArg some (by kernel_rfl))⟩,
 f35:=⟨Tryz.f178.name,by decide,Tryz.func178.trans (congrArg some (by kernel_rfl))⟩,
 f40:=⟨Tryz.f185.name,by decide,Tryz.func185.trans (congrArg some (by kernel_rfl))⟩,
 t0:=Tryz.underlying0,
 a0:=Tryz.isAgg0,
 z0:=Tryz.sizeOf0,
 v0:=Tryz.zeroValue0,
 t3:=Tryz.underlying3,
 a3:=Tryz.isAgg3,
 z3:=Tryz.sizeOf3,
 v3:=Tryz.zeroValue3,
 t4:=Tryz.underlying4,
 a4:=Tryz.isAgg4,
 z4:=Tryz.sizeOf4,
 v4:=Tryz.zeroValue4,
 t5:=Tryz.underlying5,
 a5:=Tryz.isAgg5,
 z5:=Tryz.sizeOf5,
 v5:=Tryz.zeroValue5,
 t9:=Tryz.underlying9,
 a9:=Tryz.isAgg9,
 z9:=Tryz.sizeOf9,
 v9:=Tryz.zeroValue9,
 t22:=Tryz.underlying36,
 a22:=Tryz.isAgg36,
 z22:=Tryz.sizeOf36,
 v22:=Tryz.zeroValue36,
 t23:=Tryz.underlying36,
 a23:=Tryz.isAgg36,
 z23:=Tryz.sizeOf36,
 v23:=Tryz.zeroValue36,
 t25:=Tryz.underlying3,
 a25:=Tryz.isAgg3,
 z25:=Tryz.sizeOf3,
 v25:=Tryz.zeroValue3,
 t32:=Tryz.underlying120,
 a32:=Tryz.isAgg120,
 z32:=Tryz.sizeOf120,
 v32:=Tryz.zeroValue120,
 t35:=Tryz.underlying143,
 a35:=Tryz.isAgg143,
 z35:=Tryz.sizeOf143,
 v35:=Tryz.zeroValue143,
 t36:=Tryz.underlying144,
 a36:=Tryz.isAgg144,
 z36:=Tryz.sizeOf144,
 v36:=Tryz.zeroValue144,
 t41:=Tryz.underlying148,
 a41:=Tryz.isAgg148,
 z41:=Tryz.sizeOf148,
 v41:=Tryz.zeroValue148,
 t44:=Tryz.underlying22,
 a44:=Tryz.isAgg22,
 z44:=Tryz.sizeOf22,
 v44:=Tryz.zeroValue22,
 t46:=Tryz.underlying152,
 a46:=Tryz.isAgg152,
 z46:=Tryz.sizeOf152,
 v46:=Tryz.zeroValue152,
 t53:=Tryz.underlying167,
 a53:=Tryz.isAgg167,
 z53:=Tryz.sizeOf167,
 v53:=Tryz.zeroValue167,
 t57:=Tryz.underlying171,
 a57:=Tryz.isAgg171,
 z57:=Tryz.sizeOf171,
 v57:=Tryz.zeroValue171,
 t63:=Tryz.underlying176,
 a63:=Tryz.isAgg176,
 z63:=Tryz.sizeOf176,
 v63:=Tryz.zeroValue176,
 t64:=Tryz.underlying177,
 a64:=Tryz.isAgg177,
 z64:=Tryz.sizeOf177,
 v64:=Tryz.zeroValue177 }
theorem zxP:∀args w,(callFunc 57 args).run Tryz.prog w=.ok (.enter 57 args) w:=enters_of Tryz.func57 (by kernel_rfl) rfl
theorem zwP:∀args w,(callFunc 183 args).run Tryz.prog w=.ok (.enter 183 args) w:=enters_of Tryz.func183 (by kernel_rfl) rfl
end Go.Proofs
namespace Go.Ab.Dm
abbrev Adj:=List (List Nat)
def suc(E:Adj)(k:Nat):List Nat:=E.getD k []
def Adj.ok(E:Adj):Prop:=∀k,∀n∈suc E k,n<E.length
def zbv(x:Int)(out:List Nat)(c:Nat):List Nat:=if (c:Int)≠x/\c∉out then out++[c]else out
def zjw(E:Adj)(x:Int):Nat->Nat->List Nat->List Nat
 |0,_,out=>out
 |
  f+1,i,out=>match out[i]? with
  |some b=>zjw E x f (i+1) ((suc E b).foldl (zbv x) out)
  |none=>out
def zb8(E:Adj)(a x:Int):List Nat:=if a=x\/a<0\/(E.length:Int)<=a then[]else zjw E x E.length 0 [a.toNat]
def zlY(E:Adj):List Bool:=(We E.length).map λb=>decide (b∈zb8 E 0 (-1))
def predL(E:Adj):List (List Nat):=(We E.length).map λb=>(We E.length).filter λa=>decide (b∈suc E a)
def dfs(E:Adj):Nat->Nat->List Nat×List Nat->List Nat×List Nat
 |0,_,s=>s
 |
  f+1,k,s=>
  let b:=(suc E k).foldl (λs n=>if n∈s.1 then s else dfs E f n s) (s.1++[k],s.2)
  (b.1,b.2++[k])
def orderL(E:Adj):List Nat:=if E.length=0 then[]else(dfs E E.length 0 ([],[])).2.reverse
def zt0(E:Adj)(a b:Nat):Bool:=decide (a∈zb8 E 0 (-1))&&decide (b∈zb8 E 0 (-1))&&decide (b≠a)&&decide (b∉zb8 E 0 a)
def zdy(E:Adj):List (List Nat):=(We E.length).map λb=>(We E.length).filter λa=>zt0 E a b
def zdV(l:List (List Nat))(b:Int)(a:Nat):Int:=if b<0\/(suc l b.toNat).length<(suc l a).length then a else b
def zxR(l:List (List Nat))(b:Nat):Int:=(suc l b).foldl (zdV l) (-1)
def treeL(E:Adj):List Int:=(We E.length).map (zxR (zdy E))
def znM(t:List Int)(a:Int):Nat->Int->Bool
 |0,_=>false
 |f+1,b=>if 0<=b/\b<t.length then(if a=b then true else znM t a f (t.getD b.toNat 0))else false
def domL(t:List Int)(a b:Int):Bool:=if a<0\/(t.length:Int)<=a then false else znM t a (t.length+1) b
def zFz(E:Adj)(b w:Nat):Bool :=
 decide (b∈zb8 E 0 (-1))&&(suc (predL E) w).any (λv=>decide (v∈zb8 E 0 (-1))&&(v == b||decide (b∈suc (zdy E) v)))&&decide (b∉suc (zdy E) w)
inductive RA(E:Adj)(X:Nat->Prop)(a:Nat):Nat->Prop
 |refl:¬X a->RA E X a a
 |step {b c:Nat}:RA E X a b->c∈suc E b->¬X c->RA E X a c
end Go.Ab.Dm
