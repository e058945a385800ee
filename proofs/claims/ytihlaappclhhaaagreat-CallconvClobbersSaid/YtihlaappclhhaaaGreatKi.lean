/-
  Part 9 of the proof: how the calls of this program run, over values instead of memory, and what each function computes.
-/
import Derived.Test.YtihlaappclhhaaaGreatKh
set_option maxRecDepth 100000
set_option linter.unusedVariables false
set_option linter.unusedSimpArgs false
set_option linter.unnecessarySimpa false
set_option linter.unusedSectionVars false
open Go.DataW renaming trod->Xa,trod_struct->Xc
open Go.Ab.Ent renaming keep->Xb
open Go.Proofs.Tryz renaming prog->Z9
open Bool renaming and_false→Wa,and_true→Wc,and_eq_true→Wn
open List renaming all_eq_not_any_not→Wd,getD_eq_getElem?_getD→Wf,drop_of_length_le→Wg,getElem?_eq_getElem→Wh,drop_eq_getElem_cons→Wk,getElem_mem→Wl,all_cons→Wm,take_add_one→Wo,findIdx?_eq_some_iff_getElem→Wp,findIdx?_eq_none_iff→Wq
open Nat renaming zero_le→We,le_refl→Wi
open And renaming intro→Wj
open Array renaming getElem?_eq_none→Wr,getElem?_toList→Ws
namespace Go.Ab
end Go.Ab
namespace Go.Ab
open Go.RowKit Go.Proofs
theorem fldP{off n m}{c}{H}{b}:ze1 off n (encP m c) H b=⟨off+n<=m,True,.iptr n (λj=>c.getD (off+j) .undef),H,b⟩:=rfl
theorem zu{n m}{c}{H}{b}:zgm true n (encP m c) H b=⟨n<=m,(AV.agg (tab (λj=>c.getD j .undef) n 0)).wf,.agg (tab (λj=>c.getD j .undef) n 0),H,b⟩:=rfl
theorem zaG:∀{e:Ex},(encX e).length=5
 |.mk _ _ _ _ _=>by rw[zdw];rfl
theorem zan:∀{e:Ex},[(encX e).getD 0 .undef,(encX e).getD 1 .undef,(encX e).getD 2 .undef,(encX e).getD 3 .undef,(encX e).getD 4 .undef]=encX e
 |.mk _ _ _ _ _=>by rw[zdw];rfl
theorem zw:∀{e:Ex},zQ (encX e)=true
 |.mk _ _ _ _ _=>by rw[zdw];rfl
theorem zcT:∀{e:Nd},zQ (encN e)=true
 |.mk _ _ _=>by rw[zLl];rfl
theorem flX{r}(h:r.all AV.flat=true):∀{e:Ex},(AV.agg (encX e)::r).all AV.flat=true
 |.mk _ _ _ _ _=>by rw[zdw,Wm,h];rfl
mutual
def zbF:Ex->Nat
 |.mk _ _ _ _ l=>1+zW l
def zW:List Ex->Nat
 |[]=>0
 |e::l=>zbF e+zW l
end
theorem zkF:∀{l:List Ex}{y:Ex},y∈l->zbF y<=zW l
 |[],y,b=>by simp at b
 |
  a::l,y,b=>by
  rw[zW];rcases List.mem_cons.1 b with rfl|b
  .omega
  .have:=zkF b;omega
mutual
theorem zlu:∀(e:Ex)(m n:Int),-1<=n -> -1<=zhO e m n/\(zhO e m n<=n)
 |
  .mk _ _ _ _ l,m,n,h=>by
  rw[zhO];split
  .omega
  .rename_i b;have:=zsg l (m-1) (n-1) (by omega);omega
theorem zsg:∀(l:List Ex)(m n:Int),-1<=n -> -1<=zej l m n/\zej l m n<=n
 |[],m,n,h=>by rw[zej];omega
 |
  e::l,m,n,h=>by
  rw[zej];split
  .omega
  .have b:=zlu e m n h;have:=zsg l m _ b.1;omega
end
theorem zBS{l:List Ex}{i:Nat}{m n:Int}(h:i<l.length)(b:0<=n):zej (l.drop i) m n=zej (l.drop (i+1)) m (zhO l[i] m n):=by rw[Wk h,zej,if_neg (by omega)]
theorem zw3{l}{m n}(b:n<0):zej l m n=n:=by
 cases l with
 |nil=>rw[zej]
 |cons a l=>rw[zej,if_pos b]
theorem Qa{p q:Prop}(k:q)(h:Im q p:=by(repeat first|simp(disch:=try exact dis1) only[evD,Nat.reduceBEq,Nat.reduceAdd,Nat.reduceLeDiff,dF]|((with_reducible apply Im.i);intro _)|((with_reducible apply Im.a);omega));exact Im.r):p:=h k
theorem ub:type_of% @fldP:=@fldP
theorem zBv:∀(k:Nat)(e:Ex)(m n:Int),zbF e<=k -> -1000<=m->m<=1000 -> -1<=n->n<=1000->zq Z9 znH [.agg (encX e),.int .i64 m,.int .i64 n] (·=.int .i64 (zhO e m n)):=by
 intro k
 induction k with
 |zero=>intro e m n h;obtain⟨_,_,_,_,l⟩:=e;rw[zbF]at h;omega
 |succ k F=>
 intro e m n C H I y J;obtain⟨op,o,v,w,l⟩:=e;refine fn_x zBL rfl ?_;refine dcU zt6.eq_1 ?_;have K:=hBig;rw[zbF]at C;have d:=zlu (.mk op o v w l) m n y;rw[zhO]at d⊢;generalize p:encX (.mk op o v w l)=E;rw[zdw]at p;subst p;by_cases q:m<1
 .rw[if_pos (.inl q)];refine Gw2 @dT @zgI.eq_1 ?_;intros;exact izO
 by_cases t:n<1
 .rw[if_pos (.inr (.inl t))];refine Gw3 @dT @dF @zgI.eq_1 ?_;intros;exact izO
 by_cases u:4<l.length
 .rw[if_pos (.inr (.inr u))];refine Gw3 @dT @dF @zgI.eq_1 ?_;intros;exact izO
 rw[if_neg (by omega)]at d⊢;refine Qa ?_;intros;generalize A:zej l (m-1) (n-1)=R at d⊢;refine zd (λs:Nat×Int=>([(1,.int .i64 m),(3,encP 5 [.int .i64 op,.int .u32 o,.int .i64 v,.int .i64 w,encL 5 encX l]),(7,.int .i64 s.2),(8,.int .i64 s.1)],[])) 0 (λs=>s.1<=l.length /\ -1<=s.2/\s.2<=n/\zej (l.drop s.1) (m-1) s.2=R) (λs=>l.length-s.1) (0,n-1) ⟨We _,by simp only;omega,by simp only;omega,A⟩ (Xb rfl fin5) ?_;rintro⟨i,x⟩ ⟨B,c,j,b⟩ wf;simp only at B c j b;refine dcU zpw.eq_1 ?_;by_cases g:i<l.length
 .by_cases D:0<=x
  .rw[zBS g D]at b;have L:=zkF (Wl g);have M:=zlu l[i] (m-1) x c;refine Gw6 @ub @dT @dF (gmp g) @zaG @zan ?_;intros;refine zc (zb (F l[i] (m-1) x (by omega) (by omega) (by omega) (by omega) (by omega)) (flX rfl)) ?_;refine Gw0 ?_;intros;exact⟨(i+1,zhO l[i] (m-1) x),⟨by simp only;omega,by simp only;omega,by simp only;omega,b⟩,by simp only;omega,Xb rfl fin5⟩
  .rw[zw3 (by omega)]at b;subst b;refine Gw3 @ub @dT @dF ?_;intros;unfold zkx;refine Gw1 @zgI.eq_1 ?_;intros;exact izO
 .rw[Wg (by omega),zej]at b;subst b;refine Gw3 @ub @dT @dF ?_;intros;unfold zkx;refine Gw1 @zgI.eq_1 ?_;intros;exact izO
theorem zFC{l}{H}:zgb 1 (encL 1 (λn=>[.int .i64 n]) l) H=some (l.map cI):=ztx (λ_ _=>rfl)
theorem zJ5{H H2}{σ}{D}{t}:∀(e:Ex)(j:Nat),j<5->Vw H H2 σ D t ((encX e).getD j .undef) ((encX e).getD j .undef)
 |
  .mk _ _ _ _ _,j,hj=>by
  rw[zdw]
  match j,hj with
  |0,_=>exact .int _ _ _
  |1,_=>exact .int _ _ _
  |2,_=>exact .int _ _ _
  |3,_=>exact .int _ _ _
  |4,_=>exact .sl _ _ _ _
theorem zJN{H H2}{σ}{D}{t}{r q g}{l}(b:D r q)(d:H.get r q=some (.row 5 (l.map encX) g))(c:l.length<=big):Vw H H2 σ D t (.own r q g 0 l.length) (encL 5 encX l) :=
 zcU b d c λa _ j e=>zJ5 a j e
def fm(p:NdF->List Int)(l:List Nd):List Int:=l.flatMap λx=>p x.f
def zsB(A:List (List Int)):AV:=encL 1 (λr=>[za r]) A
theorem zp5{α:Type}{A B:List α}{i:Nat}(h:A.take i=B.take i)(b:i<A.length)(c:i<B.length)(d:A[i]=B[i]):A.take (i+1)=B.take (i+1):=by rw[Wo,Wo,h,Wh b,Wh c,d]
theorem vw_LL{H H2}{σ}{D}{t}{r q g}{l}(b:D r q)(d:H.get r q=some (.row 1 (l.map λr=>[za r]) g))(c:l.length<=big):
  Vw H H2 σ D t (.own r q g 0 l.length) (zsB l):=by
 refine zcU b d c (λa _ j e=>?_);obtain rfl:j=0:=by omega
 exact .sl _ _ _ _
theorem zsx{n}{c}(h:zQ c=true):zE (List.replicate n c):=λd hd=>by rw[List.eq_of_mem_replicate hd];exact h
mutual
theorem zvs:∀(e:Ex)(m n:Int),0<=zhO e m n->(zbF e:Int)+zhO e m n<=n
 |
  .mk op nn v w l,m,n,h=>by
  rw[zhO]at h⊢;split at h
  .omega
  .rename_i b;rw[if_neg b];have:=zup l (m-1) (n-1) h;rw[zbF];omega
theorem zup:∀(l:List Ex)(m n:Int),0<=zej l m n->(zW l:Int)+zej l m n<=n
 |
  [],m,n,h=>by
  rw[zej,zW];omega
 |
  e::l,m,n,h=>by
  rw[zej]at h⊢;split at h
  .omega
  .rename_i c;rw[if_neg c];have g:=zup l m _ h;have b:0<=zhO e m n:=by apply Classical.byContradiction;intro j;have:=zw3 (l:=l) (m:=m) (n:=zhO e m n) (by omega);omega
   have d:=zvs e m n b;rw[zW];omega
end
def zy2(v:Int):Bool:=decide (0<=v/\v<65536)
def zzq(w:Int):Bool:=decide (w=1\/w=2\/w=4)
theorem zl9(v):zq Z9 zjB [.int .i64 v] (·=.bool (zy2 v)):=by
 refine fn_x zxA rfl ?_;unfold zq2 zy2;conv in Z8 _ _=>reduce
 by_cases b:0<=v
 ·(refine Gw2 @dT @zl7.eq_1 ?_;intros);exact⟨_,.bool _ _,congrArg _ (decide_eq_decide.2 (by omega))⟩
 ·(refine Gw2 @dF @zl7.eq_1 ?_;intros);exact bzO
theorem zut(v):zq Z9 znP [.int .i64 v] (·=.bool (zy2 v)):=by
 refine fn_x zAf rfl ?_;unfold zug zy2;conv in Z8 _ _=>reduce
 by_cases b:0<=v
 ·(refine Gw2 @dT @zp2.eq_1 ?_;intros);exact⟨_,.bool _ _,congrArg _ (decide_eq_decide.2 (by omega))⟩
 ·(refine Gw2 @dF @zp2.eq_1 ?_;intros);exact bzO
theorem zun(w):zq Z9 znS [.int .i64 w] (·=.bool (zzq w)):=by
 refine fn_x zBH rfl ?_;unfold zuF zzq;conv in Z8 _ _=>reduce
 by_cases b:w=1
 ·(refine Gw2 @dT @zk8.eq_1 ?_;intros);exact bzO
 by_cases c:w=2
 ·(refine Gw3 @dF @dT @zk8.eq_1 ?_;intros);exact bzO
 ·(refine Gw2 @dF @zk8.eq_1 ?_;intros);exact⟨_,.bool _ _,congrArg _ (decide_eq_decide.2 (by omega))⟩
mutual
def zwF:Ex->Int->Bool
 |.mk _ _ _ _ l,m=>if m<1 then true else zsQ l (m-1)
def zsQ:List Ex->Int->Bool
 |[],_=>false
 |e::l,m=>zwF e m||zsQ l m
end
theorem zye:∀(l:List Ex)(m:Int),zsQ l m=l.any (zwF · m)
 |[],m=>by rw[zsQ];rfl
 |e::l,m=>by rw[zsQ,zye l m];rfl
def zz(op n v w:Int)(k:Nat):Bool:=decide ((op=1/\v=0/\w=0/\k=0)\/(op=2/\n=0/\w=0/\k=0/\0<=v/\v<65536)\/((op=16\/op=17)/\n=0/\v=0/\w=0/\k=1)\/(op=18/\n=0/\v=0/\(w=1\/w=2\/w=4)/\k=1)\/(op=19/\n=0/\v=0/\(w=1\/w=2)/\k=1)\/(3<=op/\op<=15/\n=0/\v=0/\w=0/\k=2))
mutual
def zgJ:Ex->Bool
 |.mk op n v w l=>zd0 l&&zz op n v w l.length
def zd0:List Ex->Bool
 |[]=>true
 |e::l=>zgJ e&&zd0 l
end
theorem zfu:∀(l:List Ex),zd0 l=l.all zgJ
 |[]=>by rw[zd0];rfl
 |e::l=>by rw[zd0,zfu l];rfl
def zmm(e:Ex):Int:=if zwF e 64=true then 20 else if zgJ e=true then 0 else 2
theorem Qj{p q:Prop}(k:q)(h:Im q p:=by(repeat first|simp(disch:=try exact dis1) only[evD,Nat.reduceBEq,Nat.reduceAdd,Nat.reduceLeDiff,fldP,dF]|((with_reducible apply Im.i);intro _)|((with_reducible apply Im.a);omega));exact Im.r):p:=h k
theorem zy1:∀(k:Nat)(e:Ex)(m:Int),zbF e<=k -> -1000<=m->m<=1000->zq Z9 zlA [.agg (encX e),.int .i64 m] (·=.bool (zwF e m)):=by
 intro k
 induction k with
 |zero=>intro e m h;obtain⟨_,_,_,_,l⟩:=e;rw[zbF]at h;omega
 |succ k p=>
 intro e m j n o;obtain⟨op,q,v,w,l⟩:=e;refine fn_x zzU rfl ?_;refine dcU zsJ.eq_1 ?_;have s:=hBig;rw[zbF]at j;rw[zdw,zwF];by_cases d:m<1
 .rw[if_pos d];refine Gw3 @ub @dT @zjF.eq_1 ?_;intros;exact bzO
 .rw[if_neg d];refine Qj ?_;intros;generalize g:zsQ l (m-1)=R;refine zd (λi:Nat=>([(1,.int .i64 m),(2,encP 5 [.int .i64 op,.int .u32 q,.int .i64 v,.int .i64 w,encL 5 encX l]),(5,.int .i64 i)],[])) 0 (λi=>i<=l.length/\zsQ (l.drop i) (m-1)=R) (λi=>l.length-i) 0 ⟨We _,g⟩ (Xb rfl fin5) ?_;rintro i ⟨t,b⟩ wf;refine dcU zn8.eq_1 ?_;by_cases c:i<l.length
  .have u:=zkF (Wl c);rw[Wk c,zsQ]at b;refine Gw5 @ub @dT (gmp c) @zaG @zan ?_;intros;refine zc (zb (p l[i] (m-1) (by omega) (by omega) (by omega)) (flX rfl)) ?_
   cases hd:zwF l[i] (m-1)with
   |true=>rw[hd,Bool.true_or]at b;subst b;refine Gw1 @zjF.eq_1 ?_;intros;exact bzO
   |false=>rw[hd,Bool.false_or]at b;refine Gw0 ?_;intros;exact⟨i+1,⟨by omega,b⟩,by omega,Xb rfl fin5⟩
  .rw[Wg (by omega),zsQ]at b;subst b;refine Qj ?_;intros;unfold zoO;refine Gw1 @zjF.eq_1 ?_;intros;exact bzO
theorem Qh{p q:Prop}(k:q)(h:Im q p:=by(repeat first|simp(disch:=try exact dis1) only[evD,Nat.reduceBEq,Nat.reduceAdd,Nat.reduceLeDiff,dT,dF,fldP,zn]|((with_reducible apply Im.i);intro _)|((with_reducible apply Im.a);omega));exact Im.r):p:=h k
theorem zw5{op nn v w i}{l}(h:op=1):
  wpX Z9 0 zT (retK zn λc b x=>∃a,Frz b c a/\a=.bool (zz op nn v w l.length)) [(1,encP 5 [.int .i64 op,.int .u32 nn,.int .i64 v,.int .i64 w,encL 5 encX l]),(3,.int .i64 i),(8,.bool false)] [] 0:=by
 refine dcU zT.eq_1 ?_;have d:=hBig;refine Qh ?_;intros;by_cases e:v=0<;>(refine Qh ?_;intros)
 case neg=>unfold zz;exact bxO lb
 by_cases g:w=0<;>(refine Qh ?_;intros)
 case neg=>unfold zz;exact bxO lb
 unfold zz;exact bxO lb
theorem zv2{op nn v w i}{l}(h:op=2):
  wpX Z9 0 zT (retK zn λc b x=>∃a,Frz b c a/\a=.bool (zz op nn v w l.length)) [(1,encP 5 [.int .i64 op,.int .u32 nn,.int .i64 v,.int .i64 w,encL 5 encX l]),(3,.int .i64 i),(8,.bool false)] [] 0:=by
 refine dcU zT.eq_1 ?_;have d:=hBig;refine Qh ?_;intros;by_cases e:nn=0<;>(refine Qh ?_;intros)
 case neg=>unfold zz;exact bxO lb
 by_cases g:w=0<;>(refine Qh ?_;intros)
 case neg=>unfold zz;exact bxO lb
 by_cases j:l.length=0<;>(refine Qh ?_;intros)
 case neg=>unfold zz;exact bxO lb
 refine zc (zb (zut v) rfl) ?_;unfold zy2;refine Qh ?_;intros;unfold zz;exact bxO lb
theorem zxa{op nn v w i}{l}(h:op=16):
  wpX Z9 0 zT (retK zn λc b x=>∃a,Frz b c a/\a=.bool (zz op nn v w l.length)) [(1,encP 5 [.int .i64 op,.int .u32 nn,.int .i64 v,.int .i64 w,encL 5 encX l]),(3,.int .i64 i),(8,.bool false)] [] 0:=by
 refine dcU zT.eq_1 ?_;have d:=hBig;refine Qh ?_;intros;by_cases e:nn=0<;>(refine Qh ?_;intros)
 case neg=>unfold zz;exact bxO lb
 by_cases g:v=0<;>(refine Qh ?_;intros)
 case neg=>unfold zz;exact bxO lb
 by_cases j:w=0<;>(refine Qh ?_;intros)
 case neg=>unfold zz;exact bxO lb
 unfold zz;exact bxO lb
theorem zvl{op nn v w i}{l}(h:op=17):
  wpX Z9 0 zT (retK zn λc b x=>∃a,Frz b c a/\a=.bool (zz op nn v w l.length)) [(1,encP 5 [.int .i64 op,.int .u32 nn,.int .i64 v,.int .i64 w,encL 5 encX l]),(3,.int .i64 i),(8,.bool false)] [] 0:=by
 refine dcU zT.eq_1 ?_;have d:=hBig;refine Qh ?_;intros;by_cases e:nn=0<;>(refine Qh ?_;intros)
 case neg=>unfold zz;exact bxO lb
 by_cases g:v=0<;>(refine Qh ?_;intros)
 case neg=>unfold zz;exact bxO lb
 by_cases j:w=0<;>(refine Qh ?_;intros)
 case neg=>unfold zz;exact bxO lb
 unfold zz;exact bxO lb
theorem zvq{op nn v w i}{l}(h:op=18):
  wpX Z9 0 zT (retK zn λc b x=>∃a,Frz b c a/\a=.bool (zz op nn v w l.length)) [(1,encP 5 [.int .i64 op,.int .u32 nn,.int .i64 v,.int .i64 w,encL 5 encX l]),(3,.int .i64 i),(8,.bool false)] [] 0:=by
 refine dcU zT.eq_1 ?_;have d:=hBig;refine Qh ?_;intros;by_cases e:nn=0<;>(refine Qh ?_;intros)
 case neg=>unfold zz;exact bxO lb
 by_cases g:v=0<;>(refine Qh ?_;intros)
 case neg=>unfold zz;exact bxO lb
 by_cases j:w=1;case pos=>refine Qh ?_;intros;unfold zz;exact bxO lb
 refine Qh ?_;intros;by_cases k:w=2;case pos=>refine Qh ?_;intros;unfold zz;exact bxO lb
 refine Qh ?_;intros;by_cases m:w=4;case pos=>refine Qh ?_;intros;unfold zz;exact bxO lb
 refine Qh ?_;intros;unfold zz;exact bxO lb
theorem zv3{op nn v w i}{l}(h:op=19):
  wpX Z9 0 zT (retK zn λc b x=>∃a,Frz b c a/\a=.bool (zz op nn v w l.length)) [(1,encP 5 [.int .i64 op,.int .u32 nn,.int .i64 v,.int .i64 w,encL 5 encX l]),(3,.int .i64 i),(8,.bool false)] [] 0:=by
 refine dcU zT.eq_1 ?_;have d:=hBig;refine Qh ?_;intros;by_cases e:nn=0<;>(refine Qh ?_;intros)
 case neg=>unfold zz;exact bxO lb
 by_cases g:v=0<;>(refine Qh ?_;intros)
 case neg=>unfold zz;exact bxO lb
 by_cases j:w=1;case pos=>refine Qh ?_;intros;unfold zz;exact bxO lb
 refine Qh ?_;intros;by_cases k:w=2;case pos=>refine Qh ?_;intros;unfold zz;exact bxO lb
 refine Qh ?_;intros;unfold zz;exact bxO lb
theorem zxn{op nn v w i}{l}(j:op≠1)(k:op≠2)(c:op≠16)(d:op≠17)(e:op≠18)(g:op≠19):
  wpX Z9 0 zT (retK zn λh b x=>∃a,Frz b h a/\a=.bool (zz op nn v w l.length)) [(1,encP 5 [.int .i64 op,.int .u32 nn,.int .i64 v,.int .i64 w,encL 5 encX l]),(3,.int .i64 i),(8,.bool false)] [] 0:=by
 refine dcU zT.eq_1 ?_;have m:=hBig;refine Qh ?_;intros;by_cases n:3<=op<;>(refine Qh ?_;intros)
 case neg=>unfold zz;exact bxO lb
 by_cases o:op<=15<;>(refine Qh ?_;intros)
 case neg=>unfold zz;exact bxO lb
 by_cases p:nn=0<;>(refine Qh ?_;intros)
 case neg=>unfold zz;exact bxO lb
 by_cases q:v=0<;>(refine Qh ?_;intros)
 case neg=>unfold zz;exact bxO lb
 by_cases s:w=0<;>(refine Qh ?_;intros)
 case neg=>unfold zz;exact bxO lb
 unfold zz;exact bxO lb
theorem zwv:∀(k:Nat)(e:Ex),zbF e<=k->zq Z9 zh9 [.agg (encX e)] (·=.bool (zgJ e)):=by
 intro k
 induction k with
 |zero=>intro e h;obtain⟨_,_,_,_,l⟩:=e;rw[zbF]at h;omega
 |succ k s=>
 intro e q;obtain⟨op,t,v,w,l⟩:=e;refine fn_x zvW rfl ?_;refine dcU zph.eq_1 ?_;have u:=hBig;rw[zbF]at q;rw[zdw,zgJ];generalize p:zd0 l=R;refine Gw1 @ub ?_;intros;refine zd (λi:Nat=>([(1,encP 5 [.int .i64 op,.int .u32 t,.int .i64 v,.int .i64 w,encL 5 encX l]),(3,.int .i64 i)],[])) 0 (λi=>i<=l.length/\zd0 (l.drop i)=R) (λi=>l.length-i) 0 ⟨We _,p⟩ (Xb rfl fin5) ?_;rintro i ⟨x,b⟩ wf;refine dcU zlk.eq_1 ?_;by_cases m:i<l.length
 .have y:=zkF (Wl m);rw[Wk m,zd0]at b;refine Gw5 @ub @dT (gmp m) @zaG @zan ?_;intros;refine zc (zb (s l[i] (by omega)) (flX rfl)) ?_
  cases hd:zgJ l[i]with
  |false=>rw[hd,Bool.false_and]at b;subst b;refine Gw1 @zn.eq_1 ?_;intros;exact bzO
  |true=>rw[hd,Bool.true_and]at b;refine Gw0 ?_;intros;exact⟨i+1,⟨by omega,b⟩,by omega,Xb rfl fin5⟩
 .rw[Wg (by omega),zd0]at b;subst b;refine Gw3 @ub @dF @Bool.true_and ?_;intros;by_cases n:op=1
  .exact zw5 n
  by_cases o:op=2
  .exact zv2 o
  by_cases c:op=16
  .exact zxa c
  by_cases d:op=17
  .exact zvl d
  by_cases g:op=18
  .exact zvq g
  by_cases j:op=19
  .exact zv3 j
  exact zxn n o c d g j
theorem zuJ(e):zq Z9 zkl [.agg (encX e)] (·=.int .i64 (zmm e)):=by
 refine fn_x zuP rfl ?_;unfold zoi zmm;conv in Z8 _ _=>reduce
 have b:=hBig;refine Gw3 @zaG @zw @zan ?_;intros;refine zc (zb (zy1 (zbF e) e 64 (Wi _) (by omega) (by omega)) (flX rfl)) ?_
 cases zwF e 64 with
 |true=>refine Gw1 @zgh.eq_1 ?_;intros;exact izO
 |false=>
  refine Gw3 @zaG @zw @zan ?_;intros;refine zc (zb (zwv (zbF e) e (Wi _)) (flX rfl)) ?_
  cases zgJ e with
  |true=>refine Gw1 @zgh.eq_1 ?_;intros;exact izO
  |false=>refine Gw1 @zgh.eq_1 ?_;intros;exact izO
structure PredE(fv:AV)(l:List Ex)(p:Ex->Bool):Prop where
 ex:∃f caps,fv=.fn (.func f) caps/\zhd Z9 f=true/\zQ caps=true/\∀s∈l,zq Z9 f ([.agg (encX s)]++caps) (·=.bool (p s))
theorem zgw:∀{l:List AV},zQ l=true->l.all AV.flat=true
 |[],_=>rfl
 |
  a::l,h=>by
  simp only[zQ,Wn]at h;simp only[Wm,Wn];refine⟨?_,zgw h.2⟩;cases a<;>first|rfl|exact absurd h.1 (by simp[AV.flat0])
theorem zDy{fv}{l}{p}(h:PredE fv l p){s}(j:s∈l){H}{nx}{k}(g:k (.bool (p s)) H nx):zuC Z9 fv [.agg (encX s)] H nx k:=by obtain⟨f,b,rfl,d,c,m⟩:=h.ex;rw[zpQ];refine⟨d,zc (zb (m s j) ?_) g⟩;simp only[List.cons_append,List.nil_append,Wm,Wn];exact⟨by have:=flX (r:=[]) rfl (e:=s);simpa using this,zgw c⟩
theorem zia{fv}{l}{p}(h:PredE fv l p){H H2}{σ}{D}{t}:Vw H H2 σ D t fv fv:=by
 obtain⟨f,c,rfl,j,g,k⟩:=h.ex;refine .fn _ _ _ _ rfl λi a b d e=>?_
 rw[d]at e;cases e;exact zB (zdu g d)
def idxI(o:Option Nat):Int:=match o with|some i=>(i:Int)|none=> -1
theorem zqv(l)(fv)(p)(n:PredE fv l p):zq Z9 zbi [encL 5 encX l,fv] (·=.int .i64 (idxI (l.findIdx? p))):=by
 refine fn_x zfP rfl ?_;refine dcU zct.eq_1 ?_;have q:=hBig;refine Gw0 ?_;intros;refine zd (λi:Nat=>([(0,encL 5 encX l),(1,fv),(7,.int .i64 l.length),(8,.int .i64 i)],[])) 0 (λi=>i<=l.length/\∀j (h:j<l.length),j<i->p l[j]=false) (λi=>l.length-i) 0 ⟨We _,λj _ h=>by omega⟩ (Xb rfl fin5) ?_;intro i ⟨s,c⟩ wf;refine dcU zbX.eq_1 ?_;refine Gw0 ?_;intros;(refine zA (λh=>?_) (λh=>?_))<;>(try simp only[dcd]at h)
 .have b:i<l.length:=by omega
  refine Gw3 (gmp b) @zaG @zan ?_;intros;refine zDy n (Wl b) ?_;refine Gw0 ?_;intros;(refine zA (λg=>?_) (λg=>?_))<;>(try simp only[dcd]at g)
  ·(refine Gw1 @za1.eq_1 ?_;intros);have e:l.findIdx? p=some i:=by rw[Wp];exact⟨b,g,λj d=>by rw[c j (by omega) d];simp⟩
   rw[e];exact izO
  ·(refine Gw0 ?_;intros);refine⟨i+1,⟨by omega,λj d m=>?_⟩,by omega,Xb rfl fin5⟩;by_cases k:j=i
   .subst k;simpa using g
   .exact c j d (by omega)
 .unfold zbV;refine Gw1 @za1.eq_1 ?_;intros;have e:l.findIdx? p=none:=by rw[Wq];intro x o;obtain⟨j,d,rfl⟩:=List.mem_iff_getElem.1 o;exact c j d (by omega)
  rw[e];exact izO
theorem zJ8{l:List Ex}{p:Ex->Bool}:decide (idxI (l.findIdx? p) >= 0)=l.any p:=by
 cases h:l.findIdx? p with
 |none=>have:=Wq.1 h;rw[decide_eq_false (by simp[idxI])];symm;rw[List.any_eq_false];intro x d;rw[this x d];simp
 |some i=>obtain⟨b,c,_⟩:=Wp.1 h;rw[decide_eq_true (by simp[idxI])];exact(zBZ b c).symm
theorem zag(l)(fv)(p)(b:PredE fv l p):zq Z9 zas [encL 5 encX l,fv] (·=.bool (l.any p)):=by refine fn_x ze2 rfl ?_;refine dcU zb1.eq_1 ?_;refine Gw0 ?_;intros;refine zc (zaM (D:=noR) (zqv l fv p b) (.cons (zZ rfl) (.cons (zia b) .nil)) (.inl rfl)) ?_;refine Gw1 @zbY.eq_1 ?_;intros;refine⟨_,.bool _ _,?_⟩;rw[<-zJ8]
theorem uv:type_of% @encP.eq_1:=@encP.eq_1
theorem zy5:∀(k:Nat)(e:Ex)(m:Int),zbF e<=k -> -1000<=m->m<=1000->zq Z9 zlQ [.agg (encX e),.int .i64 m] (·=.bool (!zwF e m)):=by
 intro k
 induction k with
 |zero=>intro e m h;obtain⟨_,_,_,_,l⟩:=e;rw[zbF]at h;omega
 |succ k o=>
 intro e m d g j;obtain⟨op,t,v,w,l⟩:=e;refine fn_x zzL rfl ?_;unfold zsN;have p:=hBig;rw[zbF]at d;rw[zdw,zwF];by_cases b:m<1
 .rw[if_pos b];refine Gw4 @ub @dF @uv @znw.eq_1 ?_;intros;exact bzO
 .rw[if_neg b,zye];have c:PredE (.fn (.func zl8) [encP 1 [.int .i64 m]]) l (zwF · (m-1)):=by refine⟨_,_,rfl,by kernel_rfl,rfl,λs n=>?_⟩;have q:=zkF n;refine fn_x zvp rfl ?_;refine dcU zpY.eq_1 ?_;refine Gw4 @zaG @zw @zan @uv ?_;intros;refine zc (zb (o s (m-1) (by omega) (by omega) (by omega)) (flX rfl)) ?_;refine Gw1 @zpF.eq_1 ?_;intros;exact bzO
  refine Gw3 @ub @dT @uv ?_;intros;refine zc (zaM (D:=noR) (zag l _ _ c) (.cons (zZ rfl) (.cons (zia c) .nil)) (.inl rfl)) ?_;refine Gw1 @znw.eq_1 ?_;intros;exact bzO
theorem Qg{p q:Prop}(k:q)(h:Im q p:=by(repeat first|simp(disch:=try exact dis1) only[evD,Nat.reduceBEq,Nat.reduceAdd,Nat.reduceLeDiff,dT,dF,fldP,zw,zt]|((with_reducible apply Im.i);intro _)|((with_reducible apply Im.a);omega));exact Im.r):p:=h k
theorem zAa{op b v w}{l}(h:op=1)(c:PredE (.fn (.func zaK) []) l (λx=> !zgJ x)):zq Z9 zbm [.agg [.int .i64 op,.int .u32 b,.int .i64 v,.int .i64 w,encL 5 encX l]] (·=.bool (zd0 l&&zz op b v w l.length)):=by
 refine fn_x zcb rfl ?_;unfold zbC;have d:=hBig;refine Qg ?_;intros;by_cases e:v=0<;>(refine Qg ?_;intros)
 case neg=>exact bxO (by rw[show zz op b v w l.length=false from by unfold zz;exact dF (by omega),Wa])
 by_cases g:w=0<;>(refine Qg ?_;intros)
 case neg=>exact bxO (by rw[show zz op b v w l.length=false from by unfold zz;exact dF (by omega),Wa])
 by_cases j:l.length=0<;>(refine Qg ?_;intros)
 case neg=>exact bxO (by rw[show zz op b v w l.length=false from by unfold zz;exact dF (by omega),Wa])
 refine zc (zaM (D:=noR) (zag l _ _ c) (.cons (zZ rfl) (.cons (zia c) .nil)) (.inl rfl)) ?_;refine Qg ?_;intros;exact bxO (by rw[show zz op b v w l.length=true from by unfold zz;exact dT (by omega),Wc,zfu,Wd])
theorem zBU{op b v w}{l}(h:op=2)(c:PredE (.fn (.func zaK) []) l (λx=> !zgJ x)):zq Z9 zbm [.agg [.int .i64 op,.int .u32 b,.int .i64 v,.int .i64 w,encL 5 encX l]] (·=.bool (zd0 l&&zz op b v w l.length)):=by
 refine fn_x zcb rfl ?_;unfold zbC;have d:=hBig;refine Qg ?_;intros;refine zc (zb (zl9 v) rfl) ?_;unfold zy2;by_cases e:0<=v/\v<65536<;>(refine Qg ?_;intros)
 case neg=>exact bxO (by rw[show zz op b v w l.length=false from by unfold zz;exact dF (by omega),Wa])
 by_cases g:b=0<;>(refine Qg ?_;intros)
 case neg=>exact bxO (by rw[show zz op b v w l.length=false from by unfold zz;exact dF (by omega),Wa])
 by_cases j:w=0<;>(refine Qg ?_;intros)
 case neg=>exact bxO (by rw[show zz op b v w l.length=false from by unfold zz;exact dF (by omega),Wa])
 by_cases k:l.length=0<;>(refine Qg ?_;intros)
 case neg=>exact bxO (by rw[show zz op b v w l.length=false from by unfold zz;exact dF (by omega),Wa])
 refine zc (zaM (D:=noR) (zag l _ _ c) (.cons (zZ rfl) (.cons (zia c) .nil)) (.inl rfl)) ?_;refine Qg ?_;intros;exact bxO (by rw[show zz op b v w l.length=true from by unfold zz;exact dT (by omega),Wc,zfu,Wd])
theorem zBA{op b v w}{l}(h:3<=op)(d:op<=15)(c:PredE (.fn (.func zaK) []) l (λx=> !zgJ x)):zq Z9 zbm [.agg [.int .i64 op,.int .u32 b,.int .i64 v,.int .i64 w,encL 5 encX l]] (·=.bool (zd0 l&&zz op b v w l.length)):=by
 refine fn_x zcb rfl ?_;unfold zbC;have e:=hBig;refine Qg ?_;intros;by_cases g:b=0<;>(refine Qg ?_;intros)
 case neg=>exact bxO (by rw[show zz op b v w l.length=false from by unfold zz;exact dF (by omega),Wa])
 by_cases j:v=0<;>(refine Qg ?_;intros)
 case neg=>exact bxO (by rw[show zz op b v w l.length=false from by unfold zz;exact dF (by omega),Wa])
 by_cases k:w=0<;>(refine Qg ?_;intros)
 case neg=>exact bxO (by rw[show zz op b v w l.length=false from by unfold zz;exact dF (by omega),Wa])
 by_cases m:l.length=2<;>(refine Qg ?_;intros)
 case neg=>exact bxO (by rw[show zz op b v w l.length=false from by unfold zz;exact dF (by omega),Wa])
 refine zc (zaM (D:=noR) (zag l _ _ c) (.cons (zZ rfl) (.cons (zia c) .nil)) (.inl rfl)) ?_;refine Qg ?_;intros;exact bxO (by rw[show zz op b v w l.length=true from by unfold zz;exact dT (by omega),Wc,zfu,Wd])
theorem zzQ{op b v w}{l}(h:op=16)(c:PredE (.fn (.func zaK) []) l (λx=> !zgJ x)):zq Z9 zbm [.agg [.int .i64 op,.int .u32 b,.int .i64 v,.int .i64 w,encL 5 encX l]] (·=.bool (zd0 l&&zz op b v w l.length)):=by
 refine fn_x zcb rfl ?_;unfold zbC;have d:=hBig;refine Qg ?_;intros;by_cases e:b=0<;>(refine Qg ?_;intros)
 case neg=>exact bxO (by rw[show zz op b v w l.length=false from by unfold zz;exact dF (by omega),Wa])
 by_cases g:v=0<;>(refine Qg ?_;intros)
 case neg=>exact bxO (by rw[show zz op b v w l.length=false from by unfold zz;exact dF (by omega),Wa])
 by_cases j:w=0<;>(refine Qg ?_;intros)
 case neg=>exact bxO (by rw[show zz op b v w l.length=false from by unfold zz;exact dF (by omega),Wa])
 by_cases k:l.length=1<;>(refine Qg ?_;intros)
 case neg=>exact bxO (by rw[show zz op b v w l.length=false from by unfold zz;exact dF (by omega),Wa])
 refine zc (zaM (D:=noR) (zag l _ _ c) (.cons (zZ rfl) (.cons (zia c) .nil)) (.inl rfl)) ?_;refine Qg ?_;intros;exact bxO (by rw[show zz op b v w l.length=true from by unfold zz;exact dT (by omega),Wc,zfu,Wd])
theorem zz3{op b v w}{l}(h:op=17)(c:PredE (.fn (.func zaK) []) l (λx=> !zgJ x)):zq Z9 zbm [.agg [.int .i64 op,.int .u32 b,.int .i64 v,.int .i64 w,encL 5 encX l]] (·=.bool (zd0 l&&zz op b v w l.length)):=by
 refine fn_x zcb rfl ?_;unfold zbC;have d:=hBig;refine Qg ?_;intros;by_cases e:b=0<;>(refine Qg ?_;intros)
 case neg=>exact bxO (by rw[show zz op b v w l.length=false from by unfold zz;exact dF (by omega),Wa])
 by_cases g:v=0<;>(refine Qg ?_;intros)
 case neg=>exact bxO (by rw[show zz op b v w l.length=false from by unfold zz;exact dF (by omega),Wa])
 by_cases j:w=0<;>(refine Qg ?_;intros)
 case neg=>exact bxO (by rw[show zz op b v w l.length=false from by unfold zz;exact dF (by omega),Wa])
 by_cases k:l.length=1<;>(refine Qg ?_;intros)
 case neg=>exact bxO (by rw[show zz op b v w l.length=false from by unfold zz;exact dF (by omega),Wa])
 refine zc (zaM (D:=noR) (zag l _ _ c) (.cons (zZ rfl) (.cons (zia c) .nil)) (.inl rfl)) ?_;refine Qg ?_;intros;exact bxO (by rw[show zz op b v w l.length=true from by unfold zz;exact dT (by omega),Wc,zfu,Wd])
theorem zze{op b v w}{l}(h:op=18)(c:PredE (.fn (.func zaK) []) l (λx=> !zgJ x)):zq Z9 zbm [.agg [.int .i64 op,.int .u32 b,.int .i64 v,.int .i64 w,encL 5 encX l]] (·=.bool (zd0 l&&zz op b v w l.length)):=by
 refine fn_x zcb rfl ?_;unfold zbC;have d:=hBig;refine Qg ?_;intros;refine zc (zb (zun w) rfl) ?_;unfold zzq;by_cases e:w=1\/w=2\/w=4<;>(refine Qg ?_;intros)
 case neg=>exact bxO (by rw[show zz op b v w l.length=false from by unfold zz;exact dF (by omega),Wa])
 by_cases g:b=0<;>(refine Qg ?_;intros)
 case neg=>exact bxO (by rw[show zz op b v w l.length=false from by unfold zz;exact dF (by omega),Wa])
 by_cases j:v=0<;>(refine Qg ?_;intros)
 case neg=>exact bxO (by rw[show zz op b v w l.length=false from by unfold zz;exact dF (by omega),Wa])
 by_cases k:l.length=1<;>(refine Qg ?_;intros)
 case neg=>exact bxO (by rw[show zz op b v w l.length=false from by unfold zz;exact dF (by omega),Wa])
 refine zc (zaM (D:=noR) (zag l _ _ c) (.cons (zZ rfl) (.cons (zia c) .nil)) (.inl rfl)) ?_;refine Qg ?_;intros;exact bxO (by rw[show zz op b v w l.length=true from by unfold zz;exact dT (by omega),Wc,zfu,Wd])
theorem zxG{op b v w}{l}(h:op=19)(e:w=1)(c:PredE (.fn (.func zaK) []) l (λx=> !zgJ x)):zq Z9 zbm [.agg [.int .i64 op,.int .u32 b,.int .i64 v,.int .i64 w,encL 5 encX l]] (·=.bool (zd0 l&&zz op b v w l.length)):=by
 refine fn_x zcb rfl ?_;unfold zbC;have d:=hBig;refine Qg ?_;intros;by_cases g:b=0<;>(refine Qg ?_;intros)
 case neg=>exact bxO (by rw[show zz op b v w l.length=false from by unfold zz;exact dF (by omega),Wa])
 by_cases j:v=0<;>(refine Qg ?_;intros)
 case neg=>exact bxO (by rw[show zz op b v w l.length=false from by unfold zz;exact dF (by omega),Wa])
 by_cases k:l.length=1<;>(refine Qg ?_;intros)
 case neg=>exact bxO (by rw[show zz op b v w l.length=false from by unfold zz;exact dF (by omega),Wa])
 refine zc (zaM (D:=noR) (zag l _ _ c) (.cons (zZ rfl) (.cons (zia c) .nil)) (.inl rfl)) ?_;refine Qg ?_;intros;exact bxO (by rw[show zz op b v w l.length=true from by unfold zz;exact dT (by omega),Wc,zfu,Wd])
theorem zxu{op b v w}{l}(h:op=19)(e:w=2)(c:PredE (.fn (.func zaK) []) l (λx=> !zgJ x)):zq Z9 zbm [.agg [.int .i64 op,.int .u32 b,.int .i64 v,.int .i64 w,encL 5 encX l]] (·=.bool (zd0 l&&zz op b v w l.length)):=by
 refine fn_x zcb rfl ?_;unfold zbC;have d:=hBig;refine Qg ?_;intros;by_cases g:b=0<;>(refine Qg ?_;intros)
 case neg=>exact bxO (by rw[show zz op b v w l.length=false from by unfold zz;exact dF (by omega),Wa])
 by_cases j:v=0<;>(refine Qg ?_;intros)
 case neg=>exact bxO (by rw[show zz op b v w l.length=false from by unfold zz;exact dF (by omega),Wa])
 by_cases k:l.length=1<;>(refine Qg ?_;intros)
 case neg=>exact bxO (by rw[show zz op b v w l.length=false from by unfold zz;exact dF (by omega),Wa])
 refine zc (zaM (D:=noR) (zag l _ _ c) (.cons (zZ rfl) (.cons (zia c) .nil)) (.inl rfl)) ?_;refine Qg ?_;intros;exact bxO (by rw[show zz op b v w l.length=true from by unfold zz;exact dT (by omega),Wc,zfu,Wd])
theorem zxy{op nn v w}{l}(h:op=19)(b:w≠1)(c:w≠2)(e:PredE (.fn (.func zaK) []) l (λx=> !zgJ x)):zq Z9 zbm [.agg [.int .i64 op,.int .u32 nn,.int .i64 v,.int .i64 w,encL 5 encX l]] (·=.bool (zd0 l&&zz op nn v w l.length)):=by refine fn_x zcb rfl ?_;unfold zbC;have d:=hBig;refine Qg ?_;intros;exact bxO (by rw[show zz op nn v w l.length=false from by unfold zz;exact dF (by omega),Wa])
theorem zCf{op nn v w}{l}(b:op<1)(d:PredE (.fn (.func zaK) []) l (λx=> !zgJ x)):zq Z9 zbm [.agg [.int .i64 op,.int .u32 nn,.int .i64 v,.int .i64 w,encL 5 encX l]] (·=.bool (zd0 l&&zz op nn v w l.length)):=by refine fn_x zcb rfl ?_;unfold zbC;have c:=hBig;refine Qg ?_;intros;exact bxO (by rw[show zz op nn v w l.length=false from by unfold zz;exact dF (by omega),Wa])
theorem zCi{op nn v w}{l}(b:19<op)(d:PredE (.fn (.func zaK) []) l (λx=> !zgJ x)):zq Z9 zbm [.agg [.int .i64 op,.int .u32 nn,.int .i64 v,.int .i64 w,encL 5 encX l]] (·=.bool (zd0 l&&zz op nn v w l.length)):=by refine fn_x zcb rfl ?_;unfold zbC;have c:=hBig;refine Qg ?_;intros;exact bxO (by rw[show zz op nn v w l.length=false from by unfold zz;exact dF (by omega),Wa])
theorem zz8:∀(k:Nat)(e:Ex),zbF e<=k->zq Z9 zbm [.agg (encX e)] (·=.bool (zgJ e)):=by
 intro k
 induction k with
 |zero=>intro e h;obtain⟨_,_,_,_,l⟩:=e;rw[zbF]at h;omega
 |succ k A=>
 intro e u;obtain⟨op,D,v,w,l⟩:=e;rw[zbF]at u;rw[zdw,zgJ];have b:PredE (.fn (.func zaK) []) l (λx=> !zgJ x):=by refine⟨_,_,rfl,by kernel_rfl,rfl,λs y=>?_⟩;have C:=zkF y;refine fn_x zxr rfl ?_;refine dcU zqZ.eq_1 ?_;have B:=hBig;refine Gw4 @zaG @zw @zan @uv ?_;intros;refine zc (zb (A s (by omega)) (flX rfl)) ?_;refine Gw1 @zrg.eq_1 ?_;intros;exact bzO
 by_cases q:op=1
 .exact zAa q b
 by_cases t:op=2
 .exact zBU t b
 by_cases m:3<=op/\op<=15
 .exact zBA m.1 m.2 b
 by_cases d:op=16
 .exact zzQ d b
 by_cases g:op=17
 .exact zz3 g b
 by_cases j:op=18
 .exact zze j b
 by_cases c:op=19
 .by_cases n:w=1
  .exact zxG c n b
  by_cases o:w=2
  .exact zxu c o b
  exact zxy c n o b
 by_cases p:op<1
 .exact zCf p b
 exact zCi (by omega) b
theorem zwB(e):zq Z9 zl6 [.agg (encX e)] (·=.int .i64 (zmm e)):=by
 refine fn_x zwg rfl ?_;unfold zpn zmm;conv in Z8 _ _=>reduce
 have b:=hBig;refine Gw3 @zaG @zw @zan ?_;intros;refine zc (zb (zy5 (zbF e) e 64 (Wi _) (by omega) (by omega)) (flX rfl)) ?_
 cases zwF e 64 with
 |true=>refine Gw1 @zhp.eq_1 ?_;intros;exact izO
 |false=>
  refine Gw3 @zaG @zw @zan ?_;intros;refine zc (zb (zz8 (zbF e) e (Wi _)) (flX rfl)) ?_
  cases zgJ e with
  |true=>refine Gw1 @zhp.eq_1 ?_;intros;exact izO
  |false=>refine Gw1 @zhp.eq_1 ?_;intros;exact izO
def zau(op:Int):Int:=if op=2 then 2 else if op=1\/op=4\/op=7\/op=8 then 1 else if op=3\/op=5\/op=6\/op=9\/op=10 then 0 else -1
def zP(op var b next c d:Int)(k:Nat):Bool:=decide (((op=1\/op=3)\/var=0)/\(op=2\/b=0)/\((op=6\/op=7)\/next=0)/\(op=7\/c=0)/\(op=5\/d=0)/\(op=8\/k=0))
def zG(op var b next c d:Int)(k:Nat):Bool:=decide ((((op=1\/op=3)\/var=0)/\(op=2\/b=0)/\((op=6\/op=7)\/next=0)/\(op=7\/c=0)/\(op=5\/d=0)/\(op=8\/k=0))/\(0<=var/\var<65536)/\(op=2->b=1\/b=2\/b=4)/\(op=8->1<=k/\k<=64))
theorem ur:type_of% @zaq.eq_1:=@zaq.eq_1
theorem ztF(op):zq Z9 ziA [.int .i64 op] (·=.int .i64 (zau op)):=by
 refine fn_x ztb rfl ?_;refine dcU zmv.eq_1 ?_;by_cases d:op=1
 .have b:zau op=1:=by unfold zau;subst d;rfl
  rw[b];refine Gw3 @dT @dF @ur ?_;intros;exact izO
 by_cases h:op=4
 .have b:zau op=1:=by unfold zau;subst h;rfl
  rw[b];refine Gw3 @dT @dF @ur ?_;intros;exact izO
 by_cases m:op=7
 .have b:zau op=1:=by unfold zau;subst m;rfl
  rw[b];refine Gw3 @dT @dF @ur ?_;intros;exact izO
 by_cases n:op=8
 .have b:zau op=1:=by unfold zau;subst n;rfl
  rw[b];refine Gw3 @dT @dF @ur ?_;intros;exact izO
 by_cases e:op=2
 .have b:zau op=2:=by unfold zau;subst e;rfl
  rw[b];refine Gw3 @dT @dF @ur ?_;intros;exact izO
 by_cases g:op=3
 .have b:zau op=0:=by unfold zau;subst g;rfl
  rw[b];refine Gw3 @dT @dF @ur ?_;intros;exact izO
 by_cases j:op=5
 .have b:zau op=0:=by unfold zau;subst j;rfl
  rw[b];refine Gw3 @dT @dF @ur ?_;intros;exact izO
 by_cases k:op=6
 .have b:zau op=0:=by unfold zau;subst k;rfl
  rw[b];refine Gw3 @dT @dF @ur ?_;intros;exact izO
 by_cases o:op=9
 .have b:zau op=0:=by unfold zau;subst o;rfl
  rw[b];refine Gw3 @dT @dF @ur ?_;intros;exact izO
 by_cases c:op=10
 .have b:zau op=0:=by unfold zau;subst c;rfl
  rw[b];refine Gw3 @dT @dF @ur ?_;intros;exact izO
 have b:zau op = -1:=by unfold zau;rw[if_neg (by omega),if_neg (by omega),if_neg (by omega)]
 rw[b];refine Gw3 @dT @dF @ur ?_;intros;exact izO
theorem zA8(op)(c:1<=op)(d:op<=10):zq Z9 zrZ [.int .i64 op] (·=.int .i64 (zau op)):=by
 refine fn_x zBQ rfl ?_;refine dcU zt5.eq_1 ?_;by_cases d:op=2
 .have b:zau op=2:=by unfold zau;subst d;rfl
  rw[b];refine Gw3 @dT @dF @ze8.eq_1 ?_;intros;exact izO
 by_cases c:op=1
 .have b:zau op=1:=by unfold zau;subst c;rfl
  rw[b];refine Gw3 @dT @dF @ze8.eq_1 ?_;intros;exact izO
 by_cases e:op=4
 .have b:zau op=1:=by unfold zau;subst e;rfl
  rw[b];refine Gw3 @dT @dF @ze8.eq_1 ?_;intros;exact izO
 by_cases g:op=7
 .have b:zau op=1:=by unfold zau;subst g;rfl
  rw[b];refine Gw3 @dT @dF @ze8.eq_1 ?_;intros;exact izO
 by_cases h:op=8
 .have b:zau op=1:=by unfold zau;subst h;rfl
  rw[b];refine Gw3 @dT @dF @ze8.eq_1 ?_;intros;exact izO
 have b:zau op=0:=by unfold zau;rw[if_neg (by omega),if_neg (by omega),if_pos (by omega)]
 rw[b];refine Gw3 @dT @dF @ze8.eq_1 ?_;intros;exact izO
theorem Qe{p q:Prop}(k:q)(h:Im q p:=by(repeat first|simp(disch:=try exact dis1) only[evD,Nat.reduceBEq,Nat.reduceAdd,Nat.reduceLeDiff,dT,dF,fldP,za,zo]|((with_reducible apply Im.i);intro _)|((with_reducible apply Im.a);omega));exact Im.r):p:=h k
theorem zAv(op var width next b c)(e)(d)(h:op=1):zq Z9 zbn [.agg [.int .i64 op,.int .i64 var,.int .i64 width,.int .i64 next,.int .i64 b,.int .u32 c,encL 5 encX e,za d]] (·=.bool (zP op var width next b c d.length)):=by
 refine fn_x zb7 rfl ?_;refine dcU zbw.eq_1 ?_;have g:=hBig;refine Qe ?_;intros;by_cases j:width=0<;>(refine Qe ?_;intros)
 case neg=>exact bxO (by unfold zP;exact lb)
 by_cases k:next=0<;>(refine Qe ?_;intros)
 case neg=>exact bxO (by unfold zP;exact lb)
 by_cases m:b=0<;>(refine Qe ?_;intros)
 case neg=>exact bxO (by unfold zP;exact lb)
 by_cases n:c=0<;>(refine Qe ?_;intros)
 case neg=>exact bxO (by unfold zP;exact lb)
 exact bxO (by unfold zP;exact lb)
theorem zBE(op var width next b c)(e)(d)(h:op=2):zq Z9 zbn [.agg [.int .i64 op,.int .i64 var,.int .i64 width,.int .i64 next,.int .i64 b,.int .u32 c,encL 5 encX e,za d]] (·=.bool (zP op var width next b c d.length)):=by
 refine fn_x zb7 rfl ?_;refine dcU zbw.eq_1 ?_;have g:=hBig;refine Qe ?_;intros;by_cases j:var=0<;>(refine Qe ?_;intros)
 case neg=>exact bxO (by unfold zP;exact lb)
 by_cases k:next=0<;>(refine Qe ?_;intros)
 case neg=>exact bxO (by unfold zP;exact lb)
 by_cases m:b=0<;>(refine Qe ?_;intros)
 case neg=>exact bxO (by unfold zP;exact lb)
 by_cases n:c=0<;>(refine Qe ?_;intros)
 case neg=>exact bxO (by unfold zP;exact lb)
 exact bxO (by unfold zP;exact lb)
theorem zAd(op var width next b c)(e)(d)(h:op=3):zq Z9 zbn [.agg [.int .i64 op,.int .i64 var,.int .i64 width,.int .i64 next,.int .i64 b,.int .u32 c,encL 5 encX e,za d]] (·=.bool (zP op var width next b c d.length)):=by
 refine fn_x zb7 rfl ?_;refine dcU zbw.eq_1 ?_;have g:=hBig;refine Qe ?_;intros;by_cases j:width=0<;>(refine Qe ?_;intros)
 case neg=>exact bxO (by unfold zP;exact lb)
 by_cases k:next=0<;>(refine Qe ?_;intros)
 case neg=>exact bxO (by unfold zP;exact lb)
 by_cases m:b=0<;>(refine Qe ?_;intros)
 case neg=>exact bxO (by unfold zP;exact lb)
 by_cases n:c=0<;>(refine Qe ?_;intros)
 case neg=>exact bxO (by unfold zP;exact lb)
 exact bxO (by unfold zP;exact lb)
theorem zBN(op var width next b c)(e)(d)(h:op=4):zq Z9 zbn [.agg [.int .i64 op,.int .i64 var,.int .i64 width,.int .i64 next,.int .i64 b,.int .u32 c,encL 5 encX e,za d]] (·=.bool (zP op var width next b c d.length)):=by
 refine fn_x zb7 rfl ?_;refine dcU zbw.eq_1 ?_;have g:=hBig;refine Qe ?_;intros;by_cases j:var=0<;>(refine Qe ?_;intros)
 case neg=>exact bxO (by unfold zP;exact lb)
 by_cases k:width=0<;>(refine Qe ?_;intros)
 case neg=>exact bxO (by unfold zP;exact lb)
 by_cases m:next=0<;>(refine Qe ?_;intros)
 case neg=>exact bxO (by unfold zP;exact lb)
 by_cases n:b=0<;>(refine Qe ?_;intros)
 case neg=>exact bxO (by unfold zP;exact lb)
 by_cases o:c=0<;>(refine Qe ?_;intros)
 case neg=>exact bxO (by unfold zP;exact lb)
 exact bxO (by unfold zP;exact lb)
theorem zAK(op var width next b c)(e)(d)(h:op=5):zq Z9 zbn [.agg [.int .i64 op,.int .i64 var,.int .i64 width,.int .i64 next,.int .i64 b,.int .u32 c,encL 5 encX e,za d]] (·=.bool (zP op var width next b c d.length)):=by
 refine fn_x zb7 rfl ?_;refine dcU zbw.eq_1 ?_;have g:=hBig;refine Qe ?_;intros;by_cases j:var=0<;>(refine Qe ?_;intros)
 case neg=>exact bxO (by unfold zP;exact lb)
 by_cases k:width=0<;>(refine Qe ?_;intros)
 case neg=>exact bxO (by unfold zP;exact lb)
 by_cases m:next=0<;>(refine Qe ?_;intros)
 case neg=>exact bxO (by unfold zP;exact lb)
 by_cases n:b=0<;>(refine Qe ?_;intros)
 case neg=>exact bxO (by unfold zP;exact lb)
 exact bxO (by unfold zP;exact lb)
theorem zz5(op var width next b c)(e)(d)(h:op=6):zq Z9 zbn [.agg [.int .i64 op,.int .i64 var,.int .i64 width,.int .i64 next,.int .i64 b,.int .u32 c,encL 5 encX e,za d]] (·=.bool (zP op var width next b c d.length)):=by
 refine fn_x zb7 rfl ?_;refine dcU zbw.eq_1 ?_;have g:=hBig;refine Qe ?_;intros;by_cases j:var=0<;>(refine Qe ?_;intros)
 case neg=>exact bxO (by unfold zP;exact lb)
 by_cases k:width=0<;>(refine Qe ?_;intros)
 case neg=>exact bxO (by unfold zP;exact lb)
 by_cases m:b=0<;>(refine Qe ?_;intros)
 case neg=>exact bxO (by unfold zP;exact lb)
 by_cases n:c=0<;>(refine Qe ?_;intros)
 case neg=>exact bxO (by unfold zP;exact lb)
 exact bxO (by unfold zP;exact lb)
theorem zAw(op var width next c b)(e)(d)(h:op=7):zq Z9 zbn [.agg [.int .i64 op,.int .i64 var,.int .i64 width,.int .i64 next,.int .i64 c,.int .u32 b,encL 5 encX e,za d]] (·=.bool (zP op var width next c b d.length)):=by
 refine fn_x zb7 rfl ?_;refine dcU zbw.eq_1 ?_;have g:=hBig;refine Qe ?_;intros;by_cases j:var=0<;>(refine Qe ?_;intros)
 case neg=>exact bxO (by unfold zP;exact lb)
 by_cases k:width=0<;>(refine Qe ?_;intros)
 case neg=>exact bxO (by unfold zP;exact lb)
 by_cases m:b=0<;>(refine Qe ?_;intros)
 case neg=>exact bxO (by unfold zP;exact lb)
 exact bxO (by unfold zP;exact lb)
theorem zBt(op var width next b c)(e)(d)(h:op=8):zq Z9 zbn [.agg [.int .i64 op,.int .i64 var,.int .i64 width,.int .i64 next,.int .i64 b,.int .u32 c,encL 5 encX e,za d]] (·=.bool (zP op var width next b c d.length)):=by
 refine fn_x zb7 rfl ?_;refine dcU zbw.eq_1 ?_;have g:=hBig;refine Qe ?_;intros;by_cases j:var=0<;>(refine Qe ?_;intros)
 case neg=>exact bxO (by unfold zP;exact lb)
 by_cases k:width=0<;>(refine Qe ?_;intros)
 case neg=>exact bxO (by unfold zP;exact lb)
 by_cases m:next=0<;>(refine Qe ?_;intros)
 case neg=>exact bxO (by unfold zP;exact lb)
 by_cases n:b=0<;>(refine Qe ?_;intros)
 case neg=>exact bxO (by unfold zP;exact lb)
 by_cases o:c=0<;>(refine Qe ?_;intros)
 case neg=>exact bxO (by unfold zP;exact lb)
 exact bxO (by unfold zP;exact lb)
theorem zAi(op var width next b c)(e)(d)(h:op=9):zq Z9 zbn [.agg [.int .i64 op,.int .i64 var,.int .i64 width,.int .i64 next,.int .i64 b,.int .u32 c,encL 5 encX e,za d]] (·=.bool (zP op var width next b c d.length)):=by
 refine fn_x zb7 rfl ?_;refine dcU zbw.eq_1 ?_;have g:=hBig;refine Qe ?_;intros;by_cases j:var=0<;>(refine Qe ?_;intros)
 case neg=>exact bxO (by unfold zP;exact lb)
 by_cases k:width=0<;>(refine Qe ?_;intros)
 case neg=>exact bxO (by unfold zP;exact lb)
 by_cases m:next=0<;>(refine Qe ?_;intros)
 case neg=>exact bxO (by unfold zP;exact lb)
 by_cases n:b=0<;>(refine Qe ?_;intros)
 case neg=>exact bxO (by unfold zP;exact lb)
 by_cases o:c=0<;>(refine Qe ?_;intros)
 case neg=>exact bxO (by unfold zP;exact lb)
 exact bxO (by unfold zP;exact lb)
theorem zyP(op var width next b c)(e)(d)(h:op=10):zq Z9 zbn [.agg [.int .i64 op,.int .i64 var,.int .i64 width,.int .i64 next,.int .i64 b,.int .u32 c,encL 5 encX e,za d]] (·=.bool (zP op var width next b c d.length)):=by
 refine fn_x zb7 rfl ?_;refine dcU zbw.eq_1 ?_;have g:=hBig;refine Qe ?_;intros;by_cases j:var=0<;>(refine Qe ?_;intros)
 case neg=>exact bxO (by unfold zP;exact lb)
 by_cases k:width=0<;>(refine Qe ?_;intros)
 case neg=>exact bxO (by unfold zP;exact lb)
 by_cases m:next=0<;>(refine Qe ?_;intros)
 case neg=>exact bxO (by unfold zP;exact lb)
 by_cases n:b=0<;>(refine Qe ?_;intros)
 case neg=>exact bxO (by unfold zP;exact lb)
 by_cases o:c=0<;>(refine Qe ?_;intros)
 case neg=>exact bxO (by unfold zP;exact lb)
 exact bxO (by unfold zP;exact lb)
theorem zzt(op var width next b c)(e)(d)(t:1<=op)(u:op<=10):zq Z9 zbn [.agg [.int .i64 op,.int .i64 var,.int .i64 width,.int .i64 next,.int .i64 b,.int .u32 c,encL 5 encX e,za d]] (·=.bool (zP op var width next b c d.length)):=by
 by_cases h:op=1
 .exact zAv op var width next b c e d h
 by_cases j:op=2
 .exact zBE op var width next b c e d j
 by_cases k:op=3
 .exact zAd op var width next b c e d k
 by_cases m:op=4
 .exact zBN op var width next b c e d m
 by_cases n:op=5
 .exact zAK op var width next b c e d n
 by_cases o:op=6
 .exact zz5 op var width next b c e d o
 by_cases p:op=7
 .exact zAw op var width next b c e d p
 by_cases q:op=8
 .exact zBt op var width next b c e d q
 by_cases s:op=9
 .exact zAi op var width next b c e d s
 by_cases g:op=10
 .exact zyP op var width next b c e d g
 omega
theorem Qb{p q:Prop}(k:q)(h:Im q p:=by(repeat first|simp(disch:=try exact dis1) only[evD,Nat.reduceBEq,Nat.reduceAdd,Nat.reduceLeDiff,dT,dF,fldP,za,zm]|((with_reducible apply Im.i);intro _)|((with_reducible apply Im.a);omega));exact Im.r):p:=h k
theorem zCT(op var width next b c)(e)(d)(h:op=1):zq Z9 zbR [.agg [.int .i64 op,.int .i64 var,.int .i64 width,.int .i64 next,.int .i64 b,.int .u32 c,encL 5 encX e,za d]] (·=.bool (zG op var width next b c d.length)):=by
 refine fn_x zcH rfl ?_;refine dcU zb9.eq_1 ?_;have g:=hBig;refine Qb ?_;intros;refine zc (zb (zl9 var) rfl) ?_;unfold zy2;by_cases j:0<=var/\var<65536<;>(refine Qb ?_;intros)
 case neg=>exact bxO (by unfold zG;exact lb)
 by_cases k:width=0<;>(refine Qb ?_;intros)
 case neg=>exact bxO (by unfold zG;exact lb)
 by_cases m:c=0<;>(refine Qb ?_;intros)
 case neg=>exact bxO (by unfold zG;exact lb)
 by_cases n:next=0<;>(refine Qb ?_;intros)
 case neg=>exact bxO (by unfold zG;exact lb)
 by_cases o:b=0<;>(refine Qb ?_;intros)
 case neg=>exact bxO (by unfold zG;exact lb)
 exact bxO (by unfold zG;exact lb)
theorem zCa(op var width next b c)(e)(d)(h:op=2):zq Z9 zbR [.agg [.int .i64 op,.int .i64 var,.int .i64 width,.int .i64 next,.int .i64 b,.int .u32 c,encL 5 encX e,za d]] (·=.bool (zG op var width next b c d.length)):=by
 refine fn_x zcH rfl ?_;refine dcU zb9.eq_1 ?_;have g:=hBig;refine Qb ?_;intros;refine zc (zb (zun width) rfl) ?_;unfold zzq;by_cases j:width=1\/width=2\/width=4<;>(refine Qb ?_;intros)
 case neg=>exact bxO (by unfold zG;exact lb)
 by_cases k:var=0<;>(refine Qb ?_;intros)
 case neg=>exact bxO (by unfold zG;exact lb)
 by_cases m:c=0<;>(refine Qb ?_;intros)
 case neg=>exact bxO (by unfold zG;exact lb)
 by_cases n:next=0<;>(refine Qb ?_;intros)
 case neg=>exact bxO (by unfold zG;exact lb)
 by_cases o:b=0<;>(refine Qb ?_;intros)
 case neg=>exact bxO (by unfold zG;exact lb)
 exact bxO (by unfold zG;exact lb)
theorem zDs(op var width next b c)(e)(d)(h:op=3):zq Z9 zbR [.agg [.int .i64 op,.int .i64 var,.int .i64 width,.int .i64 next,.int .i64 b,.int .u32 c,encL 5 encX e,za d]] (·=.bool (zG op var width next b c d.length)):=by
 refine fn_x zcH rfl ?_;refine dcU zb9.eq_1 ?_;have g:=hBig;refine Qb ?_;intros;refine zc (zb (zl9 var) rfl) ?_;unfold zy2;by_cases j:0<=var/\var<65536<;>(refine Qb ?_;intros)
 case neg=>exact bxO (by unfold zG;exact lb)
 by_cases k:width=0<;>(refine Qb ?_;intros)
 case neg=>exact bxO (by unfold zG;exact lb)
 by_cases m:c=0<;>(refine Qb ?_;intros)
 case neg=>exact bxO (by unfold zG;exact lb)
 by_cases n:next=0<;>(refine Qb ?_;intros)
 case neg=>exact bxO (by unfold zG;exact lb)
 by_cases o:b=0<;>(refine Qb ?_;intros)
 case neg=>exact bxO (by unfold zG;exact lb)
 exact bxO (by unfold zG;exact lb)
theorem zCr(op var width next b c)(e)(d)(h:op=4):zq Z9 zbR [.agg [.int .i64 op,.int .i64 var,.int .i64 width,.int .i64 next,.int .i64 b,.int .u32 c,encL 5 encX e,za d]] (·=.bool (zG op var width next b c d.length)):=by
 refine fn_x zcH rfl ?_;refine dcU zb9.eq_1 ?_;have g:=hBig;refine Qb ?_;intros;by_cases j:var=0<;>(refine Qb ?_;intros)
 case neg=>exact bxO (by unfold zG;exact lb)
 by_cases k:width=0<;>(refine Qb ?_;intros)
 case neg=>exact bxO (by unfold zG;exact lb)
 by_cases m:c=0<;>(refine Qb ?_;intros)
 case neg=>exact bxO (by unfold zG;exact lb)
 by_cases n:next=0<;>(refine Qb ?_;intros)
 case neg=>exact bxO (by unfold zG;exact lb)
 by_cases o:b=0<;>(refine Qb ?_;intros)
 case neg=>exact bxO (by unfold zG;exact lb)
 exact bxO (by unfold zG;exact lb)
theorem zB4(op var width next b c)(e)(d)(h:op=5):zq Z9 zbR [.agg [.int .i64 op,.int .i64 var,.int .i64 width,.int .i64 next,.int .i64 b,.int .u32 c,encL 5 encX e,za d]] (·=.bool (zG op var width next b c d.length)):=by
 refine fn_x zcH rfl ?_;refine dcU zb9.eq_1 ?_;have g:=hBig;refine Qb ?_;intros;by_cases j:var=0<;>(refine Qb ?_;intros)
 case neg=>exact bxO (by unfold zG;exact lb)
 by_cases k:width=0<;>(refine Qb ?_;intros)
 case neg=>exact bxO (by unfold zG;exact lb)
 by_cases m:next=0<;>(refine Qb ?_;intros)
 case neg=>exact bxO (by unfold zG;exact lb)
 by_cases n:b=0<;>(refine Qb ?_;intros)
 case neg=>exact bxO (by unfold zG;exact lb)
 exact bxO (by unfold zG;exact lb)
theorem zDB(op var width next b c)(e)(d)(h:op=6):zq Z9 zbR [.agg [.int .i64 op,.int .i64 var,.int .i64 width,.int .i64 next,.int .i64 b,.int .u32 c,encL 5 encX e,za d]] (·=.bool (zG op var width next b c d.length)):=by
 refine fn_x zcH rfl ?_;refine dcU zb9.eq_1 ?_;have g:=hBig;refine Qb ?_;intros;by_cases j:var=0<;>(refine Qb ?_;intros)
 case neg=>exact bxO (by unfold zG;exact lb)
 by_cases k:width=0<;>(refine Qb ?_;intros)
 case neg=>exact bxO (by unfold zG;exact lb)
 by_cases m:c=0<;>(refine Qb ?_;intros)
 case neg=>exact bxO (by unfold zG;exact lb)
 by_cases n:b=0<;>(refine Qb ?_;intros)
 case neg=>exact bxO (by unfold zG;exact lb)
 exact bxO (by unfold zG;exact lb)
theorem zDg(op var width next c b)(e)(d)(h:op=7):zq Z9 zbR [.agg [.int .i64 op,.int .i64 var,.int .i64 width,.int .i64 next,.int .i64 c,.int .u32 b,encL 5 encX e,za d]] (·=.bool (zG op var width next c b d.length)):=by
 refine fn_x zcH rfl ?_;refine dcU zb9.eq_1 ?_;have g:=hBig;by_cases j:var=0
 case neg=>
  ((refine Qb ?_;intros);(repeat' with_reducible apply Wj)<;>(refine Qb ?_;intros);all_goals(exact bxO (by unfold zG;exact lb)))
 by_cases k:width=0
 case neg=>
  ((refine Qb ?_;intros);(repeat' with_reducible apply Wj)<;>(refine Qb ?_;intros);all_goals(exact bxO (by unfold zG;exact lb)))
 by_cases m:b=0
 case neg=>
  ((refine Qb ?_;intros);(repeat' with_reducible apply Wj)<;>(refine Qb ?_;intros);all_goals(exact bxO (by unfold zG;exact lb)))
 by_cases n:d.length=0
 case neg=>
  ((refine Qb ?_;intros);(repeat' with_reducible apply Wj)<;>(refine Qb ?_;intros);all_goals(exact bxO (by unfold zG;exact lb)))
 ((refine Qb ?_;intros);(repeat' with_reducible apply Wj)<;>(refine Qb ?_;intros);all_goals(exact bxO (by unfold zG;exact lb)))
theorem zCN(op var width next b c)(e)(d)(h:op=8):zq Z9 zbR [.agg [.int .i64 op,.int .i64 var,.int .i64 width,.int .i64 next,.int .i64 b,.int .u32 c,encL 5 encX e,za d]] (·=.bool (zG op var width next b c d.length)):=by
 refine fn_x zcH rfl ?_;refine dcU zb9.eq_1 ?_;have k:=hBig;refine Qb ?_;intros;by_cases g:1<=d.length<;>(refine Qb ?_;intros)
 case neg=>exact bxO (by unfold zG;exact lb)
 by_cases j:d.length<=64<;>(refine Qb ?_;intros)
 case neg=>exact bxO (by unfold zG;exact lb)
 by_cases m:var=0<;>(refine Qb ?_;intros)
 case neg=>exact bxO (by unfold zG;exact lb)
 by_cases n:width=0<;>(refine Qb ?_;intros)
 case neg=>exact bxO (by unfold zG;exact lb)
 by_cases o:c=0<;>(refine Qb ?_;intros)
 case neg=>exact bxO (by unfold zG;exact lb)
 by_cases p:next=0<;>(refine Qb ?_;intros)
 case neg=>exact bxO (by unfold zG;exact lb)
 by_cases q:b=0<;>(refine Qb ?_;intros)
 case neg=>exact bxO (by unfold zG;exact lb)
 exact bxO (by unfold zG;exact lb)
theorem zDe(op var width next b c)(e)(d)(h:op=9):zq Z9 zbR [.agg [.int .i64 op,.int .i64 var,.int .i64 width,.int .i64 next,.int .i64 b,.int .u32 c,encL 5 encX e,za d]] (·=.bool (zG op var width next b c d.length)):=by
 refine fn_x zcH rfl ?_;refine dcU zb9.eq_1 ?_;have g:=hBig;refine Qb ?_;intros;by_cases j:var=0<;>(refine Qb ?_;intros)
 case neg=>exact bxO (by unfold zG;exact lb)
 by_cases k:width=0<;>(refine Qb ?_;intros)
 case neg=>exact bxO (by unfold zG;exact lb)
 by_cases m:c=0<;>(refine Qb ?_;intros)
 case neg=>exact bxO (by unfold zG;exact lb)
 by_cases n:next=0<;>(refine Qb ?_;intros)
 case neg=>exact bxO (by unfold zG;exact lb)
 by_cases o:b=0<;>(refine Qb ?_;intros)
 case neg=>exact bxO (by unfold zG;exact lb)
 exact bxO (by unfold zG;exact lb)
theorem zBW(op var width next b c)(e)(d)(h:op=10):zq Z9 zbR [.agg [.int .i64 op,.int .i64 var,.int .i64 width,.int .i64 next,.int .i64 b,.int .u32 c,encL 5 encX e,za d]] (·=.bool (zG op var width next b c d.length)):=by
 refine fn_x zcH rfl ?_;refine dcU zb9.eq_1 ?_;have g:=hBig;refine Qb ?_;intros;by_cases j:var=0<;>(refine Qb ?_;intros)
 case neg=>exact bxO (by unfold zG;exact lb)
 by_cases k:width=0<;>(refine Qb ?_;intros)
 case neg=>exact bxO (by unfold zG;exact lb)
 by_cases m:c=0<;>(refine Qb ?_;intros)
 case neg=>exact bxO (by unfold zG;exact lb)
 by_cases n:next=0<;>(refine Qb ?_;intros)
 case neg=>exact bxO (by unfold zG;exact lb)
 by_cases o:b=0<;>(refine Qb ?_;intros)
 case neg=>exact bxO (by unfold zG;exact lb)
 exact bxO (by unfold zG;exact lb)
theorem zA7(op var width next b c)(e)(d)(t:1<=op)(u:op<=10):zq Z9 zbR [.agg [.int .i64 op,.int .i64 var,.int .i64 width,.int .i64 next,.int .i64 b,.int .u32 c,encL 5 encX e,za d]] (·=.bool (zG op var width next b c d.length)):=by
 by_cases h:op=1
 .exact zCT op var width next b c e d h
 by_cases j:op=2
 .exact zCa op var width next b c e d j
 by_cases k:op=3
 .exact zDs op var width next b c e d k
 by_cases m:op=4
 .exact zCr op var width next b c e d m
 by_cases n:op=5
 .exact zB4 op var width next b c e d n
 by_cases o:op=6
 .exact zDB op var width next b c e d o
 by_cases p:op=7
 .exact zDg op var width next b c e d p
 by_cases q:op=8
 .exact zCN op var width next b c e d q
 by_cases s:op=9
 .exact zDe op var width next b c e d s
 by_cases g:op=10
 .exact zBW op var width next b c e d g
 omega
def zkq:List Ex->Int
 |[]=>0
 |x::l=>if zmm x≠0 then zmm x else zkq l
theorem zwC{l:List Ex}{i:Nat}(h:i<l.length):zkq (l.drop i)=if zmm l[i]≠0 then zmm l[i]else zkq (l.drop (i+1)):=by rw[Wk h,zkq]
def zyA(op var b next c d:Int)(e:List Ex)(g:List Int):Int :=
 if (op<1\/10<op)\/zau op≠e.length then 2 else if zkq e≠0 then zkq e else if zG op var b next c d g.length=true then 0 else 2
theorem Qk{p q:Prop}(k:q)(h:Im q p:=by(repeat first|simp(disch:=try exact dis1) only[evD,Nat.reduceBEq,Nat.reduceAdd,Nat.reduceLeDiff,dT,dF,fldP,za,zJ]|((with_reducible apply Im.i);intro _)|((with_reducible apply Im.a);omega));exact Im.r):p:=h k
theorem Ql{p q:Prop}(k:q)(h:Im q p:=by(repeat first|simp(disch:=try exact dis1) only[evD,Nat.reduceBEq,Nat.reduceAdd,Nat.reduceLeDiff,fldP,zu,tab,List.getD_cons_zero,List.getD_cons_succ,za]|((with_reducible apply Im.i);intro _)|((with_reducible apply Im.a);omega));exact Im.r):p:=h k
theorem ua:type_of% @za.eq_1:=@za.eq_1
theorem zvb(op var width next d g)(e)(j):zq Z9 zg3 [.agg [.int .i64 op,.int .i64 var,.int .i64 width,.int .i64 next,.int .i64 d,.int .u32 g,encL 5 encX e,za j]] (·=.int .i64 (zyA op var width next d g e j)):=by
 refine fn_x zu1 rfl ?_;unfold zoC zyA;conv in Z8 _ _=>reduce
 have y:=hBig;by_cases o:1<=op;case neg=>rw[if_pos (by omega)];refine Qk ?_;intros;exact izO
 by_cases p:op<=10;case neg=>rw[if_pos (by omega)];refine Qk ?_;intros;exact izO
 refine Gw3 @dF @ub @ua ?_;intros;refine zp (zb (zA8 op o p) rfl) ?_;generalize zau op=n;by_cases x:n=e.length;case neg=>rw[if_pos (by omega)];refine Qk ?_;intros;exact izO
 rw[if_neg (by omega)];refine Gw4 @dT @dF @ub @ua ?_;intros;refine zd (λi:Nat=>([(1,encP 8 [.int .i64 op,.int .i64 var,.int .i64 width,.int .i64 next,.int .i64 d,.int .u32 g,encL 5 encX e,za j]),(3,.int .i64 i)],[])) 0 (λi=>i<=e.length/\zkq (e.drop i)=zkq e) (λi=>e.length-i) 0 ⟨We _,rfl⟩ (Xb rfl fin5) ?_;rintro i ⟨A,b⟩ wf;refine dcU zke.eq_1 ?_;by_cases q:i<e.length
 .rw[zwC q]at b;refine Gw5 @ub @dT (gmp q) @zaG @zan ?_;intros;refine zc (zb (zuJ e[i]) (flX rfl)) ?_;by_cases s:zmm e[i]=0
  .rw[if_neg (by omega)]at b;refine Qa ?_;intros;exact⟨i+1,⟨by omega,b⟩,by omega,Xb rfl fin5⟩
  .rw[if_pos s]at b;rw[<-b,if_pos s];refine Gw2 @dT @zJ.eq_1 ?_;intros;exact izO
 rw[Wg (by omega),zkq]at b;rw[<-b,if_neg (by omega)];refine Qj ?_;intros;refine dcU zkK.eq_1 ?_;refine Ql ?_;intros;refine zc (zb (zzt op var width next d g e j o p) rfl) ?_
 cases m:zP op var width next d g j.length with
 |false=>unfold zP at m;have c:=of_decide_eq_false m;rw[if_neg (by unfold zG;rw[dF (λh=>c h.1)];simp)];refine Qk ?_;intros;exact izO
 |true=>
  unfold zP at m;have c:=of_decide_eq_true m;refine Qk ?_;intros;refine zc (zb (zut var) rfl) ?_;unfold zy2;by_cases k:0<=var/\var<65536;case neg=>rw[if_neg (by unfold zG;rw[dF (λh=>k h.2.1)];simp)];refine Qk ?_;intros;exact izO
  refine Qk ?_;intros;by_cases u:op=2
  ·(refine Qk ?_;intros);by_cases B:width=1
   .rw[if_pos (by unfold zG;exact dT ⟨c,k,by omega,by omega⟩)];refine Qk ?_;intros;exact izO
   refine Qk ?_;intros;by_cases C:width=2
   .rw[if_pos (by unfold zG;exact dT ⟨c,k,by omega,by omega⟩)];refine Qk ?_;intros;exact izO
   refine Qk ?_;intros;by_cases D:width=4
   .rw[if_pos (by unfold zG;exact dT ⟨c,k,by omega,by omega⟩)];refine Qk ?_;intros;exact izO
   rw[if_neg (by unfold zG;rw[dF (λh=>by have:=h.2.2.1 u;omega)];simp)];refine Qk ?_;intros;exact izO
  refine Qk ?_;intros;by_cases t:op=8
  ·(refine Qk ?_;intros);by_cases v:1<=j.length;case neg=>rw[if_neg (by unfold zG;rw[dF (λh=>by have:=h.2.2.2 t;omega)];simp)];refine Qk ?_;intros;exact izO
   refine Qk ?_;intros;by_cases w:j.length<=64;case neg=>rw[if_neg (by unfold zG;rw[dF (λh=>by have:=h.2.2.2 t;omega)];simp)];refine Qk ?_;intros;exact izO
   rw[if_pos (by unfold zG;exact dT ⟨c,k,by omega,by omega⟩)];refine Qk ?_;intros;exact izO
  rw[if_pos (by unfold zG;exact dT ⟨c,k,by omega,by omega⟩)];refine Qk ?_;intros;exact izO
theorem zCG{op}:zau op<0↔(op<1\/10<op):=by
 unfold zau;constructor
 .intro h
  repeat' split at h
  all_goals omega
 .intro h;rw[if_neg (by omega),if_neg (by omega),if_neg (by omega)];omega
theorem Qn{p:Prop}(h:p:=by(try simp only[evWB,Nat.reduceBEq,Nat.reduceAdd,Nat.reduceSub,Nat.reduceLeDiff,Nat.reduceLT,implies_true])<;>exact fin2):p:=h
theorem zvD(op var b next d j)(e)(k):zq Z9 zib [.agg [.int .i64 op,.int .i64 var,.int .i64 b,.int .i64 next,.int .i64 d,.int .u32 j,encL 5 encX e,za k]] (·=.int .i64 (zyA op var b next d j e k)):=by
 refine fn_x zvm rfl ?_;unfold zpX zyA;conv in Z8 _ _=>reduce
 have t:=hBig;refine Gw5 @dT @dF @ub @ua @zbA.eq_1 ?_;intros;refine zc (zb (ztF op) rfl) ?_;have g:=zCG (op:=op);generalize zau op=n at g⊢;by_cases m:n<0
 .rw[if_pos (.inl (g.1 m))];refine Gw5 @dT @dF @ub @ua @zbA.eq_1 ?_;intros;exact izO
 have s:¬(op<1\/10<op):=λh=>m (g.2 h)
 refine Gw5 @dT @dF @ub @ua @zbA.eq_1 ?_;intros;by_cases q:n=e.length;case neg=>rw[if_pos (.inr q)];refine Gw5 @dT @dF @ub @ua @zbA.eq_1 ?_;intros;exact izO
 rw[if_neg (by omega)];refine Gw5 @dT @dF @ub @ua @zbA.eq_1 ?_;intros;refine zd (λi:Nat=>([(1,encP 8 [.int .i64 op,.int .i64 var,.int .i64 b,.int .i64 next,.int .i64 d,.int .u32 j,encL 5 encX e,za k]),(20,encL 5 encX e),(21,.int .i64 e.length),(22,.int .i64 i)],[])) 0 (λi=>i<=e.length/\zkq (e.drop i)=zkq e) (λi=>e.length-i) 0 ⟨We _,rfl⟩ (Xb rfl fin5) ?_;rintro i ⟨u,c⟩ wf;refine dcU zlw.eq_1 ?_;by_cases o:i<e.length
 .rw[zwC o]at c;refine Gw5 @ub @dT (gmp o) @zaG @zan ?_;intros;refine zc (zb (zwB e[i]) (flX rfl)) ?_;by_cases p:zmm e[i]=0
  .rw[if_neg (by omega)]at c;refine Qa ?_;intros;exact⟨i+1,⟨by omega,c⟩,by omega,(Ent.tab [] [] rfl Qn Qn)⟩
  .rw[if_pos p]at c;rw[<-c,if_pos p];refine Gw2 @dT @zbA.eq_1 ?_;intros;exact izO
 rw[Wg (by omega),zkq]at c;rw[<-c,if_neg (by omega)];refine Qj ?_;intros;refine dcU zlr.eq_1 ?_;refine Ql ?_;intros;refine zc (zb (zA7 op var b next d j e k (by omega) (by omega)) rfl) ?_
 cases zG op var b next d j k.length with
 |false=>refine Gw5 @dT @dF @ub @ua @zbA.eq_1 ?_;intros;exact izO
 |true=>refine Gw5 @dT @dF @ub @ua @zbA.eq_1 ?_;intros;exact izO
structure St where
 op:Int
 var:Int
 width:Int
 next:Int
 els:Int
 tgt:Int
 e:List Ex
 cases:List Int
def St.cells(s:St):List AV:=[.int .i64 s.op,.int .i64 s.var,.int .i64 s.width,.int .i64 s.next,.int .i64 s.els,.int .u32 s.tgt,encL 5 encX s.e,za s.cases]
structure Bl where
 addr:Int
 stmts:List St
def Bl.cells(b:Bl):List AV:=[.int .u32 b.addr,encL 8 St.cells b.stmts]
structure G where
 addr:Int
 blocks:List Bl
def G.cells(g:G):List AV:=[.int .u32 g.addr,encL 2 Bl.cells g.blocks]
theorem St.len(s:St):s.cells.length=8:=rfl
theorem St.flat(s:St):zQ s.cells=true:=rfl
theorem St.eight(s:St):[s.cells.getD 0 .undef,s.cells.getD 1 .undef,s.cells.getD 2 .undef,s.cells.getD 3 .undef,s.cells.getD 4 .undef,s.cells.getD 5 .undef,s.cells.getD 6 .undef,s.cells.getD 7 .undef]=s.cells:=rfl
def zo8(s:St):Bool:=decide (6<=s.op/\s.op<=10)
def znu(s:St):List Int:=if s.op=6 then[s.next]else if s.op=7 then[s.next,s.els]else if s.op=8 then s.cases else[]
def St.check(s:St):Int:=zyA s.op s.var s.width s.next s.els s.tgt s.e s.cases
theorem zu6(s:St):zq Z9 zg3 [.agg s.cells] (·=.int .i64 s.check):=zvb _ _ _ _ _ _ _ _
theorem zvO(s:St):zq Z9 zib [.agg s.cells] (·=.int .i64 s.check):=zvD _ _ _ _ _ _ _ _
theorem ud:type_of% @St.cells.eq_1:=@St.cells.eq_1
theorem zC6(s):zq Z9 ztC [.agg s.cells] (·=.bool (zo8 s)):=by
 refine fn_x zCA rfl ?_;refine dcU zwU.eq_1 ?_;have j:=hBig;obtain⟨op,var,b,next,c,d,e,g⟩:=s;unfold zo8;by_cases h:6<=op
 ·(refine Gw5 @dT @ub @ua @ud @zrp.eq_1 ?_;intros);exact bxO (decide_eq_decide.2 (by omega))
 ·(refine Gw5 @dF @ub @ua @ud @zrp.eq_1 ?_;intros);exact bzO
theorem zn9(s):zq Z9 zfk [.agg s.cells] (·=.bool (zo8 s)):=by
 refine fn_x zuQ rfl ?_;refine dcU zn5.eq_1 ?_;have j:=hBig;obtain⟨op,var,b,next,c,d,e,g⟩:=s;unfold zo8;by_cases h:6<=op
 ·(refine Gw5 @dT @ub @ua @ud @ziE.eq_1 ?_;intros);exact bxO (decide_eq_decide.2 (by omega))
 ·(refine Gw5 @dF @ub @ua @ud @ziE.eq_1 ?_;intros);exact bzO
theorem zxg(s):zq Z9 znG [.agg s.cells] (·=za (znu s)):=by
 refine fn_x zxp rfl ?_;refine dcU zqT.eq_1 ?_;have m:=hBig;obtain⟨op,var,c,next,b,j,e,k⟩:=s;unfold znu;simp only;by_cases d:op=6
 .rw[if_pos d];refine Gw6 @dT @dF @ub @ua @ud @zga.eq_1 ?_;intros;exact⟨_,zaP (l:=[next]) trivial rfl (by simp only[List.length_singleton];omega),rfl⟩
 rw[if_neg d];by_cases g:op=7
 .rw[if_pos g];refine Gw6 @dT @dF @ub @ua @ud @zga.eq_1 ?_;intros;exact⟨_,zaP (l:=[next,b]) trivial rfl (by simp only[List.length_cons,List.length_nil];omega),rfl⟩
 rw[if_neg g];by_cases h:op=8
 .rw[if_pos h];refine Gw6 @dT @dF @ub @ua @ud @zga.eq_1 ?_;intros;exact⟨_,zZ rfl,rfl⟩
 rw[if_neg h];refine Gw6 @dT @dF @ub @ua @ud @zga.eq_1 ?_;intros;exact⟨_,zaP (l:=[]) trivial rfl (by simp only[List.length_nil];omega),rfl⟩
end Go.Ab
namespace Go.Ab
open Go.RowKit Go.Proofs Go.Proofs.YtihlaappclhhaaaGreat
section
variable {HH:Type}{enc:TypeId×Value->HH}{w:World}{base:Nat}{spare:Nat->Bool}{held:Bool}{L:Nat->Prop} (hL:∀b,¬L b)
include hL
theorem zKT{fuel}{o}{y:DataW HH×List MemPlace}(h:Xa enc Z9 w base spare held fuel 77 o=some y):∃s:St,ElOk w L o s.cells:=by
 have D:Tryz.prog.cellsOf 44=5:=by kernel_rfl
 obtain⟨d,n,rfl,rfl,m,F,k⟩:=Xc Tryz.underlying77 h;have Q:Tryz.prog.cellsOf 77=8:=by kernel_rfl
 have e:Tryz.prog.cellsOf 3=1:=by kernel_rfl
 have p:Tryz.prog.cellsOf 24=1:=by kernel_rfl
 have q:Tryz.prog.cellsOf 35=1:=by kernel_rfl
 have t:Tryz.prog.cellsOf 42=1:=by kernel_rfl
 rw[Q]at m;have c:∀i,i<8->d[i]?=some (d.getD i (.nil,[])):=λi S=>by rw[Wf,Wh (by rw[F];exact S)];rfl
 match o,m with
 |[c0,c1,c2,c3,c4,c5,c6,c7],_=>
  have u:Xa enc Z9 w base spare held n 3 (([c0,c1,c2,c3,c4,c5,c6,c7].drop 0).take (Tryz.prog.cellsOf 3))=some (d.getD 0 (.nil,[])):=(k 0 _ rfl).trans (c 0 (by decide));rw[e]at u;replace u:Xa enc Z9 w base spare held n 3 [c0]=some (d.getD 0 (.nil,[])):=u;have v:Xa enc Z9 w base spare held n 3 (([c0,c1,c2,c3,c4,c5,c6,c7].drop 1).take (Tryz.prog.cellsOf 3))=some (d.getD 1 (.nil,[])):=(k 1 _ rfl).trans (c 1 (by decide));rw[e]at v;replace v:Xa enc Z9 w base spare held n 3 [c1]=some (d.getD 1 (.nil,[])):=v;have x:Xa enc Z9 w base spare held n 3 (([c0,c1,c2,c3,c4,c5,c6,c7].drop 2).take (Tryz.prog.cellsOf 3))=some (d.getD 2 (.nil,[])):=(k 2 _ rfl).trans (c 2 (by decide));rw[e]at x;replace x:Xa enc Z9 w base spare held n 3 [c2]=some (d.getD 2 (.nil,[])):=x;have A:Xa enc Z9 w base spare held n 3 (([c0,c1,c2,c3,c4,c5,c6,c7].drop 3).take (Tryz.prog.cellsOf 3))=some (d.getD 3 (.nil,[])):=(k 3 _ rfl).trans (c 3 (by decide));rw[e]at A;replace A:Xa enc Z9 w base spare held n 3 [c3]=some (d.getD 3 (.nil,[])):=A;have B:Xa enc Z9 w base spare held n 3 (([c0,c1,c2,c3,c4,c5,c6,c7].drop 4).take (Tryz.prog.cellsOf 3))=some (d.getD 4 (.nil,[])):=(k 4 _ rfl).trans (c 4 (by decide));rw[e]at B;replace B:Xa enc Z9 w base spare held n 3 [c4]=some (d.getD 4 (.nil,[])):=B;have f5:Xa enc Z9 w base spare held n 24 (([c0,c1,c2,c3,c4,c5,c6,c7].drop 5).take (Tryz.prog.cellsOf 24))=some (d.getD 5 (.nil,[])):=(k 5 _ rfl).trans (c 5 (by decide));rw[p]at f5;replace f5:Xa enc Z9 w base spare held n 24 [c5]=some (d.getD 5 (.nil,[])):=f5;have C:Xa enc Z9 w base spare held n 42 (([c0,c1,c2,c3,c4,c5,c6,c7].drop 6).take (Tryz.prog.cellsOf 42))=some (d.getD 6 (.nil,[])):=(k 6 _ rfl).trans (c 6 (by decide));rw[t]at C;replace C:Xa enc Z9 w base spare held n 42 [c6]=some (d.getD 6 (.nil,[])):=C;have f7:Xa enc Z9 w base spare held n 35 (([c0,c1,c2,c3,c4,c5,c6,c7].drop 7).take (Tryz.prog.cellsOf 35))=some (d.getD 7 (.nil,[])):=(k 7 _ rfl).trans (c 7 (by decide));rw[q]at f7;replace f7:Xa enc Z9 w base spare held n 35 [c7]=some (d.getD 7 (.nil,[])):=f7;obtain⟨W,H,w0⟩:=zmM Tryz.underlying3 u;obtain⟨X,I,w1⟩:=zmM Tryz.underlying3 v;obtain⟨Y,J,w2⟩:=zmM Tryz.underlying3 x;obtain⟨Z,K,w3⟩:=zmM Tryz.underlying3 A;obtain⟨n4,M,w4⟩:=zmM Tryz.underlying3 B;obtain⟨n5,N,w5⟩:=zmM Tryz.underlying24 f5;obtain⟨U,v6,O,o6,w6⟩:=zAn (L:=L) (α:=Ex) (cells:=encX) hL Tryz.underlying42 D (λg R o y h _=>zLn hL g g (Wi _) o y h) C;obtain⟨V,v7,P,o7,w7⟩:=zwO Tryz.underlying35 Tryz.underlying3 e hL f7;cases H;cases I;cases J;cases K;cases M;cases N;cases O;cases P;refine⟨⟨W,X,Y,Z,n4,n5,U,V⟩,λj T=>?_⟩
  match j with
  |0=>exact⟨.int _ _ _ w0,rfl⟩
  |1=>exact⟨.int _ _ _ w1,rfl⟩
  |2=>exact⟨.int _ _ _ w2,rfl⟩
  |3=>exact⟨.int _ _ _ w3,rfl⟩
  |4=>exact⟨.int _ _ _ w4,rfl⟩
  |5=>exact⟨.int _ _ _ w5,rfl⟩
  |6=>exact⟨w6 _,o6⟩
  |7=>exact⟨w7 _,o7⟩
  |j+8=>exact absurd T (by simp)
theorem zJR{fuel}{cs}{y:DataW HH×List MemPlace}(h:Xa enc Z9 w base spare held fuel 81 cs=some y):∃b:Bl,ElOk w L cs b.cells:=by
 have p:Tryz.prog.cellsOf 77=8:=by kernel_rfl
 obtain⟨e,n,rfl,rfl,d,q,s⟩:=Xc Tryz.underlying81 h;have v:Tryz.prog.cellsOf 81=2:=by kernel_rfl
 have g:Tryz.prog.cellsOf 24=1:=by kernel_rfl
 have k:Tryz.prog.cellsOf 79=1:=by kernel_rfl
 rw[v]at d;have c:∀i,i<2->e[i]?=some (e.getD i (.nil,[])):=λi x=>by rw[Wf,Wh (by rw[q];exact x)];rfl
 match cs,d with
 |[c0,c1],_=>
  have m:Xa enc Z9 w base spare held n 24 (([c0,c1].drop 0).take (Tryz.prog.cellsOf 24))=some (e.getD 0 (.nil,[])):=(s 0 _ rfl).trans (c 0 (by decide));rw[g]at m;replace m:Xa enc Z9 w base spare held n 24 [c0]=some (e.getD 0 (.nil,[])):=m;have o:Xa enc Z9 w base spare held n 79 (([c0,c1].drop 1).take (Tryz.prog.cellsOf 79))=some (e.getD 1 (.nil,[])):=(s 1 _ rfl).trans (c 1 (by decide));rw[k]at o;replace o:Xa enc Z9 w base spare held n 79 [c1]=some (e.getD 1 (.nil,[])):=o;obtain⟨C,t,F⟩:=zmM Tryz.underlying24 m;obtain⟨B,v1,u,D,H⟩:=zr4 (α:=St) (cells:=St.cells) (L:=L) Tryz.underlying79 p hL (λ_ _ _ h _=>zKT hL h) o;cases t;cases u;refine⟨⟨C,B⟩,λj A=>?_⟩
  match j with
  |0=>exact⟨.int _ _ _ F,rfl⟩
  |1=>exact⟨H _,D⟩
  |j+2=>exact absurd A (by simp)
theorem zD1{fuel}{cs}{y:DataW HH×List MemPlace}(h:Xa enc Z9 w base spare held fuel 48 cs=some y):∃g:G,cs.length=2/\ElOk w L cs g.cells/\∀j,j<2->∀ι,VR w L ι (cs.getD j undef) (g.cells.getD j .undef):=by
 have q:Tryz.prog.cellsOf 81=2:=by kernel_rfl
 obtain⟨e,n,rfl,rfl,d,s,t⟩:=Xc Tryz.underlying48 h;have C:Tryz.prog.cellsOf 48=2:=by kernel_rfl
 have k:Tryz.prog.cellsOf 24=1:=by kernel_rfl
 have m:Tryz.prog.cellsOf 46=1:=by kernel_rfl
 rw[C]at d;have c:∀i,i<2->e[i]?=some (e.getD i (.nil,[])):=λi D=>by rw[Wf,Wh (by rw[s];exact D)];rfl
 match cs,d with
 |[c0,c1],_=>
  have o:Xa enc Z9 w base spare held n 24 (([c0,c1].drop 0).take (Tryz.prog.cellsOf 24))=some (e.getD 0 (.nil,[])):=(t 0 _ rfl).trans (c 0 (by decide));rw[k]at o;replace o:Xa enc Z9 w base spare held n 24 [c0]=some (e.getD 0 (.nil,[])):=o;have p:Xa enc Z9 w base spare held n 46 (([c0,c1].drop 1).take (Tryz.prog.cellsOf 46))=some (e.getD 1 (.nil,[])):=(t 1 _ rfl).trans (c 1 (by decide));rw[m]at p;replace p:Xa enc Z9 w base spare held n 46 [c1]=some (e.getD 1 (.nil,[])):=p;obtain⟨H,A,v⟩:=zmM Tryz.underlying24 o;obtain⟨F,v1,B,I,x⟩:=zr4 (α:=Bl) (cells:=Bl.cells) (L:=L) Tryz.underlying46 q hL (λ_ _ _ h _=>zJR hL h) p;cases A;cases B;refine⟨⟨H,F⟩,rfl,λj u=>?_,λj u ι=>?_⟩
  .match j with
   |0=>exact⟨.int _ _ _ v,rfl⟩
   |1=>exact⟨x _,I⟩
   |j+2=>exact absurd u (by simp)
  .match j with
   |0=>exact .int _ _ _ v
   |1=>exact x _
   |j+2=>omega
theorem open_graph{v:Value}{d:DataW HH}{s:List MemPlace}(m:Value.okWide Z9 w .any base 48 v){p:Nat}(h:DataW.Trod enc Z9 w p spare held 48 v d s):∃g:G,True/\∀ι,VR w L ι v (.agg g.cells):=by
 obtain⟨k,y⟩:=h;unfold Value.okWide at m;rw[Tryz.underlying48]at m;simp only at m;obtain⟨c,rfl,_,_⟩:=m;have n:Xa enc Z9 w p spare held k 48 c.toList=some (d,s):=y;obtain⟨g,q,t,u⟩:=zD1 hL n
 refine⟨g,trivial,λι=>.agg ι c _ (by
  have:c.size=2:=by simpa using q
  rw[this];rfl) (λi v e=>?_) (λi v a e x=>?_)⟩
 .have j:i<c.size:=by
   rcases Nat.lt_or_ge i c.size with h|h
   .exact h
   .rw[Wr h]at e;cases e
  have:=(t i (by simpa using j)).2;rw[Wf,Ws,e]at this;exact this
 .have j:i<c.size:=by
   rcases Nat.lt_or_ge i c.size with h|h
   .exact h
   .rw[Wr h]at e;cases e
  have o:i<2:=by rw[<-q];simpa using j
  have:=u i o ι;rw[Wf,Ws,e,Wf,x]at this;exact this
end
end Go.Ab
