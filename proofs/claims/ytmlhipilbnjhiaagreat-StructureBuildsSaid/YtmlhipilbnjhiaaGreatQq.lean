/-
  Part 17 of the proof: how the calls of this program run, over values instead of memory, and what each function computes.
-/
import Derived.Test.YtmlhipilbnjhiaaGreatQp
set_option maxRecDepth 100000
set_option linter.unusedVariables false
set_option linter.unusedSimpArgs false
set_option linter.unnecessarySimpa false
set_option linter.unusedSectionVars false
open Go.Ab.Ent renaming keep->Xa,tab->Xb
open Go.Proofs.Tryz renaming prog->Z9
open Bool renaming and_false→Wa,and_true→Wc,and_eq_true→Wh
open List renaming all_eq_not_any_not→Wd,getElem_mem→Wf,drop_eq_getElem_cons→Wi,drop_of_length_le→Wj,findIdx?_eq_some_iff_getElem→Wk,findIdx?_eq_none_iff→Wl
open Nat renaming zero_le→We,le_refl→Wg
namespace Go.Ab
open Go.RowKit Go.Proofs
def fm(p:NdF->List Int)(l:List Nd):List Int:=l.flatMap λx=>p x.f
theorem fm_all(p)(n):fm p (allN n)=coll p n:=(zBS p n).symm
theorem renX{ρ:Nat->Nat}{l:List Ex}{g:Nat}:AObj.ren ρ (.row 5 (l.map encX) g)=.row 5 (l.map encX) g:=by simp only[AObj.ren];rw[zgL (zE λ_=>zq)]
theorem zGj(l:List Ex)(h:l.length<=100000):zS Z9 zO [encL 5 encX l] [] 0 (λv H nx=>v=.own 0 0 0 0 l.length/\H=[(0,.row 5 (l.map encX) 0)]/\nx=1):=by
 refine zaA (fn_x zfB rfl ?_);refine dcU zcA.eq_1 ?_;have g:=hBig;have c:∀H,zcq 5 (encL 5 encX l) H=some (l.map encX):=λH=>za7 (λ_ _=>zbI)
 refine Gw1 @zto ?_;intros
 cases d:(l.length == 0)with
 |true=>
  have e:l=[]:=List.eq_nil_of_length_eq_zero (by simpa using d);subst e;refine Gw0 ?_;intros;rename_i b;cases b
  ·(refine Gw2 c @zav.eq_1 ?_;intros);exact⟨.own 0 0 0 0 0,[(0,.row 5 [] 0)],1,(Xb [(0,1,1)] [] rfl Ql Ql),rfl,rfl,rfl⟩
  ·(refine Gw1 @zav.eq_1 ?_;intros);exact⟨.own 0 0 0 0 0,[(0,.row 5 [] 0)],1,(Xb [(0,1,0)] [] rfl Ql Ql),rfl,rfl,rfl⟩
 |false=>refine Gw2 c @zav.eq_1 ?_;intros;exact⟨.own 0 0 0 0 l.length,[(0,.row 5 (l.map encX) 0)],1,(Xb [(0,1,1)] [] rfl Ql Ql),rfl,rfl,rfl⟩
theorem zg7:∀(k:Nat)(e:Ex),zdM e<=k->k<=100000->zn Z9 za6 [.agg (encX e)] (·=.agg (encX e)):=by
 intro k
 induction k with
 |zero=>intro e h;obtain⟨_,_,_,_,l⟩:=e;rw[zdM]at h;omega
 |succ k s=>
 intro e t u;obtain⟨op,p,v,w,l⟩:=e;refine fn_x zmD rfl ?_;refine dcU zho.eq_1 ?_;have x:=hBig;rw[zdM]at t
 have o:l.length<=100000:=by
  have:∀l:List Ex,l.length<=zow l:=by
   intro l
   induction l with
   |nil=>rw[zow];simp
   |cons a l s=>
    rw[zow,List.length_cons];have:1<=zdM a:=by obtain⟨_,_,_,_,m⟩:=a;rw[zdM];omega
    omega
  have:=this l;omega
 generalize q:encX (.mk op p v w l)=E;rw[zgB]at q;subst q;refine Gw0 ?_;intros;refine zbL [] 0 _ (zGj l o) rfl rfl Gin1_0 Gin1_0 ?_;rintro _ _ _ ⟨rfl,rfl,rfl⟩;refine Gw1 @renX ?_;intros;refine zd (λi:Nat=>([(1,.ptr 0 0 0 0 0),(2,.ptr 1 0 0 0 0),(10,.int .i64 l.length),(11,.int .i64 i)],[(0,.row 5 [[.int .i64 op,.int .u32 p,.int .i64 v,.int .i64 w,.own 2 0 0 0 l.length]] 0),(1,.row 5 [[.int .i64 0,.int .u32 0,.int .i64 0,.int .i64 0,.nilsl]] 0),(2,.row 5 (l.map encX) 0)])) 3 (λi=>i<=l.length) (λi=>l.length-i) 0 (We _) (Xb [(0,0,0),(1,1,0),(2,2,0)] [] rfl Ql Ql) ?_;intro i y wf;refine dcU zfh.eq_1 ?_;by_cases n:i<l.length
 .have z:=zhk (Wf n);have g:(l.map encX).set i (encX l[i])=l.map encX:=by rw[<-List.getElem_map (f:=encX) (h:=by simpa using n)];exact List.set_getElem_self _
  refine Gw4 @dT (gmp n) @zbI @zaY ?_;intros;refine zC (zc (s l[i] (by omega) (by omega)) (flX rfl)) ?_;refine Gw3 (gmp n) @zbI g ?_;intros;exact⟨i+1,by omega,by omega,(Xb [(0,0,0),(1,1,0),(2,2,0)] [] rfl Ql Ql)⟩
 ·(refine Gw1 @dF ?_;intros);refine dcU zfb.eq_1 ?_;refine Gw1 @zg8.eq_1 ?_;intros;refine⟨.agg [.int .i64 op,.int .u32 p,.int .i64 v,.int .i64 w,encL 5 encX l],.agg _ _ _ rfl (λj a c b d=>?_),rfl⟩
  match j with
  |0=>cases b;cases d;exact .int _ _ _
  |1=>cases b;cases d;exact .int _ _ _
  |2=>cases b;cases d;exact .int _ _ _
  |3=>cases b;cases d;exact .int _ _ _
  |4=>cases b;cases d;exact zHM trivial rfl (by omega)
  |j+5=>cases b
def zN:List AV:=[.int .i64 0,.int .i64 0,.int .i64 0,.nilsl,.nilsl]
theorem zpz{n}{c}(h:zz c=true):zw (List.replicate n c):=λd hd=>by rw[List.eq_of_mem_replicate hd];exact h
theorem frzN{H}{r q g}{h e lb}{c}{l}(m:H.get r q=some (.row 5 (l.map encN) g))(k:l.length<=big):Frz H (.agg [.int .i64 h,.int .i64 e,.int .i64 lb,encL 5 encX c,.own r q g 0 l.length]) (.agg (encN (.mk ⟨h,e,lb⟩ c l))):=by
 rw[zaF];refine .agg _ _ _ rfl (λj a c b d=>?_)
 match j with
 |0=>cases b;cases d;exact .int _ _ _
 |1=>cases b;cases d;exact .int _ _ _
 |2=>cases b;cases d;exact .int _ _ _
 |3=>cases b;cases d;exact zV rfl
 |4=>cases b;cases d;exact zvC trivial m k
 |j+5=>cases b
theorem flA{e}:(AV.agg (encN e)).flat=true:=by have:=flN (r:=[]) rfl (e:=e);simpa using this
theorem frzA{H}{e}:Frz H (.agg (encN e)) (.agg (encN e)):=zV flA
theorem zqz:zn Z9 zeR [.nilsl] (·=.agg (encN (.mk seqF [] []))):=by
 refine fn_x zuY rfl ?_;refine dcU zqw.eq_1 ?_;have e:=hBig;refine Gw1 @zqO.eq_1 ?_;intros;refine⟨.agg (encN (.mk seqF [] [])),?_,rfl⟩;rw[zaF];refine .agg _ _ _ rfl (λj a c b d=>?_)
 match j with
 |0=>cases b;cases d;exact .int _ _ _
 |1=>cases b;cases d;exact .int _ _ _
 |2=>cases b;cases d;exact .int _ _ _
 |3=>cases b;cases d;exact zf1
 |4=>cases b;cases d;exact zf1
 |j+5=>cases b
theorem zrY:zn Z9 zZ [.nilsl] (·=.agg (encN (.mk seqF [] []))):=by
 refine fn_x zl1 rfl ?_;refine dcU zhw.eq_1 ?_;have e:=hBig;refine Gw1 @zhr.eq_1 ?_;intros;refine⟨.agg (encN (.mk seqF [] [])),?_,rfl⟩;rw[zaF];refine .agg _ _ _ rfl (λj a c b d=>?_)
 match j with
 |0=>cases b;cases d;exact .int _ _ _
 |1=>cases b;cases d;exact .int _ _ _
 |2=>cases b;cases d;exact .int _ _ _
 |3=>cases b;cases d;exact zf1
 |4=>cases b;cases d;exact zf1
 |j+5=>cases b
mutual
theorem zst:∀(e:Ex)(m n:Int),0<=zhc e m n->(zdM e:Int)+zhc e m n<=n
 |
  .mk op nn v w l,m,n,h=>by
  rw[zhc]at h⊢;split at h
  .omega
  .rename_i b;rw[if_neg b];have:=zrs l (m-1) (n-1) h;rw[zdM];omega
theorem zrs:∀(l:List Ex)(m n:Int),0<=zdh l m n->(zow l:Int)+zdh l m n<=n
 |
  [],m,n,h=>by
  rw[zdh,zow];omega
 |
  e::l,m,n,h=>by
  rw[zdh]at h⊢;split at h
  .omega
  .rename_i c;rw[if_neg c];have g:=zrs l m _ h;have b:0<=zhc e m n:=by apply Classical.byContradiction;intro j;have:=zt3 (l:=l) (m:=m) (n:=zhc e m n) (by omega);omega
   have d:=zst e m n b;rw[zow];omega
end
theorem ztd:∀{c:List Ex}{x:Ex},zjY c=true->x∈c->0<=zhc x 70 200
 |[],x,_,b=>by simp at b
 |
  a::c,x,h,b=>by
  rw[zjY]at h;split at h
  .cases h
  .rename_i d;rcases List.mem_cons.1 b with rfl|b
   .omega
   .exact ztd h b
def zvL(v:Int):Bool:=decide (0<=v/\v<65536)
def zwe(w:Int):Bool:=decide (w=1\/w=2\/w=4)
theorem zj1(v):zn Z9 zfK [.int .i64 v] (·=.bool (zvL v)):=by
 refine fn_x zuy rfl ?_;unfold zob zvL;(conv in Z8 _ _=>reduce);by_cases b:0<=v
 ·(refine Gw2 @dT @zj0.eq_1 ?_;intros);exact⟨_,.bool _ _,congrArg _ (decide_eq_decide.2 (by omega))⟩
 ·(refine Gw2 @dF @zj0.eq_1 ?_;intros);exact bzO
theorem zrx(v):zn Z9 ziV [.int .i64 v] (·=.bool (zvL v)):=by
 refine fn_x zw6 rfl ?_;unfold zrj zvL;(conv in Z8 _ _=>reduce);by_cases b:0<=v
 ·(refine Gw2 @dT @znb.eq_1 ?_;intros);exact⟨_,.bool _ _,congrArg _ (decide_eq_decide.2 (by omega))⟩
 ·(refine Gw2 @dF @znb.eq_1 ?_;intros);exact bzO
theorem zrp(w):zn Z9 ziW [.int .i64 w] (·=.bool (zwe w)):=by
 refine fn_x zyw rfl ?_;unfold zrI zwe;(conv in Z8 _ _=>reduce);by_cases b:w=1
 ·(refine Gw2 @dT @zji.eq_1 ?_;intros);exact bzO
 by_cases c:w=2
 ·(refine Gw3 @dF @dT @zji.eq_1 ?_;intros);exact bzO
 ·(refine Gw2 @dF @zji.eq_1 ?_;intros);exact⟨_,.bool _ _,congrArg _ (decide_eq_decide.2 (by omega))⟩
mutual
def ztw:Ex->Int->Bool
 |.mk _ _ _ _ l,m=>if m<1 then true else zpV l (m-1)
def zpV:List Ex->Int->Bool
 |[],_=>false
 |e::l,m=>ztw e m||zpV l m
end
theorem zu8:∀(l:List Ex)(m:Int),zpV l m=l.any (ztw · m)
 |[],m=>by rw[zpV];rfl
 |e::l,m=>by rw[zpV,zu8 l m];rfl
def zr(op n v w:Int)(k:Nat):Bool:=decide ((op=1/\v=0/\w=0/\k=0)\/(op=2/\n=0/\w=0/\k=0/\0<=v/\v<65536)\/((op=16\/op=17)/\n=0/\v=0/\w=0/\k=1)\/(op=18/\n=0/\v=0/\(w=1\/w=2\/w=4)/\k=1)\/(op=19/\n=0/\v=0/\(w=1\/w=2)/\k=1)\/(3<=op/\op<=15/\n=0/\v=0/\w=0/\k=2))
mutual
def zjb:Ex->Bool
 |.mk op n v w l=>zfc l&&zr op n v w l.length
def zfc:List Ex->Bool
 |[]=>true
 |e::l=>zjb e&&zfc l
end
theorem zeb:∀(l:List Ex),zfc l=l.all zjb
 |[]=>by rw[zfc];rfl
 |e::l=>by rw[zfc,zeb l];rfl
def znQ(e:Ex):Int:=if ztw e 64=true then 20 else if zjb e=true then 0 else 2
theorem Qf{p q:Prop}(k:q)(h:Im q p:=by(repeat first|simp(disch:=try exact dis1) only[evD,Nat.reduceBEq,Nat.reduceAdd,Nat.reduceLeDiff,fldP,dF]|((with_reducible apply Im.i);intro _)|((with_reducible apply Im.a);omega));exact Im.r):p:=h k
theorem zvK:∀(k:Nat)(e:Ex)(m:Int),zdM e<=k -> -1000<=m->m<=1000->zn Z9 zhf [.agg (encX e),.int .i64 m] (·=.bool (ztw e m)):=by
 intro k
 induction k with
 |zero=>intro e m h;obtain⟨_,_,_,_,l⟩:=e;rw[zdM]at h;omega
 |succ k p=>
 intro e m j n o;obtain⟨op,q,v,w,l⟩:=e;refine fn_x zwH rfl ?_;refine dcU zpO.eq_1 ?_;have s:=hBig;rw[zdM]at j;rw[zgB,ztw];by_cases d:m<1
 .rw[if_pos d];refine Gw3 @uf @dT @zie.eq_1 ?_;intros;exact bzO
 .rw[if_neg d];refine Qf ?_;intros;generalize g:zpV l (m-1)=R;refine zd (λi:Nat=>([(1,.int .i64 m),(2,encP 5 [.int .i64 op,.int .u32 q,.int .i64 v,.int .i64 w,encL 5 encX l]),(5,.int .i64 i)],[])) 0 (λi=>i<=l.length/\zpV (l.drop i) (m-1)=R) (λi=>l.length-i) 0 ⟨We _,g⟩ (Xa rfl fin5) ?_;rintro i ⟨t,b⟩ wf;refine dcU zlG.eq_1 ?_;by_cases c:i<l.length
  .have u:=zhk (Wf c);rw[Wi c,zpV]at b;refine Gw5 @uf @dT (gmp c) @zbI @zaY ?_;intros;refine ze (zc (p l[i] (m-1) (by omega) (by omega) (by omega)) (flX rfl)) ?_
   cases hd:ztw l[i] (m-1)with
   |true=>rw[hd,Bool.true_or]at b;subst b;refine Gw1 @zie.eq_1 ?_;intros;exact bzO
   |false=>rw[hd,Bool.false_or]at b;refine Gw0 ?_;intros;exact⟨i+1,⟨by omega,b⟩,by omega,Xa rfl fin5⟩
  .rw[Wj (by omega),zpV]at b;subst b;refine Qf ?_;intros;unfold zmb;refine Gw1 @zie.eq_1 ?_;intros;exact bzO
theorem Qe{p q:Prop}(k:q)(h:Im q p:=by(repeat first|simp(disch:=try exact dis1) only[evD,Nat.reduceBEq,Nat.reduceAdd,Nat.reduceLeDiff,dT,dF,fldP,zi]|((with_reducible apply Im.i);intro _)|((with_reducible apply Im.a);omega));exact Im.r):p:=h k
theorem zt5{op nn v w i}{l}(h:op=1):
  wpX Z9 0 zK (retK zi λc b x=>∃a,Frz b c a/\a=.bool (zr op nn v w l.length)) [(1,encP 5 [.int .i64 op,.int .u32 nn,.int .i64 v,.int .i64 w,encL 5 encX l]),(3,.int .i64 i),(8,.bool false)] [] 0:=by
 refine dcU zK.eq_1 ?_;have d:=hBig;refine Qe ?_;intros;by_cases e:v=0<;>(refine Qe ?_;intros)
 case neg=>unfold zr;exact bxO lb
 by_cases g:w=0<;>(refine Qe ?_;intros)
 case neg=>unfold zr;exact bxO lb
 unfold zr;exact bxO lb
theorem zsS{op nn v w i}{l}(h:op=2):
  wpX Z9 0 zK (retK zi λc b x=>∃a,Frz b c a/\a=.bool (zr op nn v w l.length)) [(1,encP 5 [.int .i64 op,.int .u32 nn,.int .i64 v,.int .i64 w,encL 5 encX l]),(3,.int .i64 i),(8,.bool false)] [] 0:=by
 refine dcU zK.eq_1 ?_;have d:=hBig;refine Qe ?_;intros;by_cases e:nn=0<;>(refine Qe ?_;intros)
 case neg=>unfold zr;exact bxO lb
 by_cases g:w=0<;>(refine Qe ?_;intros)
 case neg=>unfold zr;exact bxO lb
 by_cases j:l.length=0<;>(refine Qe ?_;intros)
 case neg=>unfold zr;exact bxO lb
 refine ze (zc (zrx v) rfl) ?_;unfold zvL;refine Qe ?_;intros;unfold zr;exact bxO lb
theorem zua{op nn v w i}{l}(h:op=16):
  wpX Z9 0 zK (retK zi λc b x=>∃a,Frz b c a/\a=.bool (zr op nn v w l.length)) [(1,encP 5 [.int .i64 op,.int .u32 nn,.int .i64 v,.int .i64 w,encL 5 encX l]),(3,.int .i64 i),(8,.bool false)] [] 0:=by
 refine dcU zK.eq_1 ?_;have d:=hBig;refine Qe ?_;intros;by_cases e:nn=0<;>(refine Qe ?_;intros)
 case neg=>unfold zr;exact bxO lb
 by_cases g:v=0<;>(refine Qe ?_;intros)
 case neg=>unfold zr;exact bxO lb
 by_cases j:w=0<;>(refine Qe ?_;intros)
 case neg=>unfold zr;exact bxO lb
 unfold zr;exact bxO lb
theorem zsm{op nn v w i}{l}(h:op=17):
  wpX Z9 0 zK (retK zi λc b x=>∃a,Frz b c a/\a=.bool (zr op nn v w l.length)) [(1,encP 5 [.int .i64 op,.int .u32 nn,.int .i64 v,.int .i64 w,encL 5 encX l]),(3,.int .i64 i),(8,.bool false)] [] 0:=by
 refine dcU zK.eq_1 ?_;have d:=hBig;refine Qe ?_;intros;by_cases e:nn=0<;>(refine Qe ?_;intros)
 case neg=>unfold zr;exact bxO lb
 by_cases g:v=0<;>(refine Qe ?_;intros)
 case neg=>unfold zr;exact bxO lb
 by_cases j:w=0<;>(refine Qe ?_;intros)
 case neg=>unfold zr;exact bxO lb
 unfold zr;exact bxO lb
theorem zss{op nn v w i}{l}(h:op=18):
  wpX Z9 0 zK (retK zi λc b x=>∃a,Frz b c a/\a=.bool (zr op nn v w l.length)) [(1,encP 5 [.int .i64 op,.int .u32 nn,.int .i64 v,.int .i64 w,encL 5 encX l]),(3,.int .i64 i),(8,.bool false)] [] 0:=by
 refine dcU zK.eq_1 ?_;have d:=hBig;refine Qe ?_;intros;by_cases e:nn=0<;>(refine Qe ?_;intros)
 case neg=>unfold zr;exact bxO lb
 by_cases g:v=0<;>(refine Qe ?_;intros)
 case neg=>unfold zr;exact bxO lb
 by_cases j:w=1;case pos=>refine Qe ?_;intros;unfold zr;exact bxO lb
 refine Qe ?_;intros;by_cases k:w=2;case pos=>refine Qe ?_;intros;unfold zr;exact bxO lb
 refine Qe ?_;intros;by_cases m:w=4;case pos=>refine Qe ?_;intros;unfold zr;exact bxO lb
 refine Qe ?_;intros;unfold zr;exact bxO lb
theorem zsU{op nn v w i}{l}(h:op=19):
  wpX Z9 0 zK (retK zi λc b x=>∃a,Frz b c a/\a=.bool (zr op nn v w l.length)) [(1,encP 5 [.int .i64 op,.int .u32 nn,.int .i64 v,.int .i64 w,encL 5 encX l]),(3,.int .i64 i),(8,.bool false)] [] 0:=by
 refine dcU zK.eq_1 ?_;have d:=hBig;refine Qe ?_;intros;by_cases e:nn=0<;>(refine Qe ?_;intros)
 case neg=>unfold zr;exact bxO lb
 by_cases g:v=0<;>(refine Qe ?_;intros)
 case neg=>unfold zr;exact bxO lb
 by_cases j:w=1;case pos=>refine Qe ?_;intros;unfold zr;exact bxO lb
 refine Qe ?_;intros;by_cases k:w=2;case pos=>refine Qe ?_;intros;unfold zr;exact bxO lb
 refine Qe ?_;intros;unfold zr;exact bxO lb
theorem zuh{op nn v w i}{l}(j:op≠1)(k:op≠2)(c:op≠16)(d:op≠17)(e:op≠18)(g:op≠19):
  wpX Z9 0 zK (retK zi λh b x=>∃a,Frz b h a/\a=.bool (zr op nn v w l.length)) [(1,encP 5 [.int .i64 op,.int .u32 nn,.int .i64 v,.int .i64 w,encL 5 encX l]),(3,.int .i64 i),(8,.bool false)] [] 0:=by
 refine dcU zK.eq_1 ?_;have m:=hBig;refine Qe ?_;intros;by_cases n:3<=op<;>(refine Qe ?_;intros)
 case neg=>unfold zr;exact bxO lb
 by_cases o:op<=15<;>(refine Qe ?_;intros)
 case neg=>unfold zr;exact bxO lb
 by_cases p:nn=0<;>(refine Qe ?_;intros)
 case neg=>unfold zr;exact bxO lb
 by_cases q:v=0<;>(refine Qe ?_;intros)
 case neg=>unfold zr;exact bxO lb
 by_cases s:w=0<;>(refine Qe ?_;intros)
 case neg=>unfold zr;exact bxO lb
 unfold zr;exact bxO lb
theorem ztg:∀(k:Nat)(e:Ex),zdM e<=k->zn Z9 zeF [.agg (encX e)] (·=.bool (zjb e)):=by
 intro k
 induction k with
 |zero=>intro e h;obtain⟨_,_,_,_,l⟩:=e;rw[zdM]at h;omega
 |succ k s=>
 intro e q;obtain⟨op,t,v,w,l⟩:=e;refine fn_x zsO rfl ?_;refine dcU zmB.eq_1 ?_;have u:=hBig;rw[zdM]at q;rw[zgB,zjb];generalize p:zfc l=R;refine Gw1 @uf ?_;intros;refine zd (λi:Nat=>([(1,encP 5 [.int .i64 op,.int .u32 t,.int .i64 v,.int .i64 w,encL 5 encX l]),(3,.int .i64 i)],[])) 0 (λi=>i<=l.length/\zfc (l.drop i)=R) (λi=>l.length-i) 0 ⟨We _,p⟩ (Xa rfl fin5) ?_;rintro i ⟨x,b⟩ wf;refine dcU zjp.eq_1 ?_;by_cases m:i<l.length
 .have y:=zhk (Wf m);rw[Wi m,zfc]at b;refine Gw5 @uf @dT (gmp m) @zbI @zaY ?_;intros;refine ze (zc (s l[i] (by omega)) (flX rfl)) ?_
  cases hd:zjb l[i]with
  |false=>rw[hd,Bool.false_and]at b;subst b;refine Gw1 @zi.eq_1 ?_;intros;exact bzO
  |true=>rw[hd,Bool.true_and]at b;refine Gw0 ?_;intros;exact⟨i+1,⟨by omega,b⟩,by omega,Xa rfl fin5⟩
 .rw[Wj (by omega),zfc]at b;subst b;refine Gw3 @uf @dF @Bool.true_and ?_;intros;by_cases n:op=1
  .exact zt5 n
  by_cases o:op=2
  .exact zsS o
  by_cases c:op=16
  .exact zua c
  by_cases d:op=17
  .exact zsm d
  by_cases g:op=18
  .exact zss g
  by_cases j:op=19
  .exact zsU j
  exact zuh n o c d g j
theorem zrJ(e):zn Z9 zfM [.agg (encX e)] (·=.int .i64 (znQ e)):=by
 refine fn_x zrP rfl ?_;unfold zlQ znQ;(conv in Z8 _ _=>reduce);have b:=hBig;refine Gw3 @zbI @zq @zaY ?_;intros;refine ze (zc (zvK (zdM e) e 64 (Wg _) (by omega) (by omega)) (flX rfl)) ?_
 cases ztw e 64 with
 |true=>refine Gw1 @ze5.eq_1 ?_;intros;exact izO
 |false=>
  refine Gw3 @zbI @zq @zaY ?_;intros;refine ze (zc (ztg (zdM e) e (Wg _)) (flX rfl)) ?_
  cases zjb e with
  |true=>refine Gw1 @ze5.eq_1 ?_;intros;exact izO
  |false=>refine Gw1 @ze5.eq_1 ?_;intros;exact izO
structure PredE(fv:AV)(l:List Ex)(p:Ex->Bool):Prop where
 ex:∃f caps,fv=.fn (.func f) caps/\zfd Z9 f=true/\zz caps=true/\∀s∈l,zn Z9 f ([.agg (encX s)]++caps) (·=.bool (p s))
theorem zd1:∀{l:List AV},zz l=true->l.all AV.flat=true
 |[],_=>rfl
 |
  a::l,h=>by
  simp only[zz,Wh]at h;simp only[List.all_cons,Wh];refine⟨?_,zd1 h.2⟩;cases a<;>first|rfl|exact absurd h.1 (by simp[AV.flat0])
theorem zAz{fv}{l}{p}(h:PredE fv l p){s}(j:s∈l){H}{nx}{k}(g:k (.bool (p s)) H nx):zop Z9 fv [.agg (encX s)] H nx k:=by obtain⟨f,b,rfl,d,c,m⟩:=h.ex;rw[ziU];refine⟨d,ze (zc (m s j) ?_) g⟩;simp only[List.cons_append,List.nil_append,List.all_cons,Wh];exact⟨by have:=flX (r:=[]) rfl (e:=s);simpa using this,zd1 c⟩
theorem zgM{fv}{l}{p}(h:PredE fv l p){H H2}{σ}{D}{t}:Vw H H2 σ D t fv fv:=by
 obtain⟨f,c,rfl,j,g,k⟩:=h.ex;refine .fn _ _ _ _ rfl λi a b d e=>?_
 rw[d]at e;cases e;exact zl (zbN g d)
def idxI(o:Option Nat):Int:=match o with|some i=>(i:Int)|none=> -1
theorem znw(l)(fv)(p)(n:PredE fv l p):zn Z9 zak [encL 5 encX l,fv] (·=.int .i64 (idxI (l.findIdx? p))):=by
 refine fn_x zeu rfl ?_;refine dcU zbS.eq_1 ?_;have q:=hBig;refine Gw0 ?_;intros;refine zd (λi:Nat=>([(0,encL 5 encX l),(1,fv),(7,.int .i64 l.length),(8,.int .i64 i)],[])) 0 (λi=>i<=l.length/\∀j (h:j<l.length),j<i->p l[j]=false) (λi=>l.length-i) 0 ⟨We _,λj _ h=>by omega⟩ (Xa rfl fin5) ?_;intro i ⟨s,c⟩ wf;refine dcU zbn.eq_1 ?_;refine Gw0 ?_;intros;(refine zf (λh=>?_) (λh=>?_))<;>(try simp only[dcd]at h)
 .have b:i<l.length:=by omega
  refine Gw3 (gmp b) @zbI @zaY ?_;intros;refine zAz n (Wf b) ?_;refine Gw0 ?_;intros;(refine zf (λg=>?_) (λg=>?_))<;>(try simp only[dcd]at g)
  ·(refine Gw1 @zaJ.eq_1 ?_;intros);have e:l.findIdx? p=some i:=by rw[Wk];exact⟨b,g,λj d=>by rw[c j (by omega) d];simp⟩
   rw[e];exact izO
  ·(refine Gw0 ?_;intros);refine⟨i+1,⟨by omega,λj d m=>?_⟩,by omega,Xa rfl fin5⟩;by_cases k:j=i
   .subst k;simpa using g
   .exact c j d (by omega)
 .unfold zbl;refine Gw1 @zaJ.eq_1 ?_;intros;have e:l.findIdx? p=none:=by rw[Wl];intro x o;obtain⟨j,d,rfl⟩:=List.mem_iff_getElem.1 o;exact c j d (by omega)
  rw[e];exact izO
theorem zH5{l:List Ex}{p:Ex->Bool}:decide (idxI (l.findIdx? p) >= 0)=l.any p:=by
 cases h:l.findIdx? p with
 |none=>have:=Wl.1 h;rw[decide_eq_false (by simp[idxI])];symm;rw[List.any_eq_false];intro x d;rw[this x d];simp
 |some i=>obtain⟨b,c,_⟩:=Wk.1 h;rw[decide_eq_true (by simp[idxI])];exact(zyS b c).symm
theorem zU(l)(fv)(p)(b:PredE fv l p):zn Z9 zR [encL 5 encX l,fv] (·=.bool (l.any p)):=by refine fn_x zdO rfl ?_;refine dcU zbq.eq_1 ?_;refine Gw0 ?_;intros;refine ze (zaW (D:=noR) (znw l fv p b) (.cons (zV rfl) (.cons (zgM b) .nil)) (.inl rfl)) ?_;refine Gw1 @zbo.eq_1 ?_;intros;refine⟨_,.bool _ _,?_⟩;rw[<-zH5]
theorem ua:type_of% @encP.eq_1:=@encP.eq_1
theorem zvP:∀(k:Nat)(e:Ex)(m:Int),zdM e<=k -> -1000<=m->m<=1000->zn Z9 zhn [.agg (encX e),.int .i64 m] (·=.bool (!ztw e m)):=by
 intro k
 induction k with
 |zero=>intro e m h;obtain⟨_,_,_,_,l⟩:=e;rw[zdM]at h;omega
 |succ k o=>
 intro e m d g j;obtain⟨op,t,v,w,l⟩:=e;refine fn_x zwy rfl ?_;unfold zpR;have p:=hBig;rw[zdM]at d;rw[zgB,ztw];by_cases b:m<1
 .rw[if_pos b];refine Gw4 @uf @dF @ua @zlb.eq_1 ?_;intros;exact bzO
 .rw[if_neg b,zu8];have c:PredE (.fn (.func zgS) [encP 1 [.int .i64 m]]) l (ztw · (m-1)):=by refine⟨_,_,rfl,by kernel_rfl,rfl,λs n=>?_⟩;have q:=zhk n;refine fn_x zsp rfl ?_;refine dcU zm7.eq_1 ?_;refine Gw4 @zbI @zq @zaY @ua ?_;intros;refine ze (zc (o s (m-1) (by omega) (by omega) (by omega)) (flX rfl)) ?_;refine Gw1 @zmT.eq_1 ?_;intros;exact bzO
  refine Gw3 @uf @dT @ua ?_;intros;refine ze (zaW (D:=noR) (zU l _ _ c) (.cons (zV rfl) (.cons (zgM c) .nil)) (.inl rfl)) ?_;refine Gw1 @zlb.eq_1 ?_;intros;exact bzO
theorem Qd{p q:Prop}(k:q)(h:Im q p:=by(repeat first|simp(disch:=try exact dis1) only[evD,Nat.reduceBEq,Nat.reduceAdd,Nat.reduceLeDiff,dT,dF,fldP,zq,zo]|((with_reducible apply Im.i);intro _)|((with_reducible apply Im.a);omega));exact Im.r):p:=h k
theorem zw0{op b v w}{l}(h:op=1)(c:PredE (.fn (.func zao) []) l (λx=> !zjb x)):zn Z9 zaL [.agg [.int .i64 op,.int .u32 b,.int .i64 v,.int .i64 w,encL 5 encX l]] (·=.bool (zfc l&&zr op b v w l.length)):=by
 refine fn_x zbA rfl ?_;unfold za9;have d:=hBig;refine Qd ?_;intros;by_cases e:v=0<;>(refine Qd ?_;intros)
 case neg=>exact bxO (by rw[show zr op b v w l.length=false from by unfold zr;exact dF (by omega),Wa])
 by_cases g:w=0<;>(refine Qd ?_;intros)
 case neg=>exact bxO (by rw[show zr op b v w l.length=false from by unfold zr;exact dF (by omega),Wa])
 by_cases j:l.length=0<;>(refine Qd ?_;intros)
 case neg=>exact bxO (by rw[show zr op b v w l.length=false from by unfold zr;exact dF (by omega),Wa])
 refine ze (zaW (D:=noR) (zU l _ _ c) (.cons (zV rfl) (.cons (zgM c) .nil)) (.inl rfl)) ?_;refine Qd ?_;intros;exact bxO (by rw[show zr op b v w l.length=true from by unfold zr;exact dT (by omega),Wc,zeb,Wd])
theorem zyM{op b v w}{l}(h:op=2)(c:PredE (.fn (.func zao) []) l (λx=> !zjb x)):zn Z9 zaL [.agg [.int .i64 op,.int .u32 b,.int .i64 v,.int .i64 w,encL 5 encX l]] (·=.bool (zfc l&&zr op b v w l.length)):=by
 refine fn_x zbA rfl ?_;unfold za9;have d:=hBig;refine Qd ?_;intros;refine ze (zc (zj1 v) rfl) ?_;unfold zvL;by_cases e:0<=v/\v<65536<;>(refine Qd ?_;intros)
 case neg=>exact bxO (by rw[show zr op b v w l.length=false from by unfold zr;exact dF (by omega),Wa])
 by_cases g:b=0<;>(refine Qd ?_;intros)
 case neg=>exact bxO (by rw[show zr op b v w l.length=false from by unfold zr;exact dF (by omega),Wa])
 by_cases j:w=0<;>(refine Qd ?_;intros)
 case neg=>exact bxO (by rw[show zr op b v w l.length=false from by unfold zr;exact dF (by omega),Wa])
 by_cases k:l.length=0<;>(refine Qd ?_;intros)
 case neg=>exact bxO (by rw[show zr op b v w l.length=false from by unfold zr;exact dF (by omega),Wa])
 refine ze (zaW (D:=noR) (zU l _ _ c) (.cons (zV rfl) (.cons (zgM c) .nil)) (.inl rfl)) ?_;refine Qd ?_;intros;exact bxO (by rw[show zr op b v w l.length=true from by unfold zr;exact dT (by omega),Wc,zeb,Wd])
theorem zyo{op b v w}{l}(h:3<=op)(d:op<=15)(c:PredE (.fn (.func zao) []) l (λx=> !zjb x)):zn Z9 zaL [.agg [.int .i64 op,.int .u32 b,.int .i64 v,.int .i64 w,encL 5 encX l]] (·=.bool (zfc l&&zr op b v w l.length)):=by
 refine fn_x zbA rfl ?_;unfold za9;have e:=hBig;refine Qd ?_;intros;by_cases g:b=0<;>(refine Qd ?_;intros)
 case neg=>exact bxO (by rw[show zr op b v w l.length=false from by unfold zr;exact dF (by omega),Wa])
 by_cases j:v=0<;>(refine Qd ?_;intros)
 case neg=>exact bxO (by rw[show zr op b v w l.length=false from by unfold zr;exact dF (by omega),Wa])
 by_cases k:w=0<;>(refine Qd ?_;intros)
 case neg=>exact bxO (by rw[show zr op b v w l.length=false from by unfold zr;exact dF (by omega),Wa])
 by_cases m:l.length=2<;>(refine Qd ?_;intros)
 case neg=>exact bxO (by rw[show zr op b v w l.length=false from by unfold zr;exact dF (by omega),Wa])
 refine ze (zaW (D:=noR) (zU l _ _ c) (.cons (zV rfl) (.cons (zgM c) .nil)) (.inl rfl)) ?_;refine Qd ?_;intros;exact bxO (by rw[show zr op b v w l.length=true from by unfold zr;exact dT (by omega),Wc,zeb,Wd])
theorem zwE{op b v w}{l}(h:op=16)(c:PredE (.fn (.func zao) []) l (λx=> !zjb x)):zn Z9 zaL [.agg [.int .i64 op,.int .u32 b,.int .i64 v,.int .i64 w,encL 5 encX l]] (·=.bool (zfc l&&zr op b v w l.length)):=by
 refine fn_x zbA rfl ?_;unfold za9;have d:=hBig;refine Qd ?_;intros;by_cases e:b=0<;>(refine Qd ?_;intros)
 case neg=>exact bxO (by rw[show zr op b v w l.length=false from by unfold zr;exact dF (by omega),Wa])
 by_cases g:v=0<;>(refine Qd ?_;intros)
 case neg=>exact bxO (by rw[show zr op b v w l.length=false from by unfold zr;exact dF (by omega),Wa])
 by_cases j:w=0<;>(refine Qd ?_;intros)
 case neg=>exact bxO (by rw[show zr op b v w l.length=false from by unfold zr;exact dF (by omega),Wa])
 by_cases k:l.length=1<;>(refine Qd ?_;intros)
 case neg=>exact bxO (by rw[show zr op b v w l.length=false from by unfold zr;exact dF (by omega),Wa])
 refine ze (zaW (D:=noR) (zU l _ _ c) (.cons (zV rfl) (.cons (zgM c) .nil)) (.inl rfl)) ?_;refine Qd ?_;intros;exact bxO (by rw[show zr op b v w l.length=true from by unfold zr;exact dT (by omega),Wc,zeb,Wd])
theorem zwS{op b v w}{l}(h:op=17)(c:PredE (.fn (.func zao) []) l (λx=> !zjb x)):zn Z9 zaL [.agg [.int .i64 op,.int .u32 b,.int .i64 v,.int .i64 w,encL 5 encX l]] (·=.bool (zfc l&&zr op b v w l.length)):=by
 refine fn_x zbA rfl ?_;unfold za9;have d:=hBig;refine Qd ?_;intros;by_cases e:b=0<;>(refine Qd ?_;intros)
 case neg=>exact bxO (by rw[show zr op b v w l.length=false from by unfold zr;exact dF (by omega),Wa])
 by_cases g:v=0<;>(refine Qd ?_;intros)
 case neg=>exact bxO (by rw[show zr op b v w l.length=false from by unfold zr;exact dF (by omega),Wa])
 by_cases j:w=0<;>(refine Qd ?_;intros)
 case neg=>exact bxO (by rw[show zr op b v w l.length=false from by unfold zr;exact dF (by omega),Wa])
 by_cases k:l.length=1<;>(refine Qd ?_;intros)
 case neg=>exact bxO (by rw[show zr op b v w l.length=false from by unfold zr;exact dF (by omega),Wa])
 refine ze (zaW (D:=noR) (zU l _ _ c) (.cons (zV rfl) (.cons (zgM c) .nil)) (.inl rfl)) ?_;refine Qd ?_;intros;exact bxO (by rw[show zr op b v w l.length=true from by unfold zr;exact dT (by omega),Wc,zeb,Wd])
theorem zvX{op b v w}{l}(h:op=18)(c:PredE (.fn (.func zao) []) l (λx=> !zjb x)):zn Z9 zaL [.agg [.int .i64 op,.int .u32 b,.int .i64 v,.int .i64 w,encL 5 encX l]] (·=.bool (zfc l&&zr op b v w l.length)):=by
 refine fn_x zbA rfl ?_;unfold za9;have d:=hBig;refine Qd ?_;intros;refine ze (zc (zrp w) rfl) ?_;unfold zwe;by_cases e:w=1\/w=2\/w=4<;>(refine Qd ?_;intros)
 case neg=>exact bxO (by rw[show zr op b v w l.length=false from by unfold zr;exact dF (by omega),Wa])
 by_cases g:b=0<;>(refine Qd ?_;intros)
 case neg=>exact bxO (by rw[show zr op b v w l.length=false from by unfold zr;exact dF (by omega),Wa])
 by_cases j:v=0<;>(refine Qd ?_;intros)
 case neg=>exact bxO (by rw[show zr op b v w l.length=false from by unfold zr;exact dF (by omega),Wa])
 by_cases k:l.length=1<;>(refine Qd ?_;intros)
 case neg=>exact bxO (by rw[show zr op b v w l.length=false from by unfold zr;exact dF (by omega),Wa])
 refine ze (zaW (D:=noR) (zU l _ _ c) (.cons (zV rfl) (.cons (zgM c) .nil)) (.inl rfl)) ?_;refine Qd ?_;intros;exact bxO (by rw[show zr op b v w l.length=true from by unfold zr;exact dT (by omega),Wc,zeb,Wd])
theorem zuF{op b v w}{l}(h:op=19)(e:w=1)(c:PredE (.fn (.func zao) []) l (λx=> !zjb x)):zn Z9 zaL [.agg [.int .i64 op,.int .u32 b,.int .i64 v,.int .i64 w,encL 5 encX l]] (·=.bool (zfc l&&zr op b v w l.length)):=by
 refine fn_x zbA rfl ?_;unfold za9;have d:=hBig;refine Qd ?_;intros;by_cases g:b=0<;>(refine Qd ?_;intros)
 case neg=>exact bxO (by rw[show zr op b v w l.length=false from by unfold zr;exact dF (by omega),Wa])
 by_cases j:v=0<;>(refine Qd ?_;intros)
 case neg=>exact bxO (by rw[show zr op b v w l.length=false from by unfold zr;exact dF (by omega),Wa])
 by_cases k:l.length=1<;>(refine Qd ?_;intros)
 case neg=>exact bxO (by rw[show zr op b v w l.length=false from by unfold zr;exact dF (by omega),Wa])
 refine ze (zaW (D:=noR) (zU l _ _ c) (.cons (zV rfl) (.cons (zgM c) .nil)) (.inl rfl)) ?_;refine Qd ?_;intros;exact bxO (by rw[show zr op b v w l.length=true from by unfold zr;exact dT (by omega),Wc,zeb,Wd])
theorem zuq{op b v w}{l}(h:op=19)(e:w=2)(c:PredE (.fn (.func zao) []) l (λx=> !zjb x)):zn Z9 zaL [.agg [.int .i64 op,.int .u32 b,.int .i64 v,.int .i64 w,encL 5 encX l]] (·=.bool (zfc l&&zr op b v w l.length)):=by
 refine fn_x zbA rfl ?_;unfold za9;have d:=hBig;refine Qd ?_;intros;by_cases g:b=0<;>(refine Qd ?_;intros)
 case neg=>exact bxO (by rw[show zr op b v w l.length=false from by unfold zr;exact dF (by omega),Wa])
 by_cases j:v=0<;>(refine Qd ?_;intros)
 case neg=>exact bxO (by rw[show zr op b v w l.length=false from by unfold zr;exact dF (by omega),Wa])
 by_cases k:l.length=1<;>(refine Qd ?_;intros)
 case neg=>exact bxO (by rw[show zr op b v w l.length=false from by unfold zr;exact dF (by omega),Wa])
 refine ze (zaW (D:=noR) (zU l _ _ c) (.cons (zV rfl) (.cons (zgM c) .nil)) (.inl rfl)) ?_;refine Qd ?_;intros;exact bxO (by rw[show zr op b v w l.length=true from by unfold zr;exact dT (by omega),Wc,zeb,Wd])
theorem zuv{op nn v w}{l}(h:op=19)(b:w≠1)(c:w≠2)(e:PredE (.fn (.func zao) []) l (λx=> !zjb x)):zn Z9 zaL [.agg [.int .i64 op,.int .u32 nn,.int .i64 v,.int .i64 w,encL 5 encX l]] (·=.bool (zfc l&&zr op nn v w l.length)):=by refine fn_x zbA rfl ?_;unfold za9;have d:=hBig;refine Qd ?_;intros;exact bxO (by rw[show zr op nn v w l.length=false from by unfold zr;exact dF (by omega),Wa])
theorem zy7{op nn v w}{l}(b:op<1)(d:PredE (.fn (.func zao) []) l (λx=> !zjb x)):zn Z9 zaL [.agg [.int .i64 op,.int .u32 nn,.int .i64 v,.int .i64 w,encL 5 encX l]] (·=.bool (zfc l&&zr op nn v w l.length)):=by refine fn_x zbA rfl ?_;unfold za9;have c:=hBig;refine Qd ?_;intros;exact bxO (by rw[show zr op nn v w l.length=false from by unfold zr;exact dF (by omega),Wa])
theorem zy8{op nn v w}{l}(b:19<op)(d:PredE (.fn (.func zao) []) l (λx=> !zjb x)):zn Z9 zaL [.agg [.int .i64 op,.int .u32 nn,.int .i64 v,.int .i64 w,encL 5 encX l]] (·=.bool (zfc l&&zr op nn v w l.length)):=by refine fn_x zbA rfl ?_;unfold za9;have c:=hBig;refine Qd ?_;intros;exact bxO (by rw[show zr op nn v w l.length=false from by unfold zr;exact dF (by omega),Wa])
theorem zwW:∀(k:Nat)(e:Ex),zdM e<=k->zn Z9 zaL [.agg (encX e)] (·=.bool (zjb e)):=by
 intro k
 induction k with
 |zero=>intro e h;obtain⟨_,_,_,_,l⟩:=e;rw[zdM]at h;omega
 |succ k z=>
 intro e u;obtain⟨op,C,v,w,l⟩:=e;rw[zdM]at u;rw[zgB,zjb];have b:PredE (.fn (.func zao) []) l (λx=> !zjb x):=by refine⟨_,_,rfl,by kernel_rfl,rfl,λs y=>?_⟩;have B:=zhk y;refine fn_x zul rfl ?_;refine dcU zoa.eq_1 ?_;have A:=hBig;refine Gw4 @zbI @zq @zaY @ua ?_;intros;refine ze (zc (z s (by omega)) (flX rfl)) ?_;refine Gw1 @zoq.eq_1 ?_;intros;exact bzO
 by_cases q:op=1
 .exact zw0 q b
 by_cases t:op=2
 .exact zyM t b
 by_cases m:3<=op/\op<=15
 .exact zyo m.1 m.2 b
 by_cases d:op=16
 .exact zwE d b
 by_cases g:op=17
 .exact zwS g b
 by_cases j:op=18
 .exact zvX j b
 by_cases c:op=19
 .by_cases n:w=1
  .exact zuF c n b
  by_cases o:w=2
  .exact zuq c o b
  exact zuv c n o b
 by_cases p:op<1
 .exact zy7 p b
 exact zy8 (by omega) b
theorem ztp(e):zn Z9 zgO [.agg (encX e)] (·=.int .i64 (znQ e)):=by
 refine fn_x zs1 rfl ?_;unfold zmL znQ;(conv in Z8 _ _=>reduce);have b:=hBig;refine Gw3 @zbI @zq @zaY ?_;intros;refine ze (zc (zvP (zdM e) e 64 (Wg _) (by omega) (by omega)) (flX rfl)) ?_
 cases ztw e 64 with
 |true=>refine Gw1 @zfW.eq_1 ?_;intros;exact izO
 |false=>
  refine Gw3 @zbI @zq @zaY ?_;intros;refine ze (zc (zwW (zdM e) e (Wg _)) (flX rfl)) ?_
  cases zjb e with
  |true=>refine Gw1 @zfW.eq_1 ?_;intros;exact izO
  |false=>refine Gw1 @zfW.eq_1 ?_;intros;exact izO
end Go.Ab
