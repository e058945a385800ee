/-
  Part 9 of the proof: how the calls of this program run, over values instead of memory, and what each function computes.
-/
import Derived.Test.YtihlaappclhhaaaGreatJh
set_option maxRecDepth 100000
set_option linter.unusedVariables false
set_option linter.unusedSimpArgs false
set_option linter.unnecessarySimpa false
set_option linter.unusedSectionVars false
open Go.DataW renaming trod->Xa,trod_struct->Xd
open Go.Ab.Ent renaming keep->Xb
open Go.Proofs.Tryz renaming underlying3->Xc,underlying24->Xe,underlying48->Xf
open Go.Proofs.Tryz renaming prog->Z9
open Bool renaming and_false→Wa,and_true→Wc,and_eq_true→Wn
open List renaming all_eq_not_any_not→Wd,getD_eq_getElem?_getD→Wf,drop_of_length_le→Wg,getElem?_eq_getElem→Wh,drop_eq_getElem_cons→Wk,getElem_mem→Wl,all_cons→Wm,take_add_one→Wo,findIdx?_eq_some_iff_getElem→Wp,findIdx?_eq_none_iff→Wq
open Nat renaming zero_le→We,le_refl→Wi
open And renaming intro→Wj
open Array renaming getElem?_eq_none→Wr,getElem?_toList→Ws
namespace Go.Ab
end Go.Ab
namespace Go.Ab
open Go.RowKit Go.Proofs
theorem fldP{off n m}{c}{H}{b}:zfc off n (encP m c) H b=⟨off+n<=m,True,.iptr n (λj=>c.getD (off+j) .undef),H,b⟩:=rfl
theorem zC{n m}{c}{H}{b}:zgx true n (encP m c) H b=⟨n<=m,(AV.agg (tab (λj=>c.getD j .undef) n 0)).wf,.agg (tab (λj=>c.getD j .undef) n 0),H,b⟩:=rfl
theorem zam:∀{e:Ex},(encX e).length=5
 |.mk _ _ _ _ _=>by rw[zdh];rfl
theorem zab:∀{e:Ex},[(encX e).getD 0 .undef,(encX e).getD 1 .undef,(encX e).getD 2 .undef,(encX e).getD 3 .undef,(encX e).getD 4 .undef]=encX e
 |.mk _ _ _ _ _=>by rw[zdh];rfl
theorem zu:∀{e:Ex},zR (encX e)=true
 |.mk _ _ _ _ _=>by rw[zdh];rfl
theorem zc5:∀{e:Nd},zR (encN e)=true
 |.mk _ _ _=>by rw[zLH];rfl
theorem flX{r}(h:r.all AV.flat=true):∀{e:Ex},(AV.agg (encX e)::r).all AV.flat=true
 |.mk _ _ _ _ _=>by rw[zdh,Wm,h];rfl
mutual
def zbn:Ex->Nat
 |.mk _ _ _ _ l=>1+zZ l
def zZ:List Ex->Nat
 |[]=>0
 |e::l=>zbn e+zZ l
end
theorem zd7:∀{l:List Ex}{y:Ex},y∈l->zbn y<=zZ l
 |[],y,b=>by simp at b
 |
  a::l,y,b=>by
  rw[zZ];rcases List.mem_cons.1 b with rfl|b
  .omega
  .have:=zd7 b;omega
mutual
theorem zlK:∀(e:Ex)(m n:Int),-1<=n -> -1<=zij e m n/\(zij e m n<=n)
 |
  .mk _ _ _ _ l,m,n,h=>by
  rw[zij];split
  .omega
  .rename_i b;have:=zr6 l (m-1) (n-1) (by omega);omega
theorem zr6:∀(l:List Ex)(m n:Int),-1<=n -> -1<=zey l m n/\zey l m n<=n
 |[],m,n,h=>by rw[zey];omega
 |
  e::l,m,n,h=>by
  rw[zey];split
  .omega
  .have b:=zlK e m n h;have:=zr6 l m _ b.1;omega
end
theorem zBY{l:List Ex}{i:Nat}{m n:Int}(h:i<l.length)(b:0<=n):zey (l.drop i) m n=zey (l.drop (i+1)) m (zij l[i] m n):=by rw[Wk h,zey,if_neg (by omega)]
theorem zw6{l}{m n}(b:n<0):zey l m n=n:=by
 cases l with
 |nil=>rw[zey]
 |cons a l=>rw[zey,if_pos b]
theorem Qa{p q:Prop}(k:q)(h:Im q p:=by(repeat first|simp(disch:=try exact dis1) only[evD,Nat.reduceBEq,Nat.reduceAdd,Nat.reduceLeDiff,dF]|((with_reducible apply Im.i);intro _)|((with_reducible apply Im.a);omega));exact Im.r):p:=h k
theorem ub:type_of% @fldP:=@fldP
theorem zBz:∀(k:Nat)(e:Ex)(m n:Int),zbn e<=k -> -1000<=m->m<=1000 -> -1<=n->n<=1000->zw Z9 znO [.agg (encX e),.int .i64 m,.int .i64 n] (·=.int .i64 (zij e m n)):=by
 intro k
 induction k with
 |zero=>intro e m n h;obtain⟨_,_,_,_,l⟩:=e;rw[zbn]at h;omega
 |succ k F=>
 intro e m n C H I y J;obtain⟨op,o,v,w,l⟩:=e;refine fn_x zBR rfl ?_;refine dcU ztW.eq_1 ?_;have K:=hBig;rw[zbn]at C;have d:=zlK (.mk op o v w l) m n y;rw[zij]at d⊢;generalize p:encX (.mk op o v w l)=E;rw[zdh]at p;subst p;by_cases q:m<1
 .rw[if_pos (.inl q)];refine Gw2 @dT @zg6.eq_1 ?_;intros;exact izO
 by_cases t:n<1
 .rw[if_pos (.inr (.inl t))];refine Gw3 @dT @dF @zg6.eq_1 ?_;intros;exact izO
 by_cases u:4<l.length
 .rw[if_pos (.inr (.inr u))];refine Gw3 @dT @dF @zg6.eq_1 ?_;intros;exact izO
 rw[if_neg (by omega)]at d⊢;refine Qa ?_;intros;generalize A:zey l (m-1) (n-1)=R at d⊢;refine zc (λs:Nat×Int=>([(1,.int .i64 m),(3,encP 5 [.int .i64 op,.int .u32 o,.int .i64 v,.int .i64 w,encL 5 encX l]),(7,.int .i64 s.2),(8,.int .i64 s.1)],[])) 0 (λs=>s.1<=l.length /\ -1<=s.2/\s.2<=n/\zey (l.drop s.1) (m-1) s.2=R) (λs=>l.length-s.1) (0,n-1) ⟨We _,by simp only;omega,by simp only;omega,A⟩ (Xb rfl fin5) ?_;rintro⟨i,x⟩ ⟨B,c,j,b⟩ wf;simp only at B c j b;refine dcU zpg.eq_1 ?_;by_cases g:i<l.length
 .by_cases D:0<=x
  .rw[zBY g D]at b;have L:=zd7 (Wl g);have M:=zlK l[i] (m-1) x c;refine Gw6 @ub @dT @dF (gmp g) @zam @zab ?_;intros;refine zg (ze (F l[i] (m-1) x (by omega) (by omega) (by omega) (by omega) (by omega)) (flX rfl)) ?_;refine Gw0 ?_;intros;exact⟨(i+1,zij l[i] (m-1) x),⟨by simp only;omega,by simp only;omega,by simp only;omega,b⟩,by simp only;omega,Xb rfl fin5⟩
  .rw[zw6 (by omega)]at b;subst b;refine Gw3 @ub @dT @dF ?_;intros;unfold zkU;refine Gw1 @zg6.eq_1 ?_;intros;exact izO
 .rw[Wg (by omega),zey]at b;subst b;refine Gw3 @ub @dT @dF ?_;intros;unfold zkU;refine Gw1 @zg6.eq_1 ?_;intros;exact izO
theorem zF0{l}{H}:zec 1 (encL 1 (λn=>[.int .i64 n]) l) H=some (l.map cI):=zfD (λ_ _=>rfl)
theorem zKi{H H2}{σ}{D}{t}:∀(e:Ex)(j:Nat),j<5->Vw H H2 σ D t ((encX e).getD j .undef) ((encX e).getD j .undef)
 |
  .mk _ _ _ _ _,j,hj=>by
  rw[zdh]
  match j,hj with
  |0,_=>exact .int _ _ _
  |1,_=>exact .int _ _ _
  |2,_=>exact .int _ _ _
  |3,_=>exact .int _ _ _
  |4,_=>exact .sl _ _ _ _
theorem zJ3{H H2}{σ}{D}{t}{r q g}{l}(b:D r q)(d:H.get r q=some (.row 5 (l.map encX) g))(c:l.length<=big):Vw H H2 σ D t (.own r q g 0 l.length) (encL 5 encX l) :=
 zhg b d c λa _ j e=>zKi a j e
def fm(p:NdF->List Int)(l:List Nd):List Int:=l.flatMap λx=>p x.f
def zsq(A:List (List Int)):AV:=encL 1 (λr=>[za r]) A
theorem zpP{α:Type}{A B:List α}{i:Nat}(h:A.take i=B.take i)(b:i<A.length)(c:i<B.length)(d:A[i]=B[i]):A.take (i+1)=B.take (i+1):=by rw[Wo,Wo,h,Wh b,Wh c,d]
theorem vw_LL{H H2}{σ}{D}{t}{r q g}{l}(b:D r q)(d:H.get r q=some (.row 1 (l.map λr=>[za r]) g))(c:l.length<=big):
  Vw H H2 σ D t (.own r q g 0 l.length) (zsq l):=by
 refine zhg b d c (λa _ j e=>?_);obtain rfl:j=0:=by omega
 exact .sl _ _ _ _
theorem renX{ρ:Nat->Nat}{l:List Ex}{g:Nat}:AObj.ren ρ (.row 5 (l.map encX) g)=.row 5 (l.map encX) g:=by simp only[AObj.ren];rw[zgm (zK λ_=>zu)]
theorem zsm{n}{c}(h:zR c=true):zA (List.replicate n c):=λd hd=>by rw[List.eq_of_mem_replicate hd];exact h
mutual
theorem zvm:∀(e:Ex)(m n:Int),0<=zij e m n->(zbn e:Int)+zij e m n<=n
 |
  .mk op nn v w l,m,n,h=>by
  rw[zij]at h⊢;split at h
  .omega
  .rename_i b;rw[if_neg b];have:=zub l (m-1) (n-1) h;rw[zbn];omega
theorem zub:∀(l:List Ex)(m n:Int),0<=zey l m n->(zZ l:Int)+zey l m n<=n
 |
  [],m,n,h=>by
  rw[zey,zZ];omega
 |
  e::l,m,n,h=>by
  rw[zey]at h⊢;split at h
  .omega
  .rename_i c;rw[if_neg c];have g:=zub l m _ h;have b:0<=zij e m n:=by apply Classical.byContradiction;intro j;have:=zw6 (l:=l) (m:=m) (n:=zij e m n) (by omega);omega
   have d:=zvm e m n b;rw[zZ];omega
end
def zy6(v:Int):Bool:=decide (0<=v/\v<65536)
def zzr(w:Int):Bool:=decide (w=1\/w=2\/w=4)
theorem zmn(v):zw Z9 zkb [.int .i64 v] (·=.bool (zy6 v)):=by
 refine fn_x zxG rfl ?_;unfold zqW zy6;conv in Z8 _ _=>reduce
 by_cases b:0<=v
 ·(refine Gw2 @dT @zml.eq_1 ?_;intros);exact⟨_,.bool _ _,congrArg _ (decide_eq_decide.2 (by omega))⟩
 ·(refine Gw2 @dF @zml.eq_1 ?_;intros);exact bzO
theorem zue(v):zw Z9 znW [.int .i64 v] (·=.bool (zy6 v)):=by
 refine fn_x zAh rfl ?_;unfold zt3 zy6;conv in Z8 _ _=>reduce
 by_cases b:0<=v
 ·(refine Gw2 @dT @zpO.eq_1 ?_;intros);exact⟨_,.bool _ _,congrArg _ (decide_eq_decide.2 (by omega))⟩
 ·(refine Gw2 @dF @zpO.eq_1 ?_;intros);exact bzO
theorem zt9(w):zw Z9 zn0 [.int .i64 w] (·=.bool (zzr w)):=by
 refine fn_x zBM rfl ?_;unfold zut zzr;conv in Z8 _ _=>reduce
 by_cases b:w=1
 ·(refine Gw2 @dT @zlt.eq_1 ?_;intros);exact bzO
 by_cases c:w=2
 ·(refine Gw3 @dF @dT @zlt.eq_1 ?_;intros);exact bzO
 ·(refine Gw2 @dF @zlt.eq_1 ?_;intros);exact⟨_,.bool _ _,congrArg _ (decide_eq_decide.2 (by omega))⟩
mutual
def zwG:Ex->Int->Bool
 |.mk _ _ _ _ l,m=>if m<1 then true else zsG l (m-1)
def zsG:List Ex->Int->Bool
 |[],_=>false
 |e::l,m=>zwG e m||zsG l m
end
theorem zyl:∀(l:List Ex)(m:Int),zsG l m=l.any (zwG · m)
 |[],m=>by rw[zsG];rfl
 |e::l,m=>by rw[zsG,zyl l m];rfl
def zy(op n v w:Int)(k:Nat):Bool:=decide ((op=1/\v=0/\w=0/\k=0)\/(op=2/\n=0/\w=0/\k=0/\0<=v/\v<65536)\/((op=16\/op=17)/\n=0/\v=0/\w=0/\k=1)\/(op=18/\n=0/\v=0/\(w=1\/w=2\/w=4)/\k=1)\/(op=19/\n=0/\v=0/\(w=1\/w=2)/\k=1)\/(3<=op/\op<=15/\n=0/\v=0/\w=0/\k=2))
mutual
def zg7:Ex->Bool
 |.mk op n v w l=>zeh l&&zy op n v w l.length
def zeh:List Ex->Bool
 |[]=>true
 |e::l=>zg7 e&&zeh l
end
theorem zfE:∀(l:List Ex),zeh l=l.all zg7
 |[]=>by rw[zeh];rfl
 |e::l=>by rw[zeh,zfE l];rfl
def zmx(e:Ex):Int:=if zwG e 64=true then 20 else if zg7 e=true then 0 else 2
theorem Qi{p q:Prop}(k:q)(h:Im q p:=by(repeat first|simp(disch:=try exact dis1) only[evD,Nat.reduceBEq,Nat.reduceAdd,Nat.reduceLeDiff,fldP,dF]|((with_reducible apply Im.i);intro _)|((with_reducible apply Im.a);omega));exact Im.r):p:=h k
theorem zy5:∀(k:Nat)(e:Ex)(m:Int),zbn e<=k -> -1000<=m->m<=1000->zw Z9 zlQ [.agg (encX e),.int .i64 m] (·=.bool (zwG e m)):=by
 intro k
 induction k with
 |zero=>intro e m h;obtain⟨_,_,_,_,l⟩:=e;rw[zbn]at h;omega
 |succ k p=>
 intro e m j n o;obtain⟨op,q,v,w,l⟩:=e;refine fn_x zzQ rfl ?_;refine dcU zsz.eq_1 ?_;have s:=hBig;rw[zbn]at j;rw[zdh,zwG];by_cases d:m<1
 .rw[if_pos d];refine Gw3 @ub @dT @zkg.eq_1 ?_;intros;exact bzO
 .rw[if_neg d];refine Qi ?_;intros;generalize g:zsG l (m-1)=R;refine zc (λi:Nat=>([(1,.int .i64 m),(2,encP 5 [.int .i64 op,.int .u32 q,.int .i64 v,.int .i64 w,encL 5 encX l]),(5,.int .i64 i)],[])) 0 (λi=>i<=l.length/\zsG (l.drop i) (m-1)=R) (λi=>l.length-i) 0 ⟨We _,g⟩ (Xb rfl fin5) ?_;rintro i ⟨t,b⟩ wf;refine dcU zod.eq_1 ?_;by_cases c:i<l.length
  .have u:=zd7 (Wl c);rw[Wk c,zsG]at b;refine Gw5 @ub @dT (gmp c) @zam @zab ?_;intros;refine zg (ze (p l[i] (m-1) (by omega) (by omega) (by omega)) (flX rfl)) ?_
   cases hd:zwG l[i] (m-1)with
   |true=>rw[hd,Bool.true_or]at b;subst b;refine Gw1 @zkg.eq_1 ?_;intros;exact bzO
   |false=>rw[hd,Bool.false_or]at b;refine Gw0 ?_;intros;exact⟨i+1,⟨by omega,b⟩,by omega,Xb rfl fin5⟩
  .rw[Wg (by omega),zsG]at b;subst b;refine Qi ?_;intros;unfold zoE;refine Gw1 @zkg.eq_1 ?_;intros;exact bzO
theorem Qh{p q:Prop}(k:q)(h:Im q p:=by(repeat first|simp(disch:=try exact dis1) only[evD,Nat.reduceBEq,Nat.reduceAdd,Nat.reduceLeDiff,dT,dF,fldP,zn]|((with_reducible apply Im.i);intro _)|((with_reducible apply Im.a);omega));exact Im.r):p:=h k
theorem zw7{op nn v w i}{l}(h:op=1):
  wpX Z9 0 zV (retK zn λc b x=>∃a,Frz b c a/\a=.bool (zy op nn v w l.length)) [(1,encP 5 [.int .i64 op,.int .u32 nn,.int .i64 v,.int .i64 w,encL 5 encX l]),(3,.int .i64 i),(8,.bool false)] [] 0:=by
 refine dcU zV.eq_1 ?_;have d:=hBig;refine Qh ?_;intros;by_cases e:v=0<;>(refine Qh ?_;intros)
 case neg=>unfold zy;exact bxO lb
 by_cases g:w=0<;>(refine Qh ?_;intros)
 case neg=>unfold zy;exact bxO lb
 unfold zy;exact bxO lb
theorem zv1{op nn v w i}{l}(h:op=2):
  wpX Z9 0 zV (retK zn λc b x=>∃a,Frz b c a/\a=.bool (zy op nn v w l.length)) [(1,encP 5 [.int .i64 op,.int .u32 nn,.int .i64 v,.int .i64 w,encL 5 encX l]),(3,.int .i64 i),(8,.bool false)] [] 0:=by
 refine dcU zV.eq_1 ?_;have d:=hBig;refine Qh ?_;intros;by_cases e:nn=0<;>(refine Qh ?_;intros)
 case neg=>unfold zy;exact bxO lb
 by_cases g:w=0<;>(refine Qh ?_;intros)
 case neg=>unfold zy;exact bxO lb
 by_cases j:l.length=0<;>(refine Qh ?_;intros)
 case neg=>unfold zy;exact bxO lb
 refine zg (ze (zue v) rfl) ?_;unfold zy6;refine Qh ?_;intros;unfold zy;exact bxO lb
theorem zxd{op nn v w i}{l}(h:op=16):
  wpX Z9 0 zV (retK zn λc b x=>∃a,Frz b c a/\a=.bool (zy op nn v w l.length)) [(1,encP 5 [.int .i64 op,.int .u32 nn,.int .i64 v,.int .i64 w,encL 5 encX l]),(3,.int .i64 i),(8,.bool false)] [] 0:=by
 refine dcU zV.eq_1 ?_;have d:=hBig;refine Qh ?_;intros;by_cases e:nn=0<;>(refine Qh ?_;intros)
 case neg=>unfold zy;exact bxO lb
 by_cases g:v=0<;>(refine Qh ?_;intros)
 case neg=>unfold zy;exact bxO lb
 by_cases j:w=0<;>(refine Qh ?_;intros)
 case neg=>unfold zy;exact bxO lb
 unfold zy;exact bxO lb
theorem zve{op nn v w i}{l}(h:op=17):
  wpX Z9 0 zV (retK zn λc b x=>∃a,Frz b c a/\a=.bool (zy op nn v w l.length)) [(1,encP 5 [.int .i64 op,.int .u32 nn,.int .i64 v,.int .i64 w,encL 5 encX l]),(3,.int .i64 i),(8,.bool false)] [] 0:=by
 refine dcU zV.eq_1 ?_;have d:=hBig;refine Qh ?_;intros;by_cases e:nn=0<;>(refine Qh ?_;intros)
 case neg=>unfold zy;exact bxO lb
 by_cases g:v=0<;>(refine Qh ?_;intros)
 case neg=>unfold zy;exact bxO lb
 by_cases j:w=0<;>(refine Qh ?_;intros)
 case neg=>unfold zy;exact bxO lb
 unfold zy;exact bxO lb
theorem zvk{op nn v w i}{l}(h:op=18):
  wpX Z9 0 zV (retK zn λc b x=>∃a,Frz b c a/\a=.bool (zy op nn v w l.length)) [(1,encP 5 [.int .i64 op,.int .u32 nn,.int .i64 v,.int .i64 w,encL 5 encX l]),(3,.int .i64 i),(8,.bool false)] [] 0:=by
 refine dcU zV.eq_1 ?_;have d:=hBig;refine Qh ?_;intros;by_cases e:nn=0<;>(refine Qh ?_;intros)
 case neg=>unfold zy;exact bxO lb
 by_cases g:v=0<;>(refine Qh ?_;intros)
 case neg=>unfold zy;exact bxO lb
 by_cases j:w=1;case pos=>refine Qh ?_;intros;unfold zy;exact bxO lb
 refine Qh ?_;intros;by_cases k:w=2;case pos=>refine Qh ?_;intros;unfold zy;exact bxO lb
 refine Qh ?_;intros;by_cases m:w=4;case pos=>refine Qh ?_;intros;unfold zy;exact bxO lb
 refine Qh ?_;intros;unfold zy;exact bxO lb
theorem zv3{op nn v w i}{l}(h:op=19):
  wpX Z9 0 zV (retK zn λc b x=>∃a,Frz b c a/\a=.bool (zy op nn v w l.length)) [(1,encP 5 [.int .i64 op,.int .u32 nn,.int .i64 v,.int .i64 w,encL 5 encX l]),(3,.int .i64 i),(8,.bool false)] [] 0:=by
 refine dcU zV.eq_1 ?_;have d:=hBig;refine Qh ?_;intros;by_cases e:nn=0<;>(refine Qh ?_;intros)
 case neg=>unfold zy;exact bxO lb
 by_cases g:v=0<;>(refine Qh ?_;intros)
 case neg=>unfold zy;exact bxO lb
 by_cases j:w=1;case pos=>refine Qh ?_;intros;unfold zy;exact bxO lb
 refine Qh ?_;intros;by_cases k:w=2;case pos=>refine Qh ?_;intros;unfold zy;exact bxO lb
 refine Qh ?_;intros;unfold zy;exact bxO lb
theorem zxp{op nn v w i}{l}(j:op≠1)(k:op≠2)(c:op≠16)(d:op≠17)(e:op≠18)(g:op≠19):
  wpX Z9 0 zV (retK zn λh b x=>∃a,Frz b h a/\a=.bool (zy op nn v w l.length)) [(1,encP 5 [.int .i64 op,.int .u32 nn,.int .i64 v,.int .i64 w,encL 5 encX l]),(3,.int .i64 i),(8,.bool false)] [] 0:=by
 refine dcU zV.eq_1 ?_;have m:=hBig;refine Qh ?_;intros;by_cases n:3<=op<;>(refine Qh ?_;intros)
 case neg=>unfold zy;exact bxO lb
 by_cases o:op<=15<;>(refine Qh ?_;intros)
 case neg=>unfold zy;exact bxO lb
 by_cases p:nn=0<;>(refine Qh ?_;intros)
 case neg=>unfold zy;exact bxO lb
 by_cases q:v=0<;>(refine Qh ?_;intros)
 case neg=>unfold zy;exact bxO lb
 by_cases s:w=0<;>(refine Qh ?_;intros)
 case neg=>unfold zy;exact bxO lb
 unfold zy;exact bxO lb
theorem zwr:∀(k:Nat)(e:Ex),zbn e<=k->zw Z9 ziH [.agg (encX e)] (·=.bool (zg7 e)):=by
 intro k
 induction k with
 |zero=>intro e h;obtain⟨_,_,_,_,l⟩:=e;rw[zbn]at h;omega
 |succ k s=>
 intro e q;obtain⟨op,t,v,w,l⟩:=e;refine fn_x zvS rfl ?_;refine dcU zo1.eq_1 ?_;have u:=hBig;rw[zbn]at q;rw[zdh,zg7];generalize p:zeh l=R;refine Gw1 @ub ?_;intros;refine zc (λi:Nat=>([(1,encP 5 [.int .i64 op,.int .u32 t,.int .i64 v,.int .i64 w,encL 5 encX l]),(3,.int .i64 i)],[])) 0 (λi=>i<=l.length/\zeh (l.drop i)=R) (λi=>l.length-i) 0 ⟨We _,p⟩ (Xb rfl fin5) ?_;rintro i ⟨x,b⟩ wf;refine dcU zlC.eq_1 ?_;by_cases m:i<l.length
 .have y:=zd7 (Wl m);rw[Wk m,zeh]at b;refine Gw5 @ub @dT (gmp m) @zam @zab ?_;intros;refine zg (ze (s l[i] (by omega)) (flX rfl)) ?_
  cases hd:zg7 l[i]with
  |false=>rw[hd,Bool.false_and]at b;subst b;refine Gw1 @zn.eq_1 ?_;intros;exact bzO
  |true=>rw[hd,Bool.true_and]at b;refine Gw0 ?_;intros;exact⟨i+1,⟨by omega,b⟩,by omega,Xb rfl fin5⟩
 .rw[Wg (by omega),zeh]at b;subst b;refine Gw3 @ub @dF @Bool.true_and ?_;intros;by_cases n:op=1
  .exact zw7 n
  by_cases o:op=2
  .exact zv1 o
  by_cases c:op=16
  .exact zxd c
  by_cases d:op=17
  .exact zve d
  by_cases g:op=18
  .exact zvk g
  by_cases j:op=19
  .exact zv3 j
  exact zxp n o c d g j
theorem zuy(e):zw Z9 zkK [.agg (encX e)] (·=.int .i64 (zmx e)):=by
 refine fn_x zuF rfl ?_;unfold zol zmx;conv in Z8 _ _=>reduce
 have b:=hBig;refine Gw3 @zam @zu @zab ?_;intros;refine zg (ze (zy5 (zbn e) e 64 (Wi _) (by omega) (by omega)) (flX rfl)) ?_
 cases zwG e 64 with
 |true=>refine Gw1 @zgt.eq_1 ?_;intros;exact izO
 |false=>
  refine Gw3 @zam @zu @zab ?_;intros;refine zg (ze (zwr (zbn e) e (Wi _)) (flX rfl)) ?_
  cases zg7 e with
  |true=>refine Gw1 @zgt.eq_1 ?_;intros;exact izO
  |false=>refine Gw1 @zgt.eq_1 ?_;intros;exact izO
structure PredE(fv:AV)(l:List Ex)(p:Ex->Bool):Prop where
 ex:∃f caps,fv=.fn (.func f) caps/\zhI Z9 f=true/\zR caps=true/\∀s∈l,zw Z9 f ([.agg (encX s)]++caps) (·=.bool (p s))
theorem zgN:∀{l:List AV},zR l=true->l.all AV.flat=true
 |[],_=>rfl
 |
  a::l,h=>by
  simp only[zR,Wn]at h;simp only[Wm,Wn];refine⟨?_,zgN h.2⟩;cases a<;>first|rfl|exact absurd h.1 (by simp[AV.flat0])
theorem zDN{fv}{l}{p}(h:PredE fv l p){s}(j:s∈l){H}{nx}{k}(g:k (.bool (p s)) H nx):zuq Z9 fv [.agg (encX s)] H nx k:=by obtain⟨f,b,rfl,d,c,m⟩:=h.ex;rw[zpw];refine⟨d,zg (ze (m s j) ?_) g⟩;simp only[List.cons_append,List.nil_append,Wm,Wn];exact⟨by have:=flX (r:=[]) rfl (e:=s);simpa using this,zgN c⟩
theorem zhs{fv}{l}{p}(h:PredE fv l p){H H2}{σ}{D}{t}:Vw H H2 σ D t fv fv:=by
 obtain⟨f,c,rfl,j,g,k⟩:=h.ex;refine .fn _ _ _ _ rfl λi a b d e=>?_
 rw[d]at e;cases e;exact zcL (zdK g d)
def idxI(o:Option Nat):Int:=match o with|some i=>(i:Int)|none=> -1
theorem zql(l)(fv)(p)(n:PredE fv l p):zw Z9 zbk [encL 5 encX l,fv] (·=.int .i64 (idxI (l.findIdx? p))):=by
 refine fn_x zf0 rfl ?_;refine dcU zcD.eq_1 ?_;have q:=hBig;refine Gw0 ?_;intros;refine zc (λi:Nat=>([(0,encL 5 encX l),(1,fv),(7,.int .i64 l.length),(8,.int .i64 i)],[])) 0 (λi=>i<=l.length/\∀j (h:j<l.length),j<i->p l[j]=false) (λi=>l.length-i) 0 ⟨We _,λj _ h=>by omega⟩ (Xb rfl fin5) ?_;intro i ⟨s,c⟩ wf;refine dcU zb3.eq_1 ?_;refine Gw0 ?_;intros;(refine zz (λh=>?_) (λh=>?_))<;>(try simp only[dcd]at h)
 .have b:i<l.length:=by omega
  refine Gw3 (gmp b) @zam @zab ?_;intros;refine zDN n (Wl b) ?_;refine Gw0 ?_;intros;(refine zz (λg=>?_) (λg=>?_))<;>(try simp only[dcd]at g)
  ·(refine Gw1 @za2.eq_1 ?_;intros);have e:l.findIdx? p=some i:=by rw[Wp];exact⟨b,g,λj d=>by rw[c j (by omega) d];simp⟩
   rw[e];exact izO
  ·(refine Gw0 ?_;intros);refine⟨i+1,⟨by omega,λj d m=>?_⟩,by omega,Xb rfl fin5⟩;by_cases k:j=i
   .subst k;simpa using g
   .exact c j d (by omega)
 .unfold zb1;refine Gw1 @za2.eq_1 ?_;intros;have e:l.findIdx? p=none:=by rw[Wq];intro x o;obtain⟨j,d,rfl⟩:=List.mem_iff_getElem.1 o;exact c j d (by omega)
  rw[e];exact izO
theorem zKl{l:List Ex}{p:Ex->Bool}:decide (idxI (l.findIdx? p) >= 0)=l.any p:=by
 cases h:l.findIdx? p with
 |none=>have:=Wq.1 h;rw[decide_eq_false (by simp[idxI])];symm;rw[List.any_eq_false];intro x d;rw[this x d];simp
 |some i=>obtain⟨b,c,_⟩:=Wp.1 h;rw[decide_eq_true (by simp[idxI])];exact(zB6 b c).symm
theorem zaa(l)(fv)(p)(b:PredE fv l p):zw Z9 zac [encL 5 encX l,fv] (·=.bool (l.any p)):=by refine fn_x zfd rfl ?_;refine dcU zb7.eq_1 ?_;refine Gw0 ?_;intros;refine zg (zaH (D:=noR) (zql l fv p b) (.cons (zM rfl) (.cons (zhs b) .nil)) (.inl rfl)) ?_;refine Gw1 @zb4.eq_1 ?_;intros;refine⟨_,.bool _ _,?_⟩;rw[<-zKl]
theorem uk:type_of% @encP.eq_1:=@encP.eq_1
theorem zy8:∀(k:Nat)(e:Ex)(m:Int),zbn e<=k -> -1000<=m->m<=1000->zw Z9 zl3 [.agg (encX e),.int .i64 m] (·=.bool (!zwG e m)):=by
 intro k
 induction k with
 |zero=>intro e m h;obtain⟨_,_,_,_,l⟩:=e;rw[zbn]at h;omega
 |succ k o=>
 intro e m d g j;obtain⟨op,t,v,w,l⟩:=e;refine fn_x zzJ rfl ?_;unfold zsE;have p:=hBig;rw[zbn]at d;rw[zdh,zwG];by_cases b:m<1
 .rw[if_pos b];refine Gw4 @ub @dF @uk @znD.eq_1 ?_;intros;exact bzO
 .rw[if_neg b,zyl];have c:PredE (.fn (.func zmm) [encP 1 [.int .i64 m]]) l (zwG · (m-1)):=by refine⟨_,_,rfl,by kernel_rfl,rfl,λs n=>?_⟩;have q:=zd7 n;refine fn_x zvi rfl ?_;refine dcU zpF.eq_1 ?_;refine Gw4 @zam @zu @zab @uk ?_;intros;refine zg (ze (o s (m-1) (by omega) (by omega) (by omega)) (flX rfl)) ?_;refine Gw1 @zpl.eq_1 ?_;intros;exact bzO
  refine Gw3 @ub @dT @uk ?_;intros;refine zg (zaH (D:=noR) (zaa l _ _ c) (.cons (zM rfl) (.cons (zhs c) .nil)) (.inl rfl)) ?_;refine Gw1 @znD.eq_1 ?_;intros;exact bzO
theorem Qg{p q:Prop}(k:q)(h:Im q p:=by(repeat first|simp(disch:=try exact dis1) only[evD,Nat.reduceBEq,Nat.reduceAdd,Nat.reduceLeDiff,dT,dF,fldP,zu,zt]|((with_reducible apply Im.i);intro _)|((with_reducible apply Im.a);omega));exact Im.r):p:=h k
theorem zAa{op b v w}{l}(h:op=1)(c:PredE (.fn (.func zaO) []) l (λx=> !zg7 x)):zw Z9 zbr [.agg [.int .i64 op,.int .u32 b,.int .i64 v,.int .i64 w,encL 5 encX l]] (·=.bool (zeh l&&zy op b v w l.length)):=by
 refine fn_x zch rfl ?_;unfold zbJ;have d:=hBig;refine Qg ?_;intros;by_cases e:v=0<;>(refine Qg ?_;intros)
 case neg=>exact bxO (by rw[show zy op b v w l.length=false from by unfold zy;exact dF (by omega),Wa])
 by_cases g:w=0<;>(refine Qg ?_;intros)
 case neg=>exact bxO (by rw[show zy op b v w l.length=false from by unfold zy;exact dF (by omega),Wa])
 by_cases j:l.length=0<;>(refine Qg ?_;intros)
 case neg=>exact bxO (by rw[show zy op b v w l.length=false from by unfold zy;exact dF (by omega),Wa])
 refine zg (zaH (D:=noR) (zaa l _ _ c) (.cons (zM rfl) (.cons (zhs c) .nil)) (.inl rfl)) ?_;refine Qg ?_;intros;exact bxO (by rw[show zy op b v w l.length=true from by unfold zy;exact dT (by omega),Wc,zfE,Wd])
theorem zB0{op b v w}{l}(h:op=2)(c:PredE (.fn (.func zaO) []) l (λx=> !zg7 x)):zw Z9 zbr [.agg [.int .i64 op,.int .u32 b,.int .i64 v,.int .i64 w,encL 5 encX l]] (·=.bool (zeh l&&zy op b v w l.length)):=by
 refine fn_x zch rfl ?_;unfold zbJ;have d:=hBig;refine Qg ?_;intros;refine zg (ze (zmn v) rfl) ?_;unfold zy6;by_cases e:0<=v/\v<65536<;>(refine Qg ?_;intros)
 case neg=>exact bxO (by rw[show zy op b v w l.length=false from by unfold zy;exact dF (by omega),Wa])
 by_cases g:b=0<;>(refine Qg ?_;intros)
 case neg=>exact bxO (by rw[show zy op b v w l.length=false from by unfold zy;exact dF (by omega),Wa])
 by_cases j:w=0<;>(refine Qg ?_;intros)
 case neg=>exact bxO (by rw[show zy op b v w l.length=false from by unfold zy;exact dF (by omega),Wa])
 by_cases k:l.length=0<;>(refine Qg ?_;intros)
 case neg=>exact bxO (by rw[show zy op b v w l.length=false from by unfold zy;exact dF (by omega),Wa])
 refine zg (zaH (D:=noR) (zaa l _ _ c) (.cons (zM rfl) (.cons (zhs c) .nil)) (.inl rfl)) ?_;refine Qg ?_;intros;exact bxO (by rw[show zy op b v w l.length=true from by unfold zy;exact dT (by omega),Wc,zfE,Wd])
theorem zBF{op b v w}{l}(h:3<=op)(d:op<=15)(c:PredE (.fn (.func zaO) []) l (λx=> !zg7 x)):zw Z9 zbr [.agg [.int .i64 op,.int .u32 b,.int .i64 v,.int .i64 w,encL 5 encX l]] (·=.bool (zeh l&&zy op b v w l.length)):=by
 refine fn_x zch rfl ?_;unfold zbJ;have e:=hBig;refine Qg ?_;intros;by_cases g:b=0<;>(refine Qg ?_;intros)
 case neg=>exact bxO (by rw[show zy op b v w l.length=false from by unfold zy;exact dF (by omega),Wa])
 by_cases j:v=0<;>(refine Qg ?_;intros)
 case neg=>exact bxO (by rw[show zy op b v w l.length=false from by unfold zy;exact dF (by omega),Wa])
 by_cases k:w=0<;>(refine Qg ?_;intros)
 case neg=>exact bxO (by rw[show zy op b v w l.length=false from by unfold zy;exact dF (by omega),Wa])
 by_cases m:l.length=2<;>(refine Qg ?_;intros)
 case neg=>exact bxO (by rw[show zy op b v w l.length=false from by unfold zy;exact dF (by omega),Wa])
 refine zg (zaH (D:=noR) (zaa l _ _ c) (.cons (zM rfl) (.cons (zhs c) .nil)) (.inl rfl)) ?_;refine Qg ?_;intros;exact bxO (by rw[show zy op b v w l.length=true from by unfold zy;exact dT (by omega),Wc,zfE,Wd])
theorem zzM{op b v w}{l}(h:op=16)(c:PredE (.fn (.func zaO) []) l (λx=> !zg7 x)):zw Z9 zbr [.agg [.int .i64 op,.int .u32 b,.int .i64 v,.int .i64 w,encL 5 encX l]] (·=.bool (zeh l&&zy op b v w l.length)):=by
 refine fn_x zch rfl ?_;unfold zbJ;have d:=hBig;refine Qg ?_;intros;by_cases e:b=0<;>(refine Qg ?_;intros)
 case neg=>exact bxO (by rw[show zy op b v w l.length=false from by unfold zy;exact dF (by omega),Wa])
 by_cases g:v=0<;>(refine Qg ?_;intros)
 case neg=>exact bxO (by rw[show zy op b v w l.length=false from by unfold zy;exact dF (by omega),Wa])
 by_cases j:w=0<;>(refine Qg ?_;intros)
 case neg=>exact bxO (by rw[show zy op b v w l.length=false from by unfold zy;exact dF (by omega),Wa])
 by_cases k:l.length=1<;>(refine Qg ?_;intros)
 case neg=>exact bxO (by rw[show zy op b v w l.length=false from by unfold zy;exact dF (by omega),Wa])
 refine zg (zaH (D:=noR) (zaa l _ _ c) (.cons (zM rfl) (.cons (zhs c) .nil)) (.inl rfl)) ?_;refine Qg ?_;intros;exact bxO (by rw[show zy op b v w l.length=true from by unfold zy;exact dT (by omega),Wc,zfE,Wd])
theorem zzZ{op b v w}{l}(h:op=17)(c:PredE (.fn (.func zaO) []) l (λx=> !zg7 x)):zw Z9 zbr [.agg [.int .i64 op,.int .u32 b,.int .i64 v,.int .i64 w,encL 5 encX l]] (·=.bool (zeh l&&zy op b v w l.length)):=by
 refine fn_x zch rfl ?_;unfold zbJ;have d:=hBig;refine Qg ?_;intros;by_cases e:b=0<;>(refine Qg ?_;intros)
 case neg=>exact bxO (by rw[show zy op b v w l.length=false from by unfold zy;exact dF (by omega),Wa])
 by_cases g:v=0<;>(refine Qg ?_;intros)
 case neg=>exact bxO (by rw[show zy op b v w l.length=false from by unfold zy;exact dF (by omega),Wa])
 by_cases j:w=0<;>(refine Qg ?_;intros)
 case neg=>exact bxO (by rw[show zy op b v w l.length=false from by unfold zy;exact dF (by omega),Wa])
 by_cases k:l.length=1<;>(refine Qg ?_;intros)
 case neg=>exact bxO (by rw[show zy op b v w l.length=false from by unfold zy;exact dF (by omega),Wa])
 refine zg (zaH (D:=noR) (zaa l _ _ c) (.cons (zM rfl) (.cons (zhs c) .nil)) (.inl rfl)) ?_;refine Qg ?_;intros;exact bxO (by rw[show zy op b v w l.length=true from by unfold zy;exact dT (by omega),Wc,zfE,Wd])
theorem zzg{op b v w}{l}(h:op=18)(c:PredE (.fn (.func zaO) []) l (λx=> !zg7 x)):zw Z9 zbr [.agg [.int .i64 op,.int .u32 b,.int .i64 v,.int .i64 w,encL 5 encX l]] (·=.bool (zeh l&&zy op b v w l.length)):=by
 refine fn_x zch rfl ?_;unfold zbJ;have d:=hBig;refine Qg ?_;intros;refine zg (ze (zt9 w) rfl) ?_;unfold zzr;by_cases e:w=1\/w=2\/w=4<;>(refine Qg ?_;intros)
 case neg=>exact bxO (by rw[show zy op b v w l.length=false from by unfold zy;exact dF (by omega),Wa])
 by_cases g:b=0<;>(refine Qg ?_;intros)
 case neg=>exact bxO (by rw[show zy op b v w l.length=false from by unfold zy;exact dF (by omega),Wa])
 by_cases j:v=0<;>(refine Qg ?_;intros)
 case neg=>exact bxO (by rw[show zy op b v w l.length=false from by unfold zy;exact dF (by omega),Wa])
 by_cases k:l.length=1<;>(refine Qg ?_;intros)
 case neg=>exact bxO (by rw[show zy op b v w l.length=false from by unfold zy;exact dF (by omega),Wa])
 refine zg (zaH (D:=noR) (zaa l _ _ c) (.cons (zM rfl) (.cons (zhs c) .nil)) (.inl rfl)) ?_;refine Qg ?_;intros;exact bxO (by rw[show zy op b v w l.length=true from by unfold zy;exact dT (by omega),Wc,zfE,Wd])
theorem zxL{op b v w}{l}(h:op=19)(e:w=1)(c:PredE (.fn (.func zaO) []) l (λx=> !zg7 x)):zw Z9 zbr [.agg [.int .i64 op,.int .u32 b,.int .i64 v,.int .i64 w,encL 5 encX l]] (·=.bool (zeh l&&zy op b v w l.length)):=by
 refine fn_x zch rfl ?_;unfold zbJ;have d:=hBig;refine Qg ?_;intros;by_cases g:b=0<;>(refine Qg ?_;intros)
 case neg=>exact bxO (by rw[show zy op b v w l.length=false from by unfold zy;exact dF (by omega),Wa])
 by_cases j:v=0<;>(refine Qg ?_;intros)
 case neg=>exact bxO (by rw[show zy op b v w l.length=false from by unfold zy;exact dF (by omega),Wa])
 by_cases k:l.length=1<;>(refine Qg ?_;intros)
 case neg=>exact bxO (by rw[show zy op b v w l.length=false from by unfold zy;exact dF (by omega),Wa])
 refine zg (zaH (D:=noR) (zaa l _ _ c) (.cons (zM rfl) (.cons (zhs c) .nil)) (.inl rfl)) ?_;refine Qg ?_;intros;exact bxO (by rw[show zy op b v w l.length=true from by unfold zy;exact dT (by omega),Wc,zfE,Wd])
theorem zxv{op b v w}{l}(h:op=19)(e:w=2)(c:PredE (.fn (.func zaO) []) l (λx=> !zg7 x)):zw Z9 zbr [.agg [.int .i64 op,.int .u32 b,.int .i64 v,.int .i64 w,encL 5 encX l]] (·=.bool (zeh l&&zy op b v w l.length)):=by
 refine fn_x zch rfl ?_;unfold zbJ;have d:=hBig;refine Qg ?_;intros;by_cases g:b=0<;>(refine Qg ?_;intros)
 case neg=>exact bxO (by rw[show zy op b v w l.length=false from by unfold zy;exact dF (by omega),Wa])
 by_cases j:v=0<;>(refine Qg ?_;intros)
 case neg=>exact bxO (by rw[show zy op b v w l.length=false from by unfold zy;exact dF (by omega),Wa])
 by_cases k:l.length=1<;>(refine Qg ?_;intros)
 case neg=>exact bxO (by rw[show zy op b v w l.length=false from by unfold zy;exact dF (by omega),Wa])
 refine zg (zaH (D:=noR) (zaa l _ _ c) (.cons (zM rfl) (.cons (zhs c) .nil)) (.inl rfl)) ?_;refine Qg ?_;intros;exact bxO (by rw[show zy op b v w l.length=true from by unfold zy;exact dT (by omega),Wc,zfE,Wd])
theorem zxE{op nn v w}{l}(h:op=19)(b:w≠1)(c:w≠2)(e:PredE (.fn (.func zaO) []) l (λx=> !zg7 x)):zw Z9 zbr [.agg [.int .i64 op,.int .u32 nn,.int .i64 v,.int .i64 w,encL 5 encX l]] (·=.bool (zeh l&&zy op nn v w l.length)):=by refine fn_x zch rfl ?_;unfold zbJ;have d:=hBig;refine Qg ?_;intros;exact bxO (by rw[show zy op nn v w l.length=false from by unfold zy;exact dF (by omega),Wa])
theorem zCk{op nn v w}{l}(b:op<1)(d:PredE (.fn (.func zaO) []) l (λx=> !zg7 x)):zw Z9 zbr [.agg [.int .i64 op,.int .u32 nn,.int .i64 v,.int .i64 w,encL 5 encX l]] (·=.bool (zeh l&&zy op nn v w l.length)):=by refine fn_x zch rfl ?_;unfold zbJ;have c:=hBig;refine Qg ?_;intros;exact bxO (by rw[show zy op nn v w l.length=false from by unfold zy;exact dF (by omega),Wa])
theorem zCn{op nn v w}{l}(b:19<op)(d:PredE (.fn (.func zaO) []) l (λx=> !zg7 x)):zw Z9 zbr [.agg [.int .i64 op,.int .u32 nn,.int .i64 v,.int .i64 w,encL 5 encX l]] (·=.bool (zeh l&&zy op nn v w l.length)):=by refine fn_x zch rfl ?_;unfold zbJ;have c:=hBig;refine Qg ?_;intros;exact bxO (by rw[show zy op nn v w l.length=false from by unfold zy;exact dF (by omega),Wa])
theorem zz5:∀(k:Nat)(e:Ex),zbn e<=k->zw Z9 zbr [.agg (encX e)] (·=.bool (zg7 e)):=by
 intro k
 induction k with
 |zero=>intro e h;obtain⟨_,_,_,_,l⟩:=e;rw[zbn]at h;omega
 |succ k A=>
 intro e u;obtain⟨op,D,v,w,l⟩:=e;rw[zbn]at u;rw[zdh,zg7];have b:PredE (.fn (.func zaO) []) l (λx=> !zg7 x):=by refine⟨_,_,rfl,by kernel_rfl,rfl,λs y=>?_⟩;have C:=zd7 y;refine fn_x zxs rfl ?_;refine dcU zqU.eq_1 ?_;have B:=hBig;refine Gw4 @zam @zu @zab @uk ?_;intros;refine zg (ze (A s (by omega)) (flX rfl)) ?_;refine Gw1 @zq9.eq_1 ?_;intros;exact bzO
 by_cases q:op=1
 .exact zAa q b
 by_cases t:op=2
 .exact zB0 t b
 by_cases m:3<=op/\op<=15
 .exact zBF m.1 m.2 b
 by_cases d:op=16
 .exact zzM d b
 by_cases g:op=17
 .exact zzZ g b
 by_cases j:op=18
 .exact zzg j b
 by_cases c:op=19
 .by_cases n:w=1
  .exact zxL c n b
  by_cases o:w=2
  .exact zxv c o b
  exact zxE c n o b
 by_cases p:op<1
 .exact zCk p b
 exact zCn (by omega) b
theorem zwz(e):zw Z9 zmh [.agg (encX e)] (·=.int .i64 (zmx e)):=by
 refine fn_x zwc rfl ?_;unfold zo8 zmx;conv in Z8 _ _=>reduce
 have b:=hBig;refine Gw3 @zam @zu @zab ?_;intros;refine zg (ze (zy8 (zbn e) e 64 (Wi _) (by omega) (by omega)) (flX rfl)) ?_
 cases zwG e 64 with
 |true=>refine Gw1 @zhY.eq_1 ?_;intros;exact izO
 |false=>
  refine Gw3 @zam @zu @zab ?_;intros;refine zg (ze (zz5 (zbn e) e (Wi _)) (flX rfl)) ?_
  cases zg7 e with
  |true=>refine Gw1 @zhY.eq_1 ?_;intros;exact izO
  |false=>refine Gw1 @zhY.eq_1 ?_;intros;exact izO
def zat(op:Int):Int:=if op=2 then 2 else if op=1\/op=4\/op=7\/op=8 then 1 else if op=3\/op=5\/op=6\/op=9\/op=10 then 0 else -1
def zQ(op var b next c d:Int)(k:Nat):Bool:=decide (((op=1\/op=3)\/var=0)/\(op=2\/b=0)/\((op=6\/op=7)\/next=0)/\(op=7\/c=0)/\(op=5\/d=0)/\(op=8\/k=0))
def zG(op var b next c d:Int)(k:Nat):Bool:=decide ((((op=1\/op=3)\/var=0)/\(op=2\/b=0)/\((op=6\/op=7)\/next=0)/\(op=7\/c=0)/\(op=5\/d=0)/\(op=8\/k=0))/\(0<=var/\var<65536)/\(op=2->b=1\/b=2\/b=4)/\(op=8->1<=k/\k<=64))
theorem ur:type_of% @zap.eq_1:=@zap.eq_1
theorem ztz(op):zw Z9 zi4 [.int .i64 op] (·=.int .i64 (zat op)):=by
 refine fn_x zs2 rfl ?_;refine dcU zmH.eq_1 ?_;by_cases d:op=1
 .have b:zat op=1:=by unfold zat;subst d;rfl
  rw[b];refine Gw3 @dT @dF @ur ?_;intros;exact izO
 by_cases h:op=4
 .have b:zat op=1:=by unfold zat;subst h;rfl
  rw[b];refine Gw3 @dT @dF @ur ?_;intros;exact izO
 by_cases m:op=7
 .have b:zat op=1:=by unfold zat;subst m;rfl
  rw[b];refine Gw3 @dT @dF @ur ?_;intros;exact izO
 by_cases n:op=8
 .have b:zat op=1:=by unfold zat;subst n;rfl
  rw[b];refine Gw3 @dT @dF @ur ?_;intros;exact izO
 by_cases e:op=2
 .have b:zat op=2:=by unfold zat;subst e;rfl
  rw[b];refine Gw3 @dT @dF @ur ?_;intros;exact izO
 by_cases g:op=3
 .have b:zat op=0:=by unfold zat;subst g;rfl
  rw[b];refine Gw3 @dT @dF @ur ?_;intros;exact izO
 by_cases j:op=5
 .have b:zat op=0:=by unfold zat;subst j;rfl
  rw[b];refine Gw3 @dT @dF @ur ?_;intros;exact izO
 by_cases k:op=6
 .have b:zat op=0:=by unfold zat;subst k;rfl
  rw[b];refine Gw3 @dT @dF @ur ?_;intros;exact izO
 by_cases o:op=9
 .have b:zat op=0:=by unfold zat;subst o;rfl
  rw[b];refine Gw3 @dT @dF @ur ?_;intros;exact izO
 by_cases c:op=10
 .have b:zat op=0:=by unfold zat;subst c;rfl
  rw[b];refine Gw3 @dT @dF @ur ?_;intros;exact izO
 have b:zat op = -1:=by unfold zat;rw[if_neg (by omega),if_neg (by omega),if_neg (by omega)]
 rw[b];refine Gw3 @dT @dF @ur ?_;intros;exact izO
theorem zBb(op)(c:1<=op)(d:op<=10):zw Z9 zrS [.int .i64 op] (·=.int .i64 (zat op)):=by
 refine fn_x zBX rfl ?_;refine dcU ztV.eq_1 ?_;by_cases d:op=2
 .have b:zat op=2:=by unfold zat;subst d;rfl
  rw[b];refine Gw3 @dT @dF @zfi.eq_1 ?_;intros;exact izO
 by_cases c:op=1
 .have b:zat op=1:=by unfold zat;subst c;rfl
  rw[b];refine Gw3 @dT @dF @zfi.eq_1 ?_;intros;exact izO
 by_cases e:op=4
 .have b:zat op=1:=by unfold zat;subst e;rfl
  rw[b];refine Gw3 @dT @dF @zfi.eq_1 ?_;intros;exact izO
 by_cases g:op=7
 .have b:zat op=1:=by unfold zat;subst g;rfl
  rw[b];refine Gw3 @dT @dF @zfi.eq_1 ?_;intros;exact izO
 by_cases h:op=8
 .have b:zat op=1:=by unfold zat;subst h;rfl
  rw[b];refine Gw3 @dT @dF @zfi.eq_1 ?_;intros;exact izO
 have b:zat op=0:=by unfold zat;rw[if_neg (by omega),if_neg (by omega),if_pos (by omega)]
 rw[b];refine Gw3 @dT @dF @zfi.eq_1 ?_;intros;exact izO
theorem Qe{p q:Prop}(k:q)(h:Im q p:=by(repeat first|simp(disch:=try exact dis1) only[evD,Nat.reduceBEq,Nat.reduceAdd,Nat.reduceLeDiff,dT,dF,fldP,za,zp]|((with_reducible apply Im.i);intro _)|((with_reducible apply Im.a);omega));exact Im.r):p:=h k
theorem zAy(op var width next b c)(e)(d)(h:op=1):zw Z9 zbs [.agg [.int .i64 op,.int .i64 var,.int .i64 width,.int .i64 next,.int .i64 b,.int .u32 c,encL 5 encX e,za d]] (·=.bool (zQ op var width next b c d.length)):=by
 refine fn_x zcd rfl ?_;refine dcU zbC.eq_1 ?_;have g:=hBig;refine Qe ?_;intros;by_cases j:width=0<;>(refine Qe ?_;intros)
 case neg=>exact bxO (by unfold zQ;exact lb)
 by_cases k:next=0<;>(refine Qe ?_;intros)
 case neg=>exact bxO (by unfold zQ;exact lb)
 by_cases m:b=0<;>(refine Qe ?_;intros)
 case neg=>exact bxO (by unfold zQ;exact lb)
 by_cases n:c=0<;>(refine Qe ?_;intros)
 case neg=>exact bxO (by unfold zQ;exact lb)
 exact bxO (by unfold zQ;exact lb)
theorem zBJ(op var width next b c)(e)(d)(h:op=2):zw Z9 zbs [.agg [.int .i64 op,.int .i64 var,.int .i64 width,.int .i64 next,.int .i64 b,.int .u32 c,encL 5 encX e,za d]] (·=.bool (zQ op var width next b c d.length)):=by
 refine fn_x zcd rfl ?_;refine dcU zbC.eq_1 ?_;have g:=hBig;refine Qe ?_;intros;by_cases j:var=0<;>(refine Qe ?_;intros)
 case neg=>exact bxO (by unfold zQ;exact lb)
 by_cases k:next=0<;>(refine Qe ?_;intros)
 case neg=>exact bxO (by unfold zQ;exact lb)
 by_cases m:b=0<;>(refine Qe ?_;intros)
 case neg=>exact bxO (by unfold zQ;exact lb)
 by_cases n:c=0<;>(refine Qe ?_;intros)
 case neg=>exact bxO (by unfold zQ;exact lb)
 exact bxO (by unfold zQ;exact lb)
theorem zAe(op var width next b c)(e)(d)(h:op=3):zw Z9 zbs [.agg [.int .i64 op,.int .i64 var,.int .i64 width,.int .i64 next,.int .i64 b,.int .u32 c,encL 5 encX e,za d]] (·=.bool (zQ op var width next b c d.length)):=by
 refine fn_x zcd rfl ?_;refine dcU zbC.eq_1 ?_;have g:=hBig;refine Qe ?_;intros;by_cases j:width=0<;>(refine Qe ?_;intros)
 case neg=>exact bxO (by unfold zQ;exact lb)
 by_cases k:next=0<;>(refine Qe ?_;intros)
 case neg=>exact bxO (by unfold zQ;exact lb)
 by_cases m:b=0<;>(refine Qe ?_;intros)
 case neg=>exact bxO (by unfold zQ;exact lb)
 by_cases n:c=0<;>(refine Qe ?_;intros)
 case neg=>exact bxO (by unfold zQ;exact lb)
 exact bxO (by unfold zQ;exact lb)
theorem zBV(op var width next b c)(e)(d)(h:op=4):zw Z9 zbs [.agg [.int .i64 op,.int .i64 var,.int .i64 width,.int .i64 next,.int .i64 b,.int .u32 c,encL 5 encX e,za d]] (·=.bool (zQ op var width next b c d.length)):=by
 refine fn_x zcd rfl ?_;refine dcU zbC.eq_1 ?_;have g:=hBig;refine Qe ?_;intros;by_cases j:var=0<;>(refine Qe ?_;intros)
 case neg=>exact bxO (by unfold zQ;exact lb)
 by_cases k:width=0<;>(refine Qe ?_;intros)
 case neg=>exact bxO (by unfold zQ;exact lb)
 by_cases m:next=0<;>(refine Qe ?_;intros)
 case neg=>exact bxO (by unfold zQ;exact lb)
 by_cases n:b=0<;>(refine Qe ?_;intros)
 case neg=>exact bxO (by unfold zQ;exact lb)
 by_cases o:c=0<;>(refine Qe ?_;intros)
 case neg=>exact bxO (by unfold zQ;exact lb)
 exact bxO (by unfold zQ;exact lb)
theorem zAR(op var width next b c)(e)(d)(h:op=5):zw Z9 zbs [.agg [.int .i64 op,.int .i64 var,.int .i64 width,.int .i64 next,.int .i64 b,.int .u32 c,encL 5 encX e,za d]] (·=.bool (zQ op var width next b c d.length)):=by
 refine fn_x zcd rfl ?_;refine dcU zbC.eq_1 ?_;have g:=hBig;refine Qe ?_;intros;by_cases j:var=0<;>(refine Qe ?_;intros)
 case neg=>exact bxO (by unfold zQ;exact lb)
 by_cases k:width=0<;>(refine Qe ?_;intros)
 case neg=>exact bxO (by unfold zQ;exact lb)
 by_cases m:next=0<;>(refine Qe ?_;intros)
 case neg=>exact bxO (by unfold zQ;exact lb)
 by_cases n:b=0<;>(refine Qe ?_;intros)
 case neg=>exact bxO (by unfold zQ;exact lb)
 exact bxO (by unfold zQ;exact lb)
theorem zz2(op var width next b c)(e)(d)(h:op=6):zw Z9 zbs [.agg [.int .i64 op,.int .i64 var,.int .i64 width,.int .i64 next,.int .i64 b,.int .u32 c,encL 5 encX e,za d]] (·=.bool (zQ op var width next b c d.length)):=by
 refine fn_x zcd rfl ?_;refine dcU zbC.eq_1 ?_;have g:=hBig;refine Qe ?_;intros;by_cases j:var=0<;>(refine Qe ?_;intros)
 case neg=>exact bxO (by unfold zQ;exact lb)
 by_cases k:width=0<;>(refine Qe ?_;intros)
 case neg=>exact bxO (by unfold zQ;exact lb)
 by_cases m:b=0<;>(refine Qe ?_;intros)
 case neg=>exact bxO (by unfold zQ;exact lb)
 by_cases n:c=0<;>(refine Qe ?_;intros)
 case neg=>exact bxO (by unfold zQ;exact lb)
 exact bxO (by unfold zQ;exact lb)
theorem zAz(op var width next c b)(e)(d)(h:op=7):zw Z9 zbs [.agg [.int .i64 op,.int .i64 var,.int .i64 width,.int .i64 next,.int .i64 c,.int .u32 b,encL 5 encX e,za d]] (·=.bool (zQ op var width next c b d.length)):=by
 refine fn_x zcd rfl ?_;refine dcU zbC.eq_1 ?_;have g:=hBig;refine Qe ?_;intros;by_cases j:var=0<;>(refine Qe ?_;intros)
 case neg=>exact bxO (by unfold zQ;exact lb)
 by_cases k:width=0<;>(refine Qe ?_;intros)
 case neg=>exact bxO (by unfold zQ;exact lb)
 by_cases m:b=0<;>(refine Qe ?_;intros)
 case neg=>exact bxO (by unfold zQ;exact lb)
 exact bxO (by unfold zQ;exact lb)
theorem zBw(op var width next b c)(e)(d)(h:op=8):zw Z9 zbs [.agg [.int .i64 op,.int .i64 var,.int .i64 width,.int .i64 next,.int .i64 b,.int .u32 c,encL 5 encX e,za d]] (·=.bool (zQ op var width next b c d.length)):=by
 refine fn_x zcd rfl ?_;refine dcU zbC.eq_1 ?_;have g:=hBig;refine Qe ?_;intros;by_cases j:var=0<;>(refine Qe ?_;intros)
 case neg=>exact bxO (by unfold zQ;exact lb)
 by_cases k:width=0<;>(refine Qe ?_;intros)
 case neg=>exact bxO (by unfold zQ;exact lb)
 by_cases m:next=0<;>(refine Qe ?_;intros)
 case neg=>exact bxO (by unfold zQ;exact lb)
 by_cases n:b=0<;>(refine Qe ?_;intros)
 case neg=>exact bxO (by unfold zQ;exact lb)
 by_cases o:c=0<;>(refine Qe ?_;intros)
 case neg=>exact bxO (by unfold zQ;exact lb)
 exact bxO (by unfold zQ;exact lb)
theorem zAj(op var width next b c)(e)(d)(h:op=9):zw Z9 zbs [.agg [.int .i64 op,.int .i64 var,.int .i64 width,.int .i64 next,.int .i64 b,.int .u32 c,encL 5 encX e,za d]] (·=.bool (zQ op var width next b c d.length)):=by
 refine fn_x zcd rfl ?_;refine dcU zbC.eq_1 ?_;have g:=hBig;refine Qe ?_;intros;by_cases j:var=0<;>(refine Qe ?_;intros)
 case neg=>exact bxO (by unfold zQ;exact lb)
 by_cases k:width=0<;>(refine Qe ?_;intros)
 case neg=>exact bxO (by unfold zQ;exact lb)
 by_cases m:next=0<;>(refine Qe ?_;intros)
 case neg=>exact bxO (by unfold zQ;exact lb)
 by_cases n:b=0<;>(refine Qe ?_;intros)
 case neg=>exact bxO (by unfold zQ;exact lb)
 by_cases o:c=0<;>(refine Qe ?_;intros)
 case neg=>exact bxO (by unfold zQ;exact lb)
 exact bxO (by unfold zQ;exact lb)
theorem zyT(op var width next b c)(e)(d)(h:op=10):zw Z9 zbs [.agg [.int .i64 op,.int .i64 var,.int .i64 width,.int .i64 next,.int .i64 b,.int .u32 c,encL 5 encX e,za d]] (·=.bool (zQ op var width next b c d.length)):=by
 refine fn_x zcd rfl ?_;refine dcU zbC.eq_1 ?_;have g:=hBig;refine Qe ?_;intros;by_cases j:var=0<;>(refine Qe ?_;intros)
 case neg=>exact bxO (by unfold zQ;exact lb)
 by_cases k:width=0<;>(refine Qe ?_;intros)
 case neg=>exact bxO (by unfold zQ;exact lb)
 by_cases m:next=0<;>(refine Qe ?_;intros)
 case neg=>exact bxO (by unfold zQ;exact lb)
 by_cases n:b=0<;>(refine Qe ?_;intros)
 case neg=>exact bxO (by unfold zQ;exact lb)
 by_cases o:c=0<;>(refine Qe ?_;intros)
 case neg=>exact bxO (by unfold zQ;exact lb)
 exact bxO (by unfold zQ;exact lb)
theorem zzt(op var width next b c)(e)(d)(t:1<=op)(u:op<=10):zw Z9 zbs [.agg [.int .i64 op,.int .i64 var,.int .i64 width,.int .i64 next,.int .i64 b,.int .u32 c,encL 5 encX e,za d]] (·=.bool (zQ op var width next b c d.length)):=by
 by_cases h:op=1
 .exact zAy op var width next b c e d h
 by_cases j:op=2
 .exact zBJ op var width next b c e d j
 by_cases k:op=3
 .exact zAe op var width next b c e d k
 by_cases m:op=4
 .exact zBV op var width next b c e d m
 by_cases n:op=5
 .exact zAR op var width next b c e d n
 by_cases o:op=6
 .exact zz2 op var width next b c e d o
 by_cases p:op=7
 .exact zAz op var width next b c e d p
 by_cases q:op=8
 .exact zBw op var width next b c e d q
 by_cases s:op=9
 .exact zAj op var width next b c e d s
 by_cases g:op=10
 .exact zyT op var width next b c e d g
 omega
theorem Qb{p q:Prop}(k:q)(h:Im q p:=by(repeat first|simp(disch:=try exact dis1) only[evD,Nat.reduceBEq,Nat.reduceAdd,Nat.reduceLeDiff,dT,dF,fldP,za,zm]|((with_reducible apply Im.i);intro _)|((with_reducible apply Im.a);omega));exact Im.r):p:=h k
theorem zC4(op var width next b c)(e)(d)(h:op=1):zw Z9 zbX [.agg [.int .i64 op,.int .i64 var,.int .i64 width,.int .i64 next,.int .i64 b,.int .u32 c,encL 5 encX e,za d]] (·=.bool (zG op var width next b c d.length)):=by
 refine fn_x zcT rfl ?_;refine dcU zcf.eq_1 ?_;have g:=hBig;refine Qb ?_;intros;refine zg (ze (zmn var) rfl) ?_;unfold zy6;by_cases j:0<=var/\var<65536<;>(refine Qb ?_;intros)
 case neg=>exact bxO (by unfold zG;exact lb)
 by_cases k:width=0<;>(refine Qb ?_;intros)
 case neg=>exact bxO (by unfold zG;exact lb)
 by_cases m:c=0<;>(refine Qb ?_;intros)
 case neg=>exact bxO (by unfold zG;exact lb)
 by_cases n:next=0<;>(refine Qb ?_;intros)
 case neg=>exact bxO (by unfold zG;exact lb)
 by_cases o:b=0<;>(refine Qb ?_;intros)
 case neg=>exact bxO (by unfold zG;exact lb)
 exact bxO (by unfold zG;exact lb)
theorem zCg(op var width next b c)(e)(d)(h:op=2):zw Z9 zbX [.agg [.int .i64 op,.int .i64 var,.int .i64 width,.int .i64 next,.int .i64 b,.int .u32 c,encL 5 encX e,za d]] (·=.bool (zG op var width next b c d.length)):=by
 refine fn_x zcT rfl ?_;refine dcU zcf.eq_1 ?_;have g:=hBig;refine Qb ?_;intros;refine zg (ze (zt9 width) rfl) ?_;unfold zzr;by_cases j:width=1\/width=2\/width=4<;>(refine Qb ?_;intros)
 case neg=>exact bxO (by unfold zG;exact lb)
 by_cases k:var=0<;>(refine Qb ?_;intros)
 case neg=>exact bxO (by unfold zG;exact lb)
 by_cases m:c=0<;>(refine Qb ?_;intros)
 case neg=>exact bxO (by unfold zG;exact lb)
 by_cases n:next=0<;>(refine Qb ?_;intros)
 case neg=>exact bxO (by unfold zG;exact lb)
 by_cases o:b=0<;>(refine Qb ?_;intros)
 case neg=>exact bxO (by unfold zG;exact lb)
 exact bxO (by unfold zG;exact lb)
theorem zDH(op var width next b c)(e)(d)(h:op=3):zw Z9 zbX [.agg [.int .i64 op,.int .i64 var,.int .i64 width,.int .i64 next,.int .i64 b,.int .u32 c,encL 5 encX e,za d]] (·=.bool (zG op var width next b c d.length)):=by
 refine fn_x zcT rfl ?_;refine dcU zcf.eq_1 ?_;have g:=hBig;refine Qb ?_;intros;refine zg (ze (zmn var) rfl) ?_;unfold zy6;by_cases j:0<=var/\var<65536<;>(refine Qb ?_;intros)
 case neg=>exact bxO (by unfold zG;exact lb)
 by_cases k:width=0<;>(refine Qb ?_;intros)
 case neg=>exact bxO (by unfold zG;exact lb)
 by_cases m:c=0<;>(refine Qb ?_;intros)
 case neg=>exact bxO (by unfold zG;exact lb)
 by_cases n:next=0<;>(refine Qb ?_;intros)
 case neg=>exact bxO (by unfold zG;exact lb)
 by_cases o:b=0<;>(refine Qb ?_;intros)
 case neg=>exact bxO (by unfold zG;exact lb)
 exact bxO (by unfold zG;exact lb)
theorem zCw(op var width next b c)(e)(d)(h:op=4):zw Z9 zbX [.agg [.int .i64 op,.int .i64 var,.int .i64 width,.int .i64 next,.int .i64 b,.int .u32 c,encL 5 encX e,za d]] (·=.bool (zG op var width next b c d.length)):=by
 refine fn_x zcT rfl ?_;refine dcU zcf.eq_1 ?_;have g:=hBig;refine Qb ?_;intros;by_cases j:var=0<;>(refine Qb ?_;intros)
 case neg=>exact bxO (by unfold zG;exact lb)
 by_cases k:width=0<;>(refine Qb ?_;intros)
 case neg=>exact bxO (by unfold zG;exact lb)
 by_cases m:c=0<;>(refine Qb ?_;intros)
 case neg=>exact bxO (by unfold zG;exact lb)
 by_cases n:next=0<;>(refine Qb ?_;intros)
 case neg=>exact bxO (by unfold zG;exact lb)
 by_cases o:b=0<;>(refine Qb ?_;intros)
 case neg=>exact bxO (by unfold zG;exact lb)
 exact bxO (by unfold zG;exact lb)
theorem zCb(op var width next b c)(e)(d)(h:op=5):zw Z9 zbX [.agg [.int .i64 op,.int .i64 var,.int .i64 width,.int .i64 next,.int .i64 b,.int .u32 c,encL 5 encX e,za d]] (·=.bool (zG op var width next b c d.length)):=by
 refine fn_x zcT rfl ?_;refine dcU zcf.eq_1 ?_;have g:=hBig;refine Qb ?_;intros;by_cases j:var=0<;>(refine Qb ?_;intros)
 case neg=>exact bxO (by unfold zG;exact lb)
 by_cases k:width=0<;>(refine Qb ?_;intros)
 case neg=>exact bxO (by unfold zG;exact lb)
 by_cases m:next=0<;>(refine Qb ?_;intros)
 case neg=>exact bxO (by unfold zG;exact lb)
 by_cases n:b=0<;>(refine Qb ?_;intros)
 case neg=>exact bxO (by unfold zG;exact lb)
 exact bxO (by unfold zG;exact lb)
theorem zDQ(op var width next b c)(e)(d)(h:op=6):zw Z9 zbX [.agg [.int .i64 op,.int .i64 var,.int .i64 width,.int .i64 next,.int .i64 b,.int .u32 c,encL 5 encX e,za d]] (·=.bool (zG op var width next b c d.length)):=by
 refine fn_x zcT rfl ?_;refine dcU zcf.eq_1 ?_;have g:=hBig;refine Qb ?_;intros;by_cases j:var=0<;>(refine Qb ?_;intros)
 case neg=>exact bxO (by unfold zG;exact lb)
 by_cases k:width=0<;>(refine Qb ?_;intros)
 case neg=>exact bxO (by unfold zG;exact lb)
 by_cases m:c=0<;>(refine Qb ?_;intros)
 case neg=>exact bxO (by unfold zG;exact lb)
 by_cases n:b=0<;>(refine Qb ?_;intros)
 case neg=>exact bxO (by unfold zG;exact lb)
 exact bxO (by unfold zG;exact lb)
theorem zDt(op var width next c b)(e)(d)(h:op=7):zw Z9 zbX [.agg [.int .i64 op,.int .i64 var,.int .i64 width,.int .i64 next,.int .i64 c,.int .u32 b,encL 5 encX e,za d]] (·=.bool (zG op var width next c b d.length)):=by
 refine fn_x zcT rfl ?_;refine dcU zcf.eq_1 ?_;have g:=hBig;by_cases j:var=0
 case neg=>
  ((refine Qb ?_;intros);(repeat' with_reducible apply Wj)<;>(refine Qb ?_;intros);all_goals(exact bxO (by unfold zG;exact lb)))
 by_cases k:width=0
 case neg=>
  ((refine Qb ?_;intros);(repeat' with_reducible apply Wj)<;>(refine Qb ?_;intros);all_goals(exact bxO (by unfold zG;exact lb)))
 by_cases m:b=0
 case neg=>
  ((refine Qb ?_;intros);(repeat' with_reducible apply Wj)<;>(refine Qb ?_;intros);all_goals(exact bxO (by unfold zG;exact lb)))
 by_cases n:d.length=0
 case neg=>
  ((refine Qb ?_;intros);(repeat' with_reducible apply Wj)<;>(refine Qb ?_;intros);all_goals(exact bxO (by unfold zG;exact lb)))
 ((refine Qb ?_;intros);(repeat' with_reducible apply Wj)<;>(refine Qb ?_;intros);all_goals(exact bxO (by unfold zG;exact lb)))
theorem zCX(op var width next b c)(e)(d)(h:op=8):zw Z9 zbX [.agg [.int .i64 op,.int .i64 var,.int .i64 width,.int .i64 next,.int .i64 b,.int .u32 c,encL 5 encX e,za d]] (·=.bool (zG op var width next b c d.length)):=by
 refine fn_x zcT rfl ?_;refine dcU zcf.eq_1 ?_;have k:=hBig;refine Qb ?_;intros;by_cases g:1<=d.length<;>(refine Qb ?_;intros)
 case neg=>exact bxO (by unfold zG;exact lb)
 by_cases j:d.length<=64<;>(refine Qb ?_;intros)
 case neg=>exact bxO (by unfold zG;exact lb)
 by_cases m:var=0<;>(refine Qb ?_;intros)
 case neg=>exact bxO (by unfold zG;exact lb)
 by_cases n:width=0<;>(refine Qb ?_;intros)
 case neg=>exact bxO (by unfold zG;exact lb)
 by_cases o:c=0<;>(refine Qb ?_;intros)
 case neg=>exact bxO (by unfold zG;exact lb)
 by_cases p:next=0<;>(refine Qb ?_;intros)
 case neg=>exact bxO (by unfold zG;exact lb)
 by_cases q:b=0<;>(refine Qb ?_;intros)
 case neg=>exact bxO (by unfold zG;exact lb)
 exact bxO (by unfold zG;exact lb)
theorem zDq(op var width next b c)(e)(d)(h:op=9):zw Z9 zbX [.agg [.int .i64 op,.int .i64 var,.int .i64 width,.int .i64 next,.int .i64 b,.int .u32 c,encL 5 encX e,za d]] (·=.bool (zG op var width next b c d.length)):=by
 refine fn_x zcT rfl ?_;refine dcU zcf.eq_1 ?_;have g:=hBig;refine Qb ?_;intros;by_cases j:var=0<;>(refine Qb ?_;intros)
 case neg=>exact bxO (by unfold zG;exact lb)
 by_cases k:width=0<;>(refine Qb ?_;intros)
 case neg=>exact bxO (by unfold zG;exact lb)
 by_cases m:c=0<;>(refine Qb ?_;intros)
 case neg=>exact bxO (by unfold zG;exact lb)
 by_cases n:next=0<;>(refine Qb ?_;intros)
 case neg=>exact bxO (by unfold zG;exact lb)
 by_cases o:b=0<;>(refine Qb ?_;intros)
 case neg=>exact bxO (by unfold zG;exact lb)
 exact bxO (by unfold zG;exact lb)
theorem zB2(op var width next b c)(e)(d)(h:op=10):zw Z9 zbX [.agg [.int .i64 op,.int .i64 var,.int .i64 width,.int .i64 next,.int .i64 b,.int .u32 c,encL 5 encX e,za d]] (·=.bool (zG op var width next b c d.length)):=by
 refine fn_x zcT rfl ?_;refine dcU zcf.eq_1 ?_;have g:=hBig;refine Qb ?_;intros;by_cases j:var=0<;>(refine Qb ?_;intros)
 case neg=>exact bxO (by unfold zG;exact lb)
 by_cases k:width=0<;>(refine Qb ?_;intros)
 case neg=>exact bxO (by unfold zG;exact lb)
 by_cases m:c=0<;>(refine Qb ?_;intros)
 case neg=>exact bxO (by unfold zG;exact lb)
 by_cases n:next=0<;>(refine Qb ?_;intros)
 case neg=>exact bxO (by unfold zG;exact lb)
 by_cases o:b=0<;>(refine Qb ?_;intros)
 case neg=>exact bxO (by unfold zG;exact lb)
 exact bxO (by unfold zG;exact lb)
theorem zBa(op var width next b c)(e)(d)(t:1<=op)(u:op<=10):zw Z9 zbX [.agg [.int .i64 op,.int .i64 var,.int .i64 width,.int .i64 next,.int .i64 b,.int .u32 c,encL 5 encX e,za d]] (·=.bool (zG op var width next b c d.length)):=by
 by_cases h:op=1
 .exact zC4 op var width next b c e d h
 by_cases j:op=2
 .exact zCg op var width next b c e d j
 by_cases k:op=3
 .exact zDH op var width next b c e d k
 by_cases m:op=4
 .exact zCw op var width next b c e d m
 by_cases n:op=5
 .exact zCb op var width next b c e d n
 by_cases o:op=6
 .exact zDQ op var width next b c e d o
 by_cases p:op=7
 .exact zDt op var width next b c e d p
 by_cases q:op=8
 .exact zCX op var width next b c e d q
 by_cases s:op=9
 .exact zDq op var width next b c e d s
 by_cases g:op=10
 .exact zB2 op var width next b c e d g
 omega
def zkO:List Ex->Int
 |[]=>0
 |x::l=>if zmx x≠0 then zmx x else zkO l
theorem zwA{l:List Ex}{i:Nat}(h:i<l.length):zkO (l.drop i)=if zmx l[i]≠0 then zmx l[i]else zkO (l.drop (i+1)):=by rw[Wk h,zkO]
def zyE(op var b next c d:Int)(e:List Ex)(g:List Int):Int :=
 if (op<1\/10<op)\/zat op≠e.length then 2 else if zkO e≠0 then zkO e else if zG op var b next c d g.length=true then 0 else 2
theorem Qj{p q:Prop}(k:q)(h:Im q p:=by(repeat first|simp(disch:=try exact dis1) only[evD,Nat.reduceBEq,Nat.reduceAdd,Nat.reduceLeDiff,dT,dF,fldP,za,zJ]|((with_reducible apply Im.i);intro _)|((with_reducible apply Im.a);omega));exact Im.r):p:=h k
theorem Ql{p q:Prop}(k:q)(h:Im q p:=by(repeat first|simp(disch:=try exact dis1) only[evD,Nat.reduceBEq,Nat.reduceAdd,Nat.reduceLeDiff,fldP,zC,tab,List.getD_cons_zero,List.getD_cons_succ,za]|((with_reducible apply Im.i);intro _)|((with_reducible apply Im.a);omega));exact Im.r):p:=h k
theorem ua:type_of% @za.eq_1:=@za.eq_1
theorem zu2(op var width next d g)(e)(j):zw Z9 zhz [.agg [.int .i64 op,.int .i64 var,.int .i64 width,.int .i64 next,.int .i64 d,.int .u32 g,encL 5 encX e,za j]] (·=.int .i64 (zyE op var width next d g e j)):=by
 refine fn_x zuS rfl ?_;unfold zow zyE;conv in Z8 _ _=>reduce
 have y:=hBig;by_cases o:1<=op;case neg=>rw[if_pos (by omega)];refine Qj ?_;intros;exact izO
 by_cases p:op<=10;case neg=>rw[if_pos (by omega)];refine Qj ?_;intros;exact izO
 refine Gw3 @dF @ub @ua ?_;intros;refine zF (ze (zBb op o p) rfl) ?_;generalize zat op=n;by_cases x:n=e.length;case neg=>rw[if_pos (by omega)];refine Qj ?_;intros;exact izO
 rw[if_neg (by omega)];refine Gw4 @dT @dF @ub @ua ?_;intros;refine zc (λi:Nat=>([(1,encP 8 [.int .i64 op,.int .i64 var,.int .i64 width,.int .i64 next,.int .i64 d,.int .u32 g,encL 5 encX e,za j]),(3,.int .i64 i)],[])) 0 (λi=>i<=e.length/\zkO (e.drop i)=zkO e) (λi=>e.length-i) 0 ⟨We _,rfl⟩ (Xb rfl fin5) ?_;rintro i ⟨A,b⟩ wf;refine dcU zkF.eq_1 ?_;by_cases q:i<e.length
 .rw[zwA q]at b;refine Gw5 @ub @dT (gmp q) @zam @zab ?_;intros;refine zg (ze (zuy e[i]) (flX rfl)) ?_;by_cases s:zmx e[i]=0
  .rw[if_neg (by omega)]at b;refine Qa ?_;intros;exact⟨i+1,⟨by omega,b⟩,by omega,Xb rfl fin5⟩
  .rw[if_pos s]at b;rw[<-b,if_pos s];refine Gw2 @dT @zJ.eq_1 ?_;intros;exact izO
 rw[Wg (by omega),zkO]at b;rw[<-b,if_neg (by omega)];refine Qi ?_;intros;refine dcU zk5.eq_1 ?_;refine Ql ?_;intros;refine zg (ze (zzt op var width next d g e j o p) rfl) ?_
 cases m:zQ op var width next d g j.length with
 |false=>unfold zQ at m;have c:=of_decide_eq_false m;rw[if_neg (by unfold zG;rw[dF (λh=>c h.1)];simp)];refine Qj ?_;intros;exact izO
 |true=>
  unfold zQ at m;have c:=of_decide_eq_true m;refine Qj ?_;intros;refine zg (ze (zue var) rfl) ?_;unfold zy6;by_cases k:0<=var/\var<65536;case neg=>rw[if_neg (by unfold zG;rw[dF (λh=>k h.2.1)];simp)];refine Qj ?_;intros;exact izO
  refine Qj ?_;intros;by_cases u:op=2
  ·(refine Qj ?_;intros);by_cases B:width=1
   .rw[if_pos (by unfold zG;exact dT ⟨c,k,by omega,by omega⟩)];refine Qj ?_;intros;exact izO
   refine Qj ?_;intros;by_cases C:width=2
   .rw[if_pos (by unfold zG;exact dT ⟨c,k,by omega,by omega⟩)];refine Qj ?_;intros;exact izO
   refine Qj ?_;intros;by_cases D:width=4
   .rw[if_pos (by unfold zG;exact dT ⟨c,k,by omega,by omega⟩)];refine Qj ?_;intros;exact izO
   rw[if_neg (by unfold zG;rw[dF (λh=>by have:=h.2.2.1 u;omega)];simp)];refine Qj ?_;intros;exact izO
  refine Qj ?_;intros;by_cases t:op=8
  ·(refine Qj ?_;intros);by_cases v:1<=j.length;case neg=>rw[if_neg (by unfold zG;rw[dF (λh=>by have:=h.2.2.2 t;omega)];simp)];refine Qj ?_;intros;exact izO
   refine Qj ?_;intros;by_cases w:j.length<=64;case neg=>rw[if_neg (by unfold zG;rw[dF (λh=>by have:=h.2.2.2 t;omega)];simp)];refine Qj ?_;intros;exact izO
   rw[if_pos (by unfold zG;exact dT ⟨c,k,by omega,by omega⟩)];refine Qj ?_;intros;exact izO
  rw[if_pos (by unfold zG;exact dT ⟨c,k,by omega,by omega⟩)];refine Qj ?_;intros;exact izO
theorem zCK{op}:zat op<0↔(op<1\/10<op):=by
 unfold zat;constructor
 .intro h
  repeat' split at h
  all_goals omega
 .intro h;rw[if_neg (by omega),if_neg (by omega),if_neg (by omega)];omega
theorem Qn{p:Prop}(h:p:=by(try simp only[evWB,Nat.reduceBEq,Nat.reduceAdd,Nat.reduceSub,Nat.reduceLeDiff,Nat.reduceLT,implies_true])<;>exact fin2):p:=h
theorem zvx(op var b next d j)(e)(k):zw Z9 ziJ [.agg [.int .i64 op,.int .i64 var,.int .i64 b,.int .i64 next,.int .i64 d,.int .u32 j,encL 5 encX e,za k]] (·=.int .i64 (zyE op var b next d j e k)):=by
 refine fn_x zvg rfl ?_;unfold zpE zyE;conv in Z8 _ _=>reduce
 have t:=hBig;refine Gw5 @dT @dF @ub @ua @zbH.eq_1 ?_;intros;refine zg (ze (ztz op) rfl) ?_;have g:=zCK (op:=op);generalize zat op=n at g⊢;by_cases m:n<0
 .rw[if_pos (.inl (g.1 m))];refine Gw5 @dT @dF @ub @ua @zbH.eq_1 ?_;intros;exact izO
 have s:¬(op<1\/10<op):=λh=>m (g.2 h)
 refine Gw5 @dT @dF @ub @ua @zbH.eq_1 ?_;intros;by_cases q:n=e.length;case neg=>rw[if_pos (.inr q)];refine Gw5 @dT @dF @ub @ua @zbH.eq_1 ?_;intros;exact izO
 rw[if_neg (by omega)];refine Gw5 @dT @dF @ub @ua @zbH.eq_1 ?_;intros;refine zc (λi:Nat=>([(1,encP 8 [.int .i64 op,.int .i64 var,.int .i64 b,.int .i64 next,.int .i64 d,.int .u32 j,encL 5 encX e,za k]),(20,encL 5 encX e),(21,.int .i64 e.length),(22,.int .i64 i)],[])) 0 (λi=>i<=e.length/\zkO (e.drop i)=zkO e) (λi=>e.length-i) 0 ⟨We _,rfl⟩ (Xb rfl fin5) ?_;rintro i ⟨u,c⟩ wf;refine dcU zlN.eq_1 ?_;by_cases o:i<e.length
 .rw[zwA o]at c;refine Gw5 @ub @dT (gmp o) @zam @zab ?_;intros;refine zg (ze (zwz e[i]) (flX rfl)) ?_;by_cases p:zmx e[i]=0
  .rw[if_neg (by omega)]at c;refine Qa ?_;intros;exact⟨i+1,⟨by omega,c⟩,by omega,(Ent.tab [] [] rfl Qn Qn)⟩
  .rw[if_pos p]at c;rw[<-c,if_pos p];refine Gw2 @dT @zbH.eq_1 ?_;intros;exact izO
 rw[Wg (by omega),zkO]at c;rw[<-c,if_neg (by omega)];refine Qi ?_;intros;refine dcU zlJ.eq_1 ?_;refine Ql ?_;intros;refine zg (ze (zBa op var b next d j e k (by omega) (by omega)) rfl) ?_
 cases zG op var b next d j k.length with
 |false=>refine Gw5 @dT @dF @ub @ua @zbH.eq_1 ?_;intros;exact izO
 |true=>refine Gw5 @dT @dF @ub @ua @zbH.eq_1 ?_;intros;exact izO
structure St where
 op:Int
 var:Int
 width:Int
 next:Int
 els:Int
 tgt:Int
 e:List Ex
 cases:List Int
def St.cells(s:St):List AV:=[.int .i64 s.op,.int .i64 s.var,.int .i64 s.width,.int .i64 s.next,.int .i64 s.els,.int .u32 s.tgt,encL 5 encX s.e,za s.cases]
structure Bl where
 addr:Int
 stmts:List St
def Bl.cells(b:Bl):List AV:=[.int .u32 b.addr,encL 8 St.cells b.stmts]
structure G where
 addr:Int
 blocks:List Bl
def G.cells(g:G):List AV:=[.int .u32 g.addr,encL 2 Bl.cells g.blocks]
theorem St.len(s:St):s.cells.length=8:=rfl
theorem St.flat(s:St):zR s.cells=true:=rfl
theorem St.eight(s:St):[s.cells.getD 0 .undef,s.cells.getD 1 .undef,s.cells.getD 2 .undef,s.cells.getD 3 .undef,s.cells.getD 4 .undef,s.cells.getD 5 .undef,s.cells.getD 6 .undef,s.cells.getD 7 .undef]=s.cells:=rfl
def zmF(s:St):Bool:=decide (6<=s.op/\s.op<=10)
def znC(s:St):List Int:=if s.op=6 then[s.next]else if s.op=7 then[s.next,s.els]else if s.op=8 then s.cases else[]
def St.check(s:St):Int:=zyE s.op s.var s.width s.next s.els s.tgt s.e s.cases
theorem zuX(s:St):zw Z9 zhz [.agg s.cells] (·=.int .i64 s.check):=zu2 _ _ _ _ _ _ _ _
theorem zvI(s:St):zw Z9 ziJ [.agg s.cells] (·=.int .i64 s.check):=zvx _ _ _ _ _ _ _ _
theorem uc:type_of% @St.cells.eq_1:=@St.cells.eq_1
theorem zDh(s):zw Z9 ztw [.agg s.cells] (·=.bool (zmF s)):=by
 refine fn_x zCF rfl ?_;refine dcU zwW.eq_1 ?_;have j:=hBig;obtain⟨op,var,b,next,c,d,e,g⟩:=s;unfold zmF;by_cases h:6<=op
 ·(refine Gw5 @dT @ub @ua @uc @zrg.eq_1 ?_;intros);exact bxO (decide_eq_decide.2 (by omega))
 ·(refine Gw5 @dF @ub @ua @uc @zrg.eq_1 ?_;intros);exact bzO
theorem zoe(s):zw Z9 zfr [.agg s.cells] (·=.bool (zmF s)):=by
 refine fn_x zuH rfl ?_;refine dcU zoc.eq_1 ?_;have j:=hBig;obtain⟨op,var,b,next,c,d,e,g⟩:=s;unfold zmF;by_cases h:6<=op
 ·(refine Gw5 @dT @ub @ua @uc @zi8.eq_1 ?_;intros);exact bxO (decide_eq_decide.2 (by omega))
 ·(refine Gw5 @dF @ub @ua @uc @zi8.eq_1 ?_;intros);exact bzO
theorem zxi(s):zw Z9 znN [.agg s.cells] (·=za (znC s)):=by
 refine fn_x zxq rfl ?_;refine dcU zqM.eq_1 ?_;have m:=hBig;obtain⟨op,var,c,next,b,j,e,k⟩:=s;unfold znC;simp only;by_cases d:op=6
 .rw[if_pos d];refine Gw6 @dT @dF @ub @ua @uc @zgk.eq_1 ?_;intros;exact⟨_,zbv (l:=[next]) trivial rfl (by simp only[List.length_singleton];omega),rfl⟩
 rw[if_neg d];by_cases g:op=7
 .rw[if_pos g];refine Gw6 @dT @dF @ub @ua @uc @zgk.eq_1 ?_;intros;exact⟨_,zbv (l:=[next,b]) trivial rfl (by simp only[List.length_cons,List.length_nil];omega),rfl⟩
 rw[if_neg g];by_cases h:op=8
 .rw[if_pos h];refine Gw6 @dT @dF @ub @ua @uc @zgk.eq_1 ?_;intros;exact⟨_,zM rfl,rfl⟩
 rw[if_neg h];refine Gw6 @dT @dF @ub @ua @uc @zgk.eq_1 ?_;intros;exact⟨_,zbv (l:=[]) trivial rfl (by simp only[List.length_nil];omega),rfl⟩
end Go.Ab
namespace Go.Ab
open Go.RowKit Go.Proofs Go.Proofs.YtihlaappclhhaaaGreat
section
variable {HH:Type}{enc:TypeId×Value->HH}{w:World}{base:Nat}{spare:Nat->Bool}{held:Bool}{L:Nat->Prop} (hL:∀b,¬L b)
include hL
theorem zLb{fuel}{o}{y:DataW HH×List MemPlace}(h:Xa enc Z9 w base spare held fuel 77 o=some y):∃s:St,ElOk w L o s.cells:=by
 have D:Tryz.prog.cellsOf 44=5:=by kernel_rfl
 obtain⟨d,n,rfl,rfl,m,F,k⟩:=Xd Tryz.underlying77 h;have Q:Tryz.prog.cellsOf 77=8:=by kernel_rfl
 have e:Tryz.prog.cellsOf 3=1:=by kernel_rfl
 have p:Tryz.prog.cellsOf 24=1:=by kernel_rfl
 have q:Tryz.prog.cellsOf 35=1:=by kernel_rfl
 have t:Tryz.prog.cellsOf 42=1:=by kernel_rfl
 rw[Q]at m;have c:∀i,i<8->d[i]?=some (d.getD i (.nil,[])):=λi S=>by rw[Wf,Wh (by rw[F];exact S)];rfl
 match o,m with
 |[c0,c1,c2,c3,c4,c5,c6,c7],_=>
  have u:Xa enc Z9 w base spare held n 3 (([c0,c1,c2,c3,c4,c5,c6,c7].drop 0).take (Tryz.prog.cellsOf 3))=some (d.getD 0 (.nil,[])):=(k 0 _ rfl).trans (c 0 (by decide));rw[e]at u;replace u:Xa enc Z9 w base spare held n 3 [c0]=some (d.getD 0 (.nil,[])):=u;have v:Xa enc Z9 w base spare held n 3 (([c0,c1,c2,c3,c4,c5,c6,c7].drop 1).take (Tryz.prog.cellsOf 3))=some (d.getD 1 (.nil,[])):=(k 1 _ rfl).trans (c 1 (by decide));rw[e]at v;replace v:Xa enc Z9 w base spare held n 3 [c1]=some (d.getD 1 (.nil,[])):=v;have x:Xa enc Z9 w base spare held n 3 (([c0,c1,c2,c3,c4,c5,c6,c7].drop 2).take (Tryz.prog.cellsOf 3))=some (d.getD 2 (.nil,[])):=(k 2 _ rfl).trans (c 2 (by decide));rw[e]at x;replace x:Xa enc Z9 w base spare held n 3 [c2]=some (d.getD 2 (.nil,[])):=x;have A:Xa enc Z9 w base spare held n 3 (([c0,c1,c2,c3,c4,c5,c6,c7].drop 3).take (Tryz.prog.cellsOf 3))=some (d.getD 3 (.nil,[])):=(k 3 _ rfl).trans (c 3 (by decide));rw[e]at A;replace A:Xa enc Z9 w base spare held n 3 [c3]=some (d.getD 3 (.nil,[])):=A;have B:Xa enc Z9 w base spare held n 3 (([c0,c1,c2,c3,c4,c5,c6,c7].drop 4).take (Tryz.prog.cellsOf 3))=some (d.getD 4 (.nil,[])):=(k 4 _ rfl).trans (c 4 (by decide));rw[e]at B;replace B:Xa enc Z9 w base spare held n 3 [c4]=some (d.getD 4 (.nil,[])):=B;have f5:Xa enc Z9 w base spare held n 24 (([c0,c1,c2,c3,c4,c5,c6,c7].drop 5).take (Tryz.prog.cellsOf 24))=some (d.getD 5 (.nil,[])):=(k 5 _ rfl).trans (c 5 (by decide));rw[p]at f5;replace f5:Xa enc Z9 w base spare held n 24 [c5]=some (d.getD 5 (.nil,[])):=f5;have C:Xa enc Z9 w base spare held n 42 (([c0,c1,c2,c3,c4,c5,c6,c7].drop 6).take (Tryz.prog.cellsOf 42))=some (d.getD 6 (.nil,[])):=(k 6 _ rfl).trans (c 6 (by decide));rw[t]at C;replace C:Xa enc Z9 w base spare held n 42 [c6]=some (d.getD 6 (.nil,[])):=C;have f7:Xa enc Z9 w base spare held n 35 (([c0,c1,c2,c3,c4,c5,c6,c7].drop 7).take (Tryz.prog.cellsOf 35))=some (d.getD 7 (.nil,[])):=(k 7 _ rfl).trans (c 7 (by decide));rw[q]at f7;replace f7:Xa enc Z9 w base spare held n 35 [c7]=some (d.getD 7 (.nil,[])):=f7;obtain⟨W,H,w0⟩:=zmY Xc u;obtain⟨X,I,w1⟩:=zmY Xc v;obtain⟨Y,J,w2⟩:=zmY Xc x;obtain⟨Z,K,w3⟩:=zmY Xc A;obtain⟨n4,M,w4⟩:=zmY Xc B;obtain⟨n5,N,w5⟩:=zmY Xe f5;obtain⟨U,v6,O,o6,w6⟩:=zAo (L:=L) (α:=Ex) (cells:=encX) hL Tryz.underlying42 D (λg R o y h _=>zLJ hL g g (Wi _) o y h) C;obtain⟨V,v7,P,o7,w7⟩:=zwQ Tryz.underlying35 Xc e hL f7;cases H;cases I;cases J;cases K;cases M;cases N;cases O;cases P;refine⟨⟨W,X,Y,Z,n4,n5,U,V⟩,λj T=>?_⟩
  match j with
  |0=>exact⟨.int _ _ _ w0,rfl⟩
  |1=>exact⟨.int _ _ _ w1,rfl⟩
  |2=>exact⟨.int _ _ _ w2,rfl⟩
  |3=>exact⟨.int _ _ _ w3,rfl⟩
  |4=>exact⟨.int _ _ _ w4,rfl⟩
  |5=>exact⟨.int _ _ _ w5,rfl⟩
  |6=>exact⟨w6 _,o6⟩
  |7=>exact⟨w7 _,o7⟩
  |j+8=>exact absurd T (by simp)
theorem zJ7{fuel}{cs}{y:DataW HH×List MemPlace}(h:Xa enc Z9 w base spare held fuel 81 cs=some y):∃b:Bl,ElOk w L cs b.cells:=by
 have p:Tryz.prog.cellsOf 77=8:=by kernel_rfl
 obtain⟨e,n,rfl,rfl,d,q,s⟩:=Xd Tryz.underlying81 h;have v:Tryz.prog.cellsOf 81=2:=by kernel_rfl
 have g:Tryz.prog.cellsOf 24=1:=by kernel_rfl
 have k:Tryz.prog.cellsOf 79=1:=by kernel_rfl
 rw[v]at d;have c:∀i,i<2->e[i]?=some (e.getD i (.nil,[])):=λi x=>by rw[Wf,Wh (by rw[q];exact x)];rfl
 match cs,d with
 |[c0,c1],_=>
  have m:Xa enc Z9 w base spare held n 24 (([c0,c1].drop 0).take (Tryz.prog.cellsOf 24))=some (e.getD 0 (.nil,[])):=(s 0 _ rfl).trans (c 0 (by decide));rw[g]at m;replace m:Xa enc Z9 w base spare held n 24 [c0]=some (e.getD 0 (.nil,[])):=m;have o:Xa enc Z9 w base spare held n 79 (([c0,c1].drop 1).take (Tryz.prog.cellsOf 79))=some (e.getD 1 (.nil,[])):=(s 1 _ rfl).trans (c 1 (by decide));rw[k]at o;replace o:Xa enc Z9 w base spare held n 79 [c1]=some (e.getD 1 (.nil,[])):=o;obtain⟨C,t,F⟩:=zmY Xe m;obtain⟨B,v1,u,D,H⟩:=zu5 (α:=St) (cells:=St.cells) (L:=L) Tryz.underlying79 p hL (λ_ _ _ h _=>zLb hL h) o;cases t;cases u;refine⟨⟨C,B⟩,λj A=>?_⟩
  match j with
  |0=>exact⟨.int _ _ _ F,rfl⟩
  |1=>exact⟨H _,D⟩
  |j+2=>exact absurd A (by simp)
theorem zJ1{fuel}{cs}{y:DataW HH×List MemPlace}(h:Xa enc Z9 w base spare held fuel 48 cs=some y):∃g:G,cs.length=2/\ElOk w L cs g.cells/\∀j,j<2->∀ι,VR w L ι (cs.getD j undef) (g.cells.getD j .undef):=by
 have q:Tryz.prog.cellsOf 81=2:=by kernel_rfl
 obtain⟨e,n,rfl,rfl,d,s,t⟩:=Xd Xf h;have C:Tryz.prog.cellsOf 48=2:=by kernel_rfl
 have k:Tryz.prog.cellsOf 24=1:=by kernel_rfl
 have m:Tryz.prog.cellsOf 46=1:=by kernel_rfl
 rw[C]at d;have c:∀i,i<2->e[i]?=some (e.getD i (.nil,[])):=λi D=>by rw[Wf,Wh (by rw[s];exact D)];rfl
 match cs,d with
 |[c0,c1],_=>
  have o:Xa enc Z9 w base spare held n 24 (([c0,c1].drop 0).take (Tryz.prog.cellsOf 24))=some (e.getD 0 (.nil,[])):=(t 0 _ rfl).trans (c 0 (by decide));rw[k]at o;replace o:Xa enc Z9 w base spare held n 24 [c0]=some (e.getD 0 (.nil,[])):=o;have p:Xa enc Z9 w base spare held n 46 (([c0,c1].drop 1).take (Tryz.prog.cellsOf 46))=some (e.getD 1 (.nil,[])):=(t 1 _ rfl).trans (c 1 (by decide));rw[m]at p;replace p:Xa enc Z9 w base spare held n 46 [c1]=some (e.getD 1 (.nil,[])):=p;obtain⟨H,A,v⟩:=zmY Xe o;obtain⟨F,v1,B,I,x⟩:=zu5 (α:=Bl) (cells:=Bl.cells) (L:=L) Tryz.underlying46 q hL (λ_ _ _ h _=>zJ7 hL h) p;cases A;cases B;refine⟨⟨H,F⟩,rfl,λj u=>?_,λj u ι=>?_⟩
  .match j with
   |0=>exact⟨.int _ _ _ v,rfl⟩
   |1=>exact⟨x _,I⟩
   |j+2=>exact absurd u (by simp)
  .match j with
   |0=>exact .int _ _ _ v
   |1=>exact x _
   |j+2=>omega
theorem open_graph{v:Value}{d:DataW HH}{q:List MemPlace}(m:Value.okWide Z9 w .any base 48 v){b2:Nat}(h:DataW.Trod enc Z9 w b2 spare held 48 v d q):∃g:G,True/\∀ι,VR w L ι v (.agg g.cells):=by
 obtain⟨k,x⟩:=h;unfold Value.okWide at m;rw[Xf]at m;simp only at m;obtain⟨c,rfl,_,_⟩:=m;have n:Xa enc Z9 w b2 spare held k 48 c.toList=some (d,q):=x;obtain⟨g,p,s,t⟩:=zJ1 hL n
 refine⟨g,trivial,λι=>.agg ι c _ (by
  have:c.size=2:=by simpa using p
  rw[this];rfl) (λi v e=>?_) (λi v a e u=>?_)⟩
 .have j:i<c.size:=by
   rcases Nat.lt_or_ge i c.size with h|h
   .exact h
   .rw[Wr h]at e;cases e
  have:=(s i (by simpa using j)).2;rw[Wf,Ws,e]at this;exact this
 .have j:i<c.size:=by
   rcases Nat.lt_or_ge i c.size with h|h
   .exact h
   .rw[Wr h]at e;cases e
  have o:i<2:=by rw[<-p];simpa using j
  have:=t i o ι;rw[Wf,Ws,e,Wf,u]at this;exact this
end
end Go.Ab
