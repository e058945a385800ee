/-
  Part 24 of the proof: how the calls of this program run, over values instead of memory, and what each function computes.
-/
import Derived.Test.YtmlhipilbnjhiaaGreatPw
set_option maxRecDepth 100000
set_option linter.unusedVariables false
set_option linter.unusedSimpArgs false
set_option linter.unnecessarySimpa false
set_option linter.unusedSectionVars false
open Go.Ab.TOk renaming cons->Xa,base->Xf
open Nat renaming reduceBEq->Xb,reduceAdd->Xc,reduceLeDiff->Xd,reduceSub->Xg,reduceLT->Xh,zero_add->Xq,beq->Xr,blt->Xs
open Go.Ab.Ent renaming tabB->Xe
open Go.Ab.AV renaming int->Xi,ren->Xl,agg->Xm,cells->Xn,tup->Xo,solid->Xp
open Go.Ab.RowV renaming of_flat->Xj
open Go.Ab.Bl renaming cells->Xk
open Go.Proofs.Tryz renaming prog->Z9
open And renaming intro→Wa
open List renaming range→Wc,length_cons→Wd,length_append→We,length_nil→Wf,length_singleton→Wg,map_nil→Wi,map_cons→Wj,mem_filter→Wk,length_map→Wm,append_assoc→Wn,append_nil→Wo,getElem_mem→Wp,length_range→Wq,map_append→Wr,replicate→Ws,mem_cons→Wt,mem_cons_self→Wu,mem_append→Ww,mem_of_getLast?→Wx,getD_cons_succ→Wy,getD_cons_zero→Wz,drop_eq_getElem_cons→WA,drop_of_length_le→WB,zipIdx_map_fst→WC,take_length→WD,length_take→WE,take_succ_eq_append_getElem→WF,singleton_append→WG,mem_cons_of_mem→WH,all_eq_true→WI
open Nat renaming zero_le→Wh,le_refl→Wl
open Bool renaming and_eq_true→Wv
namespace Go.Ab
open Go.RowKit Go.Proofs Go.Ab.Dm
section
variable {z:List AV}{H:AH}{nx:Nat}
theorem rbX1{e:Ex}:zcl 5 1 z [(0,.agg (encX e))] H nx=⟨True,True,encL 5 encX [e],H,nx⟩:=by have h:(zoQ 1 5 [(0,Xm (encX e))]/\(zdy (Ws 1 z) [(0,.agg (encX e))]).all zu=true)=True:=eq_true ⟨by simp[zoQ,Xn,zdZ,Xp],by simp[zdy,Xn,zm]⟩;unfold zcl;rw[h];rfl
theorem rbN1{e:Nd}:zcl 5 1 z [(0,.agg (encN e))] H nx=⟨True,True,encL 5 encN [e],H,nx⟩:=by have h:(zoQ 1 5 [(0,Xm (encN e))]/\(zdy (Ws 1 z) [(0,.agg (encN e))]).all zu=true)=True:=eq_true ⟨by simp[zoQ,Xn,zD,Xp],by simp[zdy,Xn,zt]⟩;unfold zcl;rw[h];rfl
theorem rbN2{a b:Nd}:zcl 5 2 z [(0,.agg (encN a)),(1,.agg (encN b))] H nx=⟨True,True,encL 5 encN [a,b],H,nx⟩:=by have h:(zoQ 2 5 [(0,Xm (encN a)),(1,Xm (encN b))]/\(zdy (Ws 2 z) [(0,.agg (encN a)),(1,.agg (encN b))]).all zu=true)=True:=eq_true ⟨by simp[zoQ,Xn,zD,Xp],by simp[zdy,Xn,zt]⟩;unfold zcl;rw[h];rfl
end
theorem zr1{H b:AH}{σ:Nat->Nat->Option (Nat×Nat×Nat)}{D:Nat->Nat->Prop}{t:Bool}{r q g n:Nat}{l:List Nd}(h:n=l.length)(c:D r q)(e:H.get r q=some (.row 5 (l.map encN) g))(d:n<=big):Vw H b σ D t (.own r q g 0 n) (encL 5 encN l):=by subst h;exact zyP c e d
def wayZ(b:Nat->Ctx->Nd)(inl:List Nat)(c:Ctx)(t:Int):Nd:=if t.toNat∈inl then b t.toNat c else zcY c t
def trZ(s:St)(b:Nat->Ctx->Nd)(inl:List Nat)(c:Ctx):Nd :=
 if s.op=6 then wayZ b inl c s.next
 else if s.op=7 then .mk ⟨3,0,0⟩ s.e [wayZ b inl c s.next,wayZ b inl c s.els]
 else if s.op=8 then .mk ⟨6,0,0⟩ s.e (s.cases.map (wayZ b inl c))
 else if s.op=9 then zag 11 0 0 else zag 12 0 0
theorem zHN{S:Shp}{b:Nat->Ctx->Nd}{k:Nat}{c:Ctx}:trN S b k c=trZ (S.last k) b (inlL S k) c:=rfl
theorem zzT{b:Nat->Ctx->Nd}{inl:List Nat}{c:Ctx}{u:Nat}:wayZ b inl c (u:Int)=wayI b inl c u:=by unfold wayZ wayI;rw[Int.toNat_natCast]
theorem zq4(g:G)(b:Nat->Ctx->Nd)(inl:List Nat)(c:Ctx)(t:Int)(n:0<=t)(d:∀x∈inl,zq9 g b x)(T:AH)(nx:Nat)(m:TOk nx T)(e:T.look 2=some (.row 1 [[.ptr 0 0 0 0 0]] 0)){k:AV->AH->Nat->Prop}(j:k (.agg (encN (wayZ b inl c t))) (bldH g T) nx):
  znj Z9 (.fn (.func zp) [.ptr 2 0 0 0 0,encP 1 [za inl],encP 3 [.int .i64 c.f,.int .i64 c.h,.int .i64 c.x]]) [.int .i64 t] (bldH g T) nx k:=by
 obtain⟨u,rfl⟩:∃u:Nat,t=u:=⟨t.toNat,by omega⟩;rw[zzT]at j;rw[zix];refine⟨by kernel_rfl,zK (zmb g b inl c u d T nx m 2 e) ?_⟩;rintro _ _ _ ⟨rfl,rfl,rfl⟩;exact j
theorem zFJ(g:G)(b:Nat->Ctx->Nd)(inl:List Nat)(c:Ctx)(t:Int)(k:0<=t)(d:∀x∈inl,zq9 g b x)(T:AH)(nx:Nat)(j:TOk nx T)(e:T.look 2=some (.row 1 [[.ptr 0 0 0 0 0]] 0)):
  zG Z9 zp [.int .i64 t,.ptr 2 0 0 0 0,encP 1 [za inl],encP 3 [.int .i64 c.f,.int .i64 c.h,.int .i64 c.x]] (bldH g T) nx (λv H n=>v=.agg (encN (wayZ b inl c t))/\H=bldH g T/\n=nx):=by
 obtain⟨u,rfl⟩:∃u:Nat,t=u:=⟨t.toNat,by omega⟩;rw[zzT];exact zmb g b inl c u d T nx j 2 e
theorem Qo{d e g j k p:Prop}(a0:d)(b:e)(c:g)(a3:j)(a4:k)(h:d->e->g->j->k->p:=by intro a0 b c a3 a4;(try simp only[evWB,Nat.reduceBEq,Nat.reduceAdd,Nat.reduceSub,Nat.reduceLeDiff,Nat.reduceLT,implies_true,a0,b,c,a3,a4])<;>(repeat' with_reducible apply And.intro)<;>first|(first|exact RowV.of_flat zz|exact zk rfl|exact Vw.new _ _ 5 rfl rfl|exact RowV.of_flat (zI λ_=>zt);done)|exact fin6):p:=h a0 b c a3 a4
theorem Qp{j k m n o q s t u p:Prop}(a0:j)(b:k)(c:m)(a3:n)(a4:o)(a5:q)(d:s)(e:t)(g:u)(h:j->k->m->n->o->q->s->t->u->p:=by intro a0 b c a3 a4 a5 d e g;(try simp only[evWB,Nat.reduceBEq,Nat.reduceAdd,Nat.reduceSub,Nat.reduceLeDiff,Nat.reduceLT,implies_true,a0,b,c,a3,a4,a5,d,e,g])<;>(repeat' with_reducible apply And.intro)<;>first|(first|exact RowV.of_flat zz|exact zk rfl|exact Vw.new _ _ 5 rfl rfl|exact RowV.of_flat (zI λ_=>zt);done)|exact fin6):p:=h a0 b c a3 a4 a5 d e g
theorem uj:type_of% @zN.eq_1:=@zN.eq_1
theorem zfo(g:G)(Z:OkB g)(m:Nat->Ctx->Nd)(k:Nat)(hk:k<g.blocks.length)(inl:List Nat)(c:Ctx)(B:∀x∈inl,zq9 g m x):zjM g zC [.int .i64 (k:Int),za inl,ctxA c] (.agg (encN (trZ (zaG g k) m inl c))):=by
 refine zgY ?_ rfl flA;refine zaC (fn_x zhd rfl ?_);unfold zdk bldH ctxA;have hB:=hBig;have hla:=znz g Z k hk
 have z:(zaG g k)∈(blG g k).stmts.getLast? := by
  unfold zaG;have:=Z.ne _ (zeV hk)
  cases hl:(blG g k).stmts.getLast? with
  |none=>exact absurd (List.getLast?_eq_none_iff.1 hl) this
  |some s=>rfl
 have A:=Z.cond _ (zeV hk) _ z;have y:=Z.tg _ (zeV hk);rw[ztU,Option.mem_def.1 z]at y;have Y:=Z.cases _ (zeV hk) _ (Wx z);simp only[Option.getD_some]at y;generalize zaG g k=s at hla A y Y⊢;obtain⟨op,var,q,next,b,C,e,u⟩:=s;simp only at A y Y;refine Gw0 ?_;intros;refine⟨⟨rfl,rfl⟩,?_⟩;refine zK (hla _ _ (Xa (by omega) (by omega) (zE rfl) (Xa (by omega) (by omega) (zE rfl) (Xf (by omega))))) ?_;rintro _ _ _ ⟨rfl,rfl,rfl⟩;unfold bldH trZ;simp only;refine Gw1 @uu ?_;intros;have hfl:∀n:Nd,(Xm (encN n)).flat=true:=λ_=>flA
 by_cases U:op=6
 .rw[if_pos U];have T:0<=next:=(y next (by unfold zhQ;simp only;rw[if_pos U];simp)).1;refine Gw1 @dT ?_;intros;refine zq4 g m inl c next T B _ _ (Xa (by omega) (by omega) (zE rfl) (Xa (by omega) (by omega) (zE rfl) (Xa (by omega) (by omega) (zE rfl) (Xf (by omega))))) rfl ?_;unfold bldH;refine Gw2 @zD @zW.eq_1 ?_;intros;exact zem (zac flA)
 rw[if_neg U];by_cases V:op=7
 .rw[if_pos V];have T:0<=next:=(y next (by unfold zhQ;simp only;rw[if_neg U,if_pos V];simp)).1;have he0:0<=b:=(y b (by unfold zhQ;simp only;rw[if_neg U,if_pos V];simp)).1;obtain⟨x,rfl,hx⟩:=A (.inl V);have R:=zgS (zhS x) x (Wl _) hx;refine Gw2 @dT @dF ?_;intros;refine zqC zca zfx zfj zbS [(28,.ptr 4 0 0 0 6),(29,encL 5 encX [x]),(30,.iptr 5 λj=>(encX x).getD j .undef),(31,.agg (encX x)),(32,.agg (encX x)),(33,encL 5 encX [x]),(34,(.fn (.func zp) [.ptr 2 0 0 0 0,encP 1 [za inl],encP 3 [.int .i64 c.f,.int .i64 c.h,.int .i64 c.x]])),(35,.ptr 4 0 0 0 3),(36,.int .i64 next),(37,.agg (encN (wayZ m inl c next))),(38,(.fn (.func zp) [.ptr 2 0 0 0 0,encP 1 [za inl],encP 3 [.int .i64 c.f,.int .i64 c.h,.int .i64 c.x]])),(39,.ptr 4 0 0 0 4),(40,.int .i64 b),(41,.agg (encN (wayZ m inl c b))),(42,encL 5 encN [(wayZ m inl c next),(wayZ m inl c b)]),(43,.agg [.int .i64 3,.int .i64 0,.int .i64 0,encL 5 encX [x],encL 5 encN [(wayZ m inl c next),(wayZ m inl c b)]])] (hsOf [([(0,.row 5 [[.int .u32 g.addr,encL 2 Xk g.blocks,Dm.encNN ((Wc g.blocks.length).map (zcB (eG g))),za ((Wc g.blocks.length).map (cntE (eG g))),.mp 1 0]] 0),(1,.row 3 (boM (eG g) (hdL (eG g))) 0),(2,.row 1 [[.ptr 0 0 0 0 0]] 0),(3,.row 5 [[.int .i64 0,.int .i64 0,.int .i64 0,.nilsl,.nilsl]] 0),(4,.row 8 [[.int .i64 op,.int .i64 var,.int .i64 q,.int .i64 next,.int .i64 b,.int .u32 C,encL 5 encX [x],zb u]] 0)],5),([(0,.row 5 [[.int .u32 g.addr,encL 2 Xk g.blocks,Dm.encNN ((Wc g.blocks.length).map (zcB (eG g))),za ((Wc g.blocks.length).map (cntE (eG g))),.mp 1 0]] 0),(1,.row 3 (boM (eG g) (hdL (eG g))) 0),(2,.row 1 [[.ptr 0 0 0 0 0]] 0),(3,.row 5 [[.int .i64 0,.int .i64 0,.int .i64 0,.nilsl,.nilsl]] 0),(4,.row 8 [[.int .i64 op,.int .i64 var,.int .i64 q,.int .i64 next,.int .i64 b,.int .u32 C,encL 5 encX [x],zb u]] 0)],5),([(0,.row 5 [[.int .u32 g.addr,encL 2 Xk g.blocks,Dm.encNN ((Wc g.blocks.length).map (zcB (eG g))),za ((Wc g.blocks.length).map (cntE (eG g))),.mp 1 0]] 0),(1,.row 3 (boM (eG g) (hdL (eG g))) 0),(2,.row 1 [[.ptr 0 0 0 0 0]] 0),(3,.row 5 [[.int .i64 0,.int .i64 0,.int .i64 0,.nilsl,.nilsl]] 0),(4,.row 8 [[.int .i64 op,.int .i64 var,.int .i64 q,.int .i64 next,.int .i64 b,.int .u32 C,encL 5 encX [x],zb u]] 0)],5),([(0,.row 5 [[.int .u32 g.addr,encL 2 Xk g.blocks,Dm.encNN ((Wc g.blocks.length).map (zcB (eG g))),za ((Wc g.blocks.length).map (cntE (eG g))),.mp 1 0]] 0),(1,.row 3 (boM (eG g) (hdL (eG g))) 0),(2,.row 1 [[.ptr 0 0 0 0 0]] 0),(3,.row 5 [[.int .i64 3,.int .i64 0,.int .i64 0,encL 5 encX [x],encL 5 encN [(wayZ m inl c next),(wayZ m inl c b)]]] 0),(4,.row 8 [[.int .i64 op,.int .i64 var,.int .i64 q,.int .i64 next,.int .i64 b,.int .u32 C,encL 5 encX [x],zb u]] 0)],5)]) (by kernel_rfl) (by rfl) (by rfl) (by repeat' first|exact QExt.retK|apply QExt.seq|apply QExt.block|apply QExt.loop|apply QExt.join|assumption) ?plan [] (by rfl) ?fin
  case' plan=>
   intro o hs p hH;have kf28:o.get 28=.ptr 4 0 0 0 6:=by rw[p,zf];rfl
   have D:o.get 29=encL 5 encX [x]:=by rw[p,zf];rfl
   have F:o.get 30=.iptr 5 λj=>(encX x).getD j .undef:=by rw[p,zf];rfl
   have I:o.get 31=.agg (encX x):=by rw[p,zf];rfl
   have J:o.get 32=.agg (encX x):=by rw[p,zf];rfl
   have kf33:o.get 33=encL 5 encX [x]:=by rw[p,zf];rfl
   have K:o.get 34=(.fn (.func zp) [.ptr 2 0 0 0 0,encP 1 [za inl],encP 3 [.int .i64 c.f,.int .i64 c.h,.int .i64 c.x]]):=by rw[p,zf];rfl
   have kf35:o.get 35=.ptr 4 0 0 0 3:=by rw[p,zf];rfl
   have L:o.get 36=.int .i64 next:=by rw[p,zf];rfl
   have N:o.get 37=.agg (encN (wayZ m inl c next)):=by rw[p,zf];rfl
   have O:o.get 38=(.fn (.func zp) [.ptr 2 0 0 0 0,encP 1 [za inl],encP 3 [.int .i64 c.f,.int .i64 c.h,.int .i64 c.x]]):=by rw[p,zf];rfl
   have kf39:o.get 39=.ptr 4 0 0 0 4:=by rw[p,zf];rfl
   have P:o.get 40=.int .i64 b:=by rw[p,zf];rfl
   have Q:o.get 41=.agg (encN (wayZ m inl c b)):=by rw[p,zf];rfl
   have kf42:o.get 42=encL 5 encN [(wayZ m inl c next),(wayZ m inl c b)]:=by rw[p,zf];rfl
   have kf43:o.get 43=.agg [.int .i64 3,.int .i64 0,.int .i64 0,encL 5 encX [x],encL 5 encN [(wayZ m inl c next),(wayZ m inl c b)]]:=by rw[p,zf];rfl
   have kf8:o.get 8=.ptr 3 0 0 0 0:=by rw[p,zf];rfl
   have kf9:o.get 9=.ptr 4 0 0 0 0:=by rw[p,zf];rfl
   have kf10:o.get 10=(.fn (.func zp) [.ptr 2 0 0 0 0,encP 1 [za inl],encP 3 [.int .i64 c.f,.int .i64 c.h,.int .i64 c.x]]):=by rw[p,zf];rfl
   simp only[zbS,zmq,zoq,and_true]
   (repeat' with_reducible apply Wa)
   all_goals(rw[hH];simp only[zos,zbZ,Wy,Wz,hsOf,hsAt,beqL,zgK,Xb,Bool.and_true,Bool.true_and,Bool.and_false,Bool.false_and,cond_true,cond_false,Wd,Wf,Xc])
   all_goals try(simp(disch:=try exact dis1) only[evD,Xb,Xc,Xd,zdM,zcQ,kf28,D,F,I,J,kf33,K,kf35,L,N,O,kf39,P,Q,kf42,kf43,kf8,kf9,kf10,hgX,zdZ,zdh,rbX1,rbN2];done)
  case' fin=>simp only[zca,hsOf,hsAt,beqL,zgK,Xb,Bool.and_true,Bool.true_and,Bool.and_false,Bool.false_and,cond_true,cond_false,Wd,Wf,Xc,Wy,Wz,zav]
  ·(refine Gw1 @zW.eq_1 ?_;intros);refine zem ?_;rw[zbj];exact zac rfl
  ·(refine Gw5 D F @hgX @zdM @zcQ ?_;intros);decide
  ·(refine Gw2 I @zdh ?_;intros);refine zdn (zh R (flX rfl)) ?_;(refine Gw3 J @zdM @zcQ ?_;intros;try with_reducible exact trivial)
  ·(refine Gw2 K L ?_;intros);refine zq4 g m inl c next T B _ _ (Xa (by omega) (by omega) (zE rfl) (Xa (by omega) (by omega) (zE rfl) (Xa (by omega) (by omega) (zE rfl) (Xf (by omega))))) rfl ?_;unfold bldH;(refine Gw3 N @zdM @zcQ ?_;intros;try with_reducible exact trivial)
  ·(refine Gw2 O P ?_;intros);refine zq4 g m inl c b he0 B _ _ (Xa (by omega) (by omega) (zE rfl) (Xa (by omega) (by omega) (zE rfl) (Xa (by omega) (by omega) (zE rfl) (Xf (by omega))))) rfl ?_;unfold bldH;(refine Gw3 Q @zdM @zcQ ?_;intros;try with_reducible exact trivial)
 rw[if_neg V];by_cases h8:op=8
 .rw[if_pos h8];obtain⟨x,rfl,hx⟩:=A (.inr h8);have R:=zgS (zhS x) x (Wl _) hx;have hc0:∀t∈u,0<=t:=λt ht=>(y t (by unfold zhQ;simp only;rw[if_neg U,if_neg V,if_pos h8];exact ht)).1
  refine Gw4 @dT @dF @hgX @zdh ?_;intros;refine ze (zh R (flX rfl)) ?_;refine Gw1 @rbX1 ?_;intros;refine Gw1 @ug ?_;intros;generalize hW:wayZ m inl c=W
  refine zd (λs:List Nd×Nat=>([(8,.ptr 3 0 0 0 0),(10,.fn (.func zp) [.ptr 2 0 0 0 0,encP 1 [za inl],encP 3 [.int .i64 c.f,.int .i64 c.h,.int .i64 c.x]]),(11,.ptr 4 0 0 0 0),(54,zb u),(55,.int .i64 u.length),(56,.int .i64 s.1.length)],bldH g [(2,.row 1 [[.ptr 0 0 0 0 0]] 0),(3,.row 5 [zN] 0),(4,.row 5 [[.int .i64 6,.int .i64 0,.int .i64 0,encL 5 encX [x],.own 5 0 s.2 0 s.1.length]] 0),(5,.row 5 (s.1.map encN) s.2)])) 6
   (λs=>s.1.length<=u.length/\s.1++(u.drop s.1.length).map W=u.map W) (λs=>u.length-s.1.length) ([],0) ⟨Wh _,rfl⟩ ?start ?_
  case start=>unfold bldH;exact(Xe [(0,0,0),(1,1,0),(2,2,0),(3,3,0),(4,5,0)] [] rfl rfl rfl (Qo @ug @ua @uj @m9N @uh) (Qo @ug @ua @uj @m9N @uh))
  rintro⟨M,γ⟩ ⟨hi,X⟩ wf;simp only at hi X;clear wf;refine dcU zcw.eq_1 ?_;by_cases S:M.length<u.length
  case neg=>
   have hi2:M.length=u.length:=by omega
   rw[hi2,List.drop_length,Wi,Wo]at X;subst X;unfold bldH;refine Gw1 @dF ?_;intros;refine dcU zcx.eq_1 ?_;refine Gw1 @zW.eq_1 ?_;intros;refine zem ?_;rw[zbj,zhZ];exact⟨.int _ _ _,.int _ _ _,.int _ _ _,zac rfl,zr1 (Wm _).symm (by show 2<=5;omega) rfl (by omega),trivial⟩
  have hgi:=zi (f:=cI) (d:=[]) S;have h0:=hc0 _ (Wp S);rw[WA S,Wj]at X;generalize u[M.length]=v at hgi h0 X;have hgi':(u.map λ(n:Int)=>[Xi .i64 n]).getD M.length []=[.int .i64 v]:=hgi;have hel:∀(w:Nd) H,zcX 5 (encL 5 encN [w]) H=some [encN w]:=λw H=>zcN (λ_ _=>zD)
  have hM2:(M++[W v])++(u.drop (M++[W v]).length).map W=u.map W:=by rw[Wn,We,Wg];exact X
  unfold bldH;refine Gw3 @dT @ug hgi' ?_;intros
  (repeat' with_reducible apply Wa)
  all_goals first
   |kernel_rfl
   |refine zK (zFJ g m inl c v h0 B _ _ (Xa (by omega) (by omega) (zE rfl) (Xa (by omega) (by omega) (zE rfl) (Xa (by omega) (by omega) (zE rfl) (Xa (by omega) (by omega) znx (Xf (by omega)))))) rfl) ?_
  all_goals rintro _ _ _ ⟨rfl,rfl,rfl⟩
  all_goals rw[hW]
  all_goals unfold bldH
  all_goals(refine Gw4 @rbN1 hel @ui @uh ?_;intros;try with_reducible exact trivial)
  all_goals exact⟨(M++[W v],γ+1),⟨by simp only[We,Wg];omega,hM2⟩,by simp only[We,Wg];omega,(Xe [(0,0,0),(1,1,0),(2,2,0),(3,3,0),(4,4,0),(5,5,0)] [] rfl rfl rfl (Qp @ug @ua @uj @m9A @m9P @ui @uh @m9C @m9N) (Qp @ug @ua @uj @m9A @m9P @ui @uh @m9C @m9N))⟩
 rw[if_neg h8];by_cases h9:op=9
 .rw[if_pos h9];refine Gw3 @dT @dF @zW.eq_1 ?_;intros;exact zem zpd
 rw[if_neg h9];refine Gw1 @dF ?_;intros;refine dcU zcy.eq_1 ?_;refine Gw1 @zW.eq_1 ?_;intros;exact zem zpd
theorem Qq{d e g j p:Prop}(a0:d)(b:e)(c:g)(a3:j)(h:d->e->g->j->p:=by intro a0 b c a3;(try simp only[evWB,Nat.reduceBEq,Nat.reduceAdd,Nat.reduceSub,Nat.reduceLeDiff,Nat.reduceLT,implies_true,a0,b,c,a3])<;>(repeat' with_reducible apply And.intro)<;>first|(first|exact RowV.of_flat zz|exact zk rfl|exact RowV.of_flat (zI λ_=>zt);done)|exact fin6):p:=h a0 b c a3
theorem Qr{g j k m n o q s p:Prop}(a0:g)(b:j)(c:k)(a3:m)(a4:n)(a5:o)(d:q)(e:s)(h:g->j->k->m->n->o->q->s->p:=by intro a0 b c a3 a4 a5 d e;(try simp only[evWB,Nat.reduceBEq,Nat.reduceAdd,Nat.reduceSub,Nat.reduceLeDiff,Nat.reduceLT,implies_true,a0,b,c,a3,a4,a5,d,e])<;>(repeat' with_reducible apply And.intro)<;>first|(first|exact RowV.of_flat zz|exact zk rfl|exact RowV.of_flat (zI λ_=>zt);done)|exact fin6):p:=h a0 b c a3 a4 a5 d e
theorem zep(g:G)(e:Nat->Ctx->Nd)(l:List Nat)(I:l.length<=1000)(c:Ctx)(A:∀x∈l,zq9 g e x):zjM g zP [za l,ctxA c] (encL 5 encN (zbe e c l)):=by
 refine zgY ?_ rfl rfl;refine zaC (fn_x ziN rfl ?_);unfold zd8 bldH ctxA;conv in Z8 _ _=>reduce
 have F:=hBig;refine Gw0 ?_;intros;refine Gw1 @ub ?_;intros
 refine zd (λs:List Nd×Nat=>([(0,.ptr 0 0 0 0 0),(1,za l),(5,encP 3 [.int .i64 c.f,.int .i64 c.h,.int .i64 c.x]),(7,.own 2 0 s.2 0 s.1.length),(11,za l),(12,.int .i64 l.length),(13,.int .i64 s.1.length)],bldH g [(2,.row 5 (s.1.map encN) s.2)])) 3
  (λs=>s.1.length<=l.length/\s.1++zbe e c (l.drop s.1.length)=zbe e c l) (λs=>l.length-s.1.length) ([],0) ⟨Wh _,rfl⟩ ?start ?_
 case start=>unfold bldH;exact(Xe [(0,0,0),(1,1,0),(2,3,0)] [] rfl rfl rfl (Qq @ub @ua @m9N @uh) (Qq @ub @ua @m9N @uh))
 rintro⟨M,γ⟩ ⟨D,b⟩ wf;simp only at D b;clear wf;refine dcU zdi.eq_1 ?_;by_cases o:M.length<l.length
 case neg=>
  have z:l.length<=M.length:=by omega
  rw[WB z,zbe,Wo]at b;subst b;unfold bldH;refine Gw1 @dF ?_;intros;refine dcU zdd.eq_1 ?_;refine Gw1 @zei.eq_1 ?_;intros;exact zem (zr1 rfl (Wl 2) rfl (by omega))
 have q:(l.map λ(n:Nat)=>[Xi .i64 (n:Int)]).getD M.length []=[.int .i64 (l[M.length]:Int)]:=zi (f:=cN) (d:=[]) o;have m:=A _ (Wp o);rw[zxe o]at b;have u:=λ(h:l.length<=M.length+1)=>zAV (c:=c) h
 have t:=λ(h:M.length+1<l.length)=>zCP (c:=c) h
 have v:=λ(h:M.length+1<l.length)=>(zi (f:=cN) (d:=[]) h:(l.map cN).getD (M.length+1) []=_)
 generalize l[M.length]=x at q m b;have p:∀(w:Nd) H,zcX 5 (encL 5 encN [w]) H=some [encN w]:=λw H=>zcN (λ_ _=>zD)
 have B:((M.length:Int)+1).toNat=M.length+1:=by omega
 unfold bldH;refine Gw4 @dT @ub q @ua ?_;intros;by_cases C:M.length+1<l.length
 .rw[t C]at b;have j:(l.map λ(n:Nat)=>[Xi .i64 (n:Int)]).getD (M.length+1) []=[.int .i64 (l[M.length+1]:Int)]:=v C;generalize l[M.length+1]=y at b j;refine Gw3 @dT B j ?_;intros;refine zK (m ⟨y,c.h,c.x⟩ _ _ (Xa (by omega) (by omega) znx (Xa (by omega) (by omega) (zE rfl) (Xf (by omega))))) ?_;rintro _ _ _ ⟨rfl,rfl,rfl⟩;generalize e x ⟨y,c.h,c.x⟩=w at b⊢;have k:(M++[w])++zbe e c (l.drop (M++[w]).length)=zbe e c l:=by rw[Wn,We,Wg];exact b
  unfold bldH;refine Gw4 @rbN1 p @ui @uh ?_;intros;exact⟨(M++[w],γ+1),⟨by simp only[We,Wg];omega,k⟩,by simp only[We,Wg];omega,(Xe [(0,0,0),(1,1,0),(2,2,0)] [] rfl rfl rfl (Qr @ub @ua @m9A @m9P @ui @uh @m9C @m9N) (Qr @ub @ua @m9A @m9P @ui @uh @m9C @m9N))⟩
 .rw[u (by omega)]at b;refine Gw1 @dF ?_;intros;refine zK (m c _ _ (Xa (by omega) (by omega) znx (Xa (by omega) (by omega) (zE rfl) (Xf (by omega))))) ?_;rintro _ _ _ ⟨rfl,rfl,rfl⟩;generalize e x c=w at b⊢;have k:(M++[w])++zbe e c (l.drop (M++[w]).length)=zbe e c l:=by rw[Wn,We,Wg];exact b
  unfold bldH;refine Gw4 @rbN1 p @ui @uh ?_;intros;exact⟨(M++[w],γ+1),⟨by simp only[We,Wg];omega,k⟩,by simp only[We,Wg];omega,(Xe [(0,0,0),(1,1,0),(2,2,0)] [] rfl rfl rfl (Qr @ub @ua @m9A @m9P @ui @uh @m9C @m9N) (Qr @ub @ua @m9A @m9P @ui @uh @m9C @m9N))⟩
def zlH:List (List AV)->List Nd->Prop
 |[],[]=>True
 |c::d,n::l=>(c=encN n\/∃a b x:Int,n=zag a b x/\c=[.int .i64 a,.int .i64 b,.int .i64 x,.nilsl,.nilsl])/\zlH d l
 |_,_=>False
theorem zjG:∀l:List Nd,zlH (l.map encN) l
 |[]=>trivial
 |n::l=>⟨.inl rfl,zjG l⟩
theorem zsR:∀ {b:List (List AV)}{l:List Nd},zlH b l->b.length=l.length
 |[],[],_=>rfl
 |_::b,_::l,h=>by rw[Wd,Wd,zsR h.2]
theorem zgo:∀ {d:List (List AV)}{l:List Nd},zlH d l->zr d
 |[],[],_=>zmB
 |
  c::d,n::l,h=>by
  refine zaD ?_ (zgo h.2);rcases h.1 with rfl|⟨a,b,x,rfl,rfl⟩
  .exact zt
  .rfl
theorem zs7{H H2:AH}{σ:Nat->Nat->Option (Nat×Nat×Nat)}{D:Nat->Nat->Prop}{t:Bool}:∀ {d:List (List AV)}{l:List Nd},zlH d l->∀i,i<l.length->∀j,j<5->Vw H H2 σ D t ((d.getD i []).getD j .undef) (((l.map encN).getD i []).getD j .undef)
 |[],[],_,i,g,_,_=>absurd g (Nat.not_lt_zero _)
 |[],_::_,h,_,_,_,_=>h.elim
 |_::_,[],h,_,_,_,_=>h.elim
 |
  c::d,n::l,h,0,g,j,hj=>by
  rcases h.1 with rfl|⟨a,b,x,rfl,rfl⟩
  .exact zuh n j hj
  .have e:((List.map encN (zag a b x::l)).getD 0 [])=[.int .i64 a,.int .i64 b,.int .i64 x,encL 5 encX [],encL 5 encN []]:=by show encN (zag a b x)=_;unfold zag;rw[zbj]
   rw[e]
   match j,hj with
   |0,_=>exact .int _ _ _
   |1,_=>exact .int _ _ _
   |2,_=>exact .int _ _ _
   |3,_=>exact zjj
   |4,_=>exact zjj
 |
  c::d,n::l,h,i+1,g,j,hj=>by
  have:=zs7 (H:=H) (H2:=H2) (σ:=σ) (D:=D) (t:=t) h.2 i (by rw[Wd]at g;omega) j hj;exact this
theorem zoc{H d:AH}{σ:Nat->Nat->Option (Nat×Nat×Nat)}{D:Nat->Nat->Prop}{t:Bool}{r q g n:Nat}{b:List (List AV)}{l:List Nd}(c:zlH b l)(s:n=l.length)(h:D r q)(m:H.get r q=some (.row 5 b g))(k:n<=big):Vw H d σ D t (.own r q g 0 n) (encL 5 encN l):=by subst s;have e:encL 5 encN l=.sl 5 l.length (λi j=>((l.map encN).getD i []).getD j .undef):=rfl;rw[e];refine .frz t r q g 0 l.length 5 b _ h m k (by rw[zsR c];omega) (λi j o p=>?_);rw[Xq];exact zs7 c i o j p
theorem zqA{H c:AH}{σ:Nat->Nat->Option (Nat×Nat×Nat)}{D:Nat->Nat->Prop}{t:Bool}{r q g:Nat}{k b x:Int}(d:D r q)(h:H.get r q=some (.row 5 [[.int .i64 k,.int .i64 b,.int .i64 x,.nilsl,.nilsl]] g)):Vw H c σ D t (.ptr r q g 0 0) (encP 5 (encN (zag k b x))):=by
 have e:encN (zag k b x)=[.int .i64 k,.int .i64 b,.int .i64 x,encL 5 encX [],encL 5 encN []]:=by unfold zag;rw[zbj]
 rw[e];refine .frzp t r q g 0 0 5 5 _ _ d h (by simp) (by simp) (λj m=>?_)
 match j,m with
 |0,_=>exact .int _ _ _
 |1,_=>exact .int _ _ _
 |2,_=>exact .int _ _ _
 |3,_=>exact zjj
 |4,_=>exact zjj
theorem zzG{g:G}(c:OkB g){k:Nat}(b:k∈ordE (eG g)):k∈hdL (eG g)↔zeN (eG g) k=true:=by unfold hdL;rw[Wk];exact⟨λh=>h.2,λh=>⟨b,h⟩⟩
theorem zyS{g:G}{k:Nat}(b:k<g.blocks.length):(((Wc g.blocks.length).map (zcB (eG g))).map λl=>[za l]).getD k []=[za (zcB (eG g) k)]:=by rw[zi (by simp;exact b)];simp
theorem zBO{g:G}(b:OkB g){k x:Nat}(h:x∈zcB (eG g) k):x<g.blocks.length:=by
 unfold zcB at h;have:=zbl (zo b) (Wk.1 h).1
 rwa [zdf]at this
theorem Qs{c d p:Prop}(a0:c)(b:d)(h:c->d->p:=by intro a0 b;(try simp only[evWB,Nat.reduceBEq,Nat.reduceAdd,Nat.reduceSub,Nat.reduceLeDiff,Nat.reduceLT,implies_true,a0,b])<;>(repeat' with_reducible apply And.intro)<;>first|(first|exact RowV.of_flat zz|exact zk rfl|exact zqA rfl rfl;done)|exact fin6):p:=h a0 b
theorem znw(g:G)(m:OkB g)(e:Nat->Ctx->Nd)(k:Nat)(M:k∈ordE (eG g))(J:zeN (eG g) k=false)(v:∀x∈zcB (eG g) k,zq9 g e x)(c:Ctx):
  zjM g zB [.int .i64 (k:Int),ctxA c] (.agg (encN (nSeq (zag 10 0 k::zag 2 k 0::trN (shpG g) e k (zaM (zR (shpG g) k) c)::zbe e c (zR (shpG g) k))))):=by
 refine zgY ?_ rfl flA;refine zaC (fn_x zeQ rfl ?_);unfold zct bldH ctxA;have U:=hBig;have y:k<g.blocks.length:=by have:=zbl (zo m) M;rwa [zdf]at this
 have R:=zuv m (k:=k);have T:=m.small.1;have I:g.toG.blocks.length=g.blocks.length:=by simp[G.toG]
 rw[I]at T;have N:znA (shpG g) k=zcB (eG g) k:=zGL J;have n:zR (shpG g) k=plG (shpG g) (zcB (eG g) k):=by rw[zte,N]
 have u:inlL (shpG g) k=inG (shpG g) (zcB (eG g) k):=by rw[zB4,N]
 have A:∀x∈zR (shpG g) k,x∈zcB (eG g) k:=λx b=>by rw[n]at b;exact(Wk.1 b).1
 have w:∀x∈inlL (shpG g) k,x∈zcB (eG g) k:=λx b=>by rw[u]at b;exact(Wk.1 b).1
 have d:=zhq g m (zcB (eG g) k) (by omega) (λx b=>zBO m b);rw[<-n,<-u]at d;have j:(zR (shpG g) k).length<=1000:=by rw[n];have:=zt6 (S:=shpG g) (l:=zcB (eG g) k);omega
 rw[zHN];generalize zR (shpG g) k=o at d A j⊢;generalize inlL (shpG g) k=O at d w⊢;have F:=ziU o c;have B:=zfo g m e k y O (zaM o c) (λx b=>v x (w x b));have q:=zep g e o j c (λx b=>v x (A x b));have z:(shpG g).last k=zaG g k:=rfl;rw[z];generalize trZ (zaG g k) e O (zaM o c)=P at B⊢;have s:=zms (code:=e) (c:=c) (l:=o);generalize zbe e c o=C at q s⊢;refine Gw0 ?_;intros;refine zaw [(0,.ptr 0 0 0 0 0),(1,.int .i64 (k:Int)),(5,encP 3 [.int .i64 c.f,.int .i64 c.h,.int .i64 c.x]),(6,.ptr 2 0 0 0 0),(7,encP 5 (encN (zag 10 0 k)))] (bldH g [(2,.row 5 [zN] 0)]) 3 λ_=>⟨?_,?_⟩
 .unfold bldH;exact(Xe [(0,0,0),(1,1,0),(2,2,0)] [3] rfl rfl rfl (Qs @ua @uj) (Qs @ua @uj))
 unfold zbO bldH;conv in Z8 _ _=>reduce
 have p:boM (eG g) (hdL (eG g))=[.int .i64 ((hdL (eG g)).length:Int),.undef,.undef]::(hdL (eG g)).zipIdx.map (cBo (eG g)):=rfl;have L:=(zqD (E:=eG g) (k:=k) (l:=(hdL (eG g)).zipIdx) (i:=0)).1 (by rw[WC];intro h;rw[(zzG m M).1 h]at J;cases J);have K:=zyS (g:=g) y;rw[p]
 (repeat first|simp(disch:=try exact dis1) only[evD,Xb,Xc,Xd,L,Option.isSome_none]|with_reducible first|intro _|refine aJ ?_)
 rw[<-p]
 (repeat first|simp(disch:=try exact dis1) only[evD,Xb,Xc,Xd,encNN,K,Wm,Wq]|with_reducible first|intro _|refine aJ ?_)
 refine zK (d _ _ (Xa (by omega) (by omega) (zE rfl) (Xf (by omega)))) ?_;rintro _ _ _ ⟨rfl,rfl,rfl⟩;unfold bldH;have D:∀H,zcX 5 (encL 5 encN C) H=some (C.map encN):=λH=>zcN (λ_ _=>zD)
 have Q:Xn (.agg [.int .i64 2,.int .i64 (k:Int),.int .i64 0,.nilsl,.nilsl])=[.int .i64 2,.int .i64 (k:Int),.int .i64 0,.nilsl,.nilsl]:=rfl;refine Gw2 @ua @zJ ?_;intros
 (repeat' first
  |with_reducible apply Wa
  |(refine zdn (zh F rfl) ?_;(refine Gw3 @ua @zJ @zD ?_;intros;try with_reducible exact trivial))
  |(refine zK (B _ _ (Xa (by omega) (by omega) (zE rfl) (Xf (by omega)))) ?_;rintro _ _ _ ⟨rfl,rfl,rfl⟩;unfold bldH;(refine Gw3 @ua @zJ @zD ?_;intros;try with_reducible exact trivial)))
 all_goals refine zK (q _ _ (Xa (by omega) (by omega) (zE rfl) (Xa (by omega) (by omega) ?_ (Xf (by omega))))) ?_
 all_goals try exact zcj (zaD zt (zaD rfl (za2 zt)))
 all_goals rintro _ _ _ ⟨rfl,rfl,rfl⟩
 all_goals unfold bldH
 all_goals(refine Gw4 D @m9M @ui @uh ?_;intros;try with_reducible exact trivial)
 all_goals have t:zlH (encN (zag 10 0 k)::[Xi .i64 2,.int .i64 (k:Int),.int .i64 0,.nilsl,.nilsl]::encN P::C.map encN) (zag 10 0 k::zag 2 k 0::P::C):=⟨.inl rfl,.inr ⟨_,_,_,rfl,rfl⟩,.inl rfl,zjG _⟩
 all_goals refine zK (zqB rfl rfl (zhX (Xa (by omega) (by omega) (zE rfl) (Xa (by omega) (by omega) (zcj (zgo t)) (Xf (by omega))))) rfl rfl) ?_
 all_goals rintro _ _ _ ⟨rfl,rfl,rfl⟩
 all_goals(refine Gw1 @zcu.eq_1 ?_;intros;try with_reducible exact trivial)
 all_goals refine zem ?_
 all_goals unfold nSeq
 all_goals rw[zbj,zhZ]
 all_goals exact⟨.int _ _ _,.int _ _ _,.int _ _ _,zjj,zoc t (by simp only[Wd];omega) (show 2<=3 by omega) rfl (by omega),trivial⟩
section
variable {H H2:AH}{σ:Nat->Nat->Option (Nat×Nat×Nat)}{D:Nat->Nat->Prop}{t:Bool}
theorem zvS{r q g:Nat}{x:AV}{l:List Nd}(c:D r q)(d:H.get r q=some (.row 5 [[.int .i64 1,.int .i64 0,.int .i64 0,.nilsl,x]] g))(k:Vw H H2 σ D false x (encL 5 encN l)):Vw H H2 σ D t (.own r q g 0 1) (encL 5 encN [nSeq l]):=by
 have e:encL 5 encN [nSeq l]=.sl 5 1 (λi j=>([encN (nSeq l)].getD i []).getD j .undef):=rfl;rw[e];refine .frz t r q g 0 1 5 _ _ c d (by unfold big;omega) (by simp) (λi j m h=>?_);obtain rfl:i=0:=by omega
 have b:encN (nSeq l)=[.int .i64 1,.int .i64 0,.int .i64 0,encL 5 encX [],encL 5 encN l]:=by unfold nSeq;rw[zbj]
 rw[b]
 match j,h with
 |0,_=>exact .int _ _ _
 |1,_=>exact .int _ _ _
 |2,_=>exact .int _ _ _
 |3,_=>exact zjj
 |4,_=>exact k
theorem zvW{r q g:Nat}{a b z:Int}{c y:AV}{d:List Ex}{l:List Nd}(e:D r q)(k:H.get r q=some (.row 5 [[.int .i64 a,.int .i64 b,.int .i64 z,c,y]] g))(h:Vw H H2 σ D false c (encL 5 encX d))(n:Vw H H2 σ D false y (encL 5 encN l)):Vw H H2 σ D t (.ptr r q g 0 0) (encP 5 (encN (.mk ⟨a,b,z⟩ d l))):=by
 rw[zbj];refine .frzp t r q g 0 0 5 5 _ _ e k (by simp) (by simp) (λj m=>?_)
 match j,m with
 |0,_=>exact .int _ _ _
 |1,_=>exact .int _ _ _
 |2,_=>exact .int _ _ _
 |3,_=>exact h
 |4,_=>exact n
end
theorem zJb{n:Nd}(h:n.f.kind≠3):isWh n=false:=by unfold isWh;rw[decide_eq_false h];rfl
theorem zcW:∀n:Nd,(encN n).getD 0 .undef=.int .i64 n.f.kind
 |.mk f c l=>by rw[zbj];rfl
theorem zdp{e:Nd}:[.int .i64 e.f.kind,(encN e).getD 1 .undef,(encN e).getD 2 .undef,(encN e).getD 3 .undef,(encN e).getD 4 .undef]=encN e:=by rw[<-zcW e,zJ]
def zye(one:Bool)(b:Nd)(k:Nat)(c:List Nd):Nd :=
 if one&&isWh b then .mk ⟨5,k,0⟩ b.cond [nSeq (hd0 b::c)]else .mk ⟨4,0,0⟩ [] [nSeq (zag 2 k 0::b::c)]
theorem zcR(g:G)(c:Ctx)(lb n:Nd)(b:List Nd)(q:AV)(p:b.length<=1000)(d:zjM g zP [q,ctxA c] (encL 5 encN b)) :
  wpX Z9 2 zbK (retK zbi (zti 2 λv H s=>v=.agg (encN (nSeq (lb::n::b)))/\H=bldH g []/\s=2))
   [(0,.ptr 0 0 0 0 0),(7,encP 5 (encN lb)),(9,encP 3 [.int .i64 c.f,.int .i64 c.h,.int .i64 c.x]),(10,.ptr 2 0 0 0 0),(11,q),(21,encP 5 (encN n))] (bldH g [(2,.row 5 [zN] 0)]) 3:=by
 unfold zbK bldH;have t:=hBig;have k:∀H,zcX 5 (encL 5 encN b) H=some (b.map encN):=λH=>zcN (λ_ _=>zD)
 have e:∀H,zcX 5 (encL 5 encN [lb,n]) H=some [encN lb,encN n]:=λH=>zcN (λ_ _=>zD)
 have m:zu (encN lb)=true:=zt;have o:zu (encN n)=true:=zt;have j:zlH (encN lb::encN n::b.map encN) (lb::n::b):=⟨.inl rfl,.inl rfl,zjG _⟩;conv in zd9 _ _ _ _=>reduce
 refine Gw5 @ua @zJ @zD m o ?_;intros
 (repeat' first
  |with_reducible apply Wa
  |(show 1<2;decide)
  |(show _<=_;omega)
  |(refine zK (d [(2,.row 5 [zN] 0),(3,.row 5 [encN lb,encN n] 0)] 4 (Xa (by omega) (by omega) (zE rfl) (Xa (by omega) (by omega) (zcj (zaD zt (za2 zt))) (Xf (by omega))))) ?_;rintro _ _ _ ⟨rfl,rfl,rfl⟩;unfold bldH;(refine Gw6 k e @rbN2 @m9M @ui @uh ?_;intros;try with_reducible exact trivial))
  |(refine zK (d [(2,.row 5 [zN] 0)] 3 (Xa (by omega) (by omega) (zE rfl) (Xf (by omega)))) ?_;rintro _ _ _ ⟨rfl,rfl,rfl⟩;unfold bldH;(refine Gw10 k e @rbN2 @zJ @zD m o @m9M @ui @uh ?_;intros;try with_reducible exact trivial))
  |(refine zK (zqB rfl rfl (zhX (Xa (by omega) (by omega) (zE rfl) (Xa (by omega) (by omega) (zcj (zgo j)) (Xf (by omega))))) rfl rfl) ?_;rintro _ _ _ ⟨rfl,rfl,rfl⟩;(refine Gw1 @zbi.eq_1 ?_;intros;try with_reducible exact trivial)))
 all_goals refine zem ?_
 all_goals unfold nSeq
 all_goals rw[zbj,zhZ]
 all_goals exact⟨.int _ _ _,.int _ _ _,.int _ _ _,zjj,zoc j (by simp only[Wd];omega) (show 2<=3 by omega) rfl (by omega),trivial⟩
theorem Qt{c d p:Prop}(a0:c)(b:d)(h:c->d->p:=by intro a0 b;(try simp only[evWB,Nat.reduceBEq,Nat.reduceAdd,Nat.reduceSub,Nat.reduceLeDiff,Nat.reduceLT,implies_true,a0,b])<;>(repeat' with_reducible apply And.intro)<;>first|(first|exact RowV.of_flat zz|exact zk rfl;done)|exact fin6):p:=h a0 b
theorem zo8(g:G)(hg:OkB g)(k:Nat)(K:k<g.blocks.length)(c:Ctx)(lb N:Nd)(m q:List Nd)(t:AV)(Q:t.flat0=true)(hchl:m.length<=1000)(o:q.length<=1000)(h3:N.f.kind=3->∃a b,N.l=[a,b])(s:zjM g zP [t,ctxA c] (encL 5 encN q)) :
  wpX Z9 2 zbM (retK zbi (zti 2 λv H n=>v=.agg (encN (nSeq (lb::zye (oneG g k) N k m::q)))/\H=bldH g []/\n=2))
   [(0,.ptr 0 0 0 0 0),(1,.int .i64 (k:Int)),(7,encP 5 (encN lb)),(9,encP 3 [.int .i64 c.f,.int .i64 c.h,.int .i64 c.x]),(10,.ptr 2 0 0 0 0),(11,t),(19,encP 5 (encN N)),(20,encL 5 encN m)] (bldH g [(2,.row 5 [zN] 0)]) 3:=by
 unfold zbM bldH;have hB:=hBig;have S:∀H,zcX 5 (encL 5 encN m) H=some (m.map encN):=λH=>zcN (λ_ _=>zD)
 have R:zu (encN N)=true:=zt;obtain⟨f,d,j⟩:=N;simp only[Nd.f,Nd.l]at h3;rw[zbj]at R⊢;refine Gw6 @ua R S @m9M @ui @uh ?_;intros;have p:zlH ([Xi .i64 2,.int .i64 (k:Int),.int .i64 0,.nilsl,.nilsl]::[.int .i64 f.kind,.int .i64 f.block,.int .i64 f.label,encL 5 encX d,encL 5 encN j]::m.map encN) (zag 2 k 0::.mk f d j::m):=⟨.inr ⟨_,_,_,rfl,rfl⟩,.inl (zbj _ _ _).symm,zjG _⟩;refine zK (zqB rfl rfl (zhX (Xa (by omega) (by omega) (zE rfl) (Xa (by omega) (by omega) (zcj (zgo p)) (Xf (by omega))))) rfl rfl) ?_;rintro _ _ _ ⟨rfl,rfl,rfl⟩;have hst:=hg.stm _ (zeV K);have hgb:(g.blocks.map Xk).getD k []=(blG g k).cells:=by rw[zi K,zph K]
 have Y:(blG g k).cells=[.int .u32 (blG g k).addr,encL 8 St.cells (blG g k).stmts]:=rfl;refine Gw2 hgb Y ?_;intros;have A:zye (oneG g k) (.mk f d j) k m=if oneG g k&&isWh (.mk f d j)then .mk ⟨5,k,0⟩ d [nSeq (hd0 (.mk f d j)::m)]else .mk ⟨4,0,0⟩ [] [nSeq (zag 2 k 0::.mk f d j::m)]:=rfl
 have w:t.flat0=true:=Q
 have V:∀O σ x W,zlH W (zag 2 k 0::.mk f d j::m)->Vw (bldH g [(2,.row 5 x 0),(3,.row 5 W 1),(4,.row 5 [[.int .i64 1,.int .i64 0,.int .i64 0,.nilsl,.own 3 0 1 0 (2+m.length)]] 0),(5,.row 5 [[.int .i64 4,.int .i64 0,.int .i64 0,.nilsl,.own 4 0 0 0 1]] 0)]) O σ (inD [3,4,5]) true (.ptr 5 0 0 0 0) (encP 5 (encN (.mk ⟨4,0,0⟩ [] [nSeq (zag 2 k 0::.mk f d j::m)]))):=by
  intro O σ x W p;refine zvW rfl rfl zjj ?_;refine zvS rfl rfl ?_;refine zoc p ?_ rfl rfl ?_
  .simp only[Wd];omega
  .omega
 by_cases h1:(blG g k).stmts.length=1
 case neg=>
  have u:¬(((blG g k).stmts.length:Nat):Int)=1:=by omega
  have e:zye (oneG g k) (.mk f d j) k m=.mk ⟨4,0,0⟩ [] [nSeq (zag 2 k 0::.mk f d j::m)]:=by rw[A];unfold oneG;rw[decide_eq_false h1];rfl
  rw[e];refine Gw3 @dT @dF u ?_;intros;refine zaw [(0,.ptr 0 0 0 0 0),(7,encP 5 (encN lb)),(9,encP 3 [.int .i64 c.f,.int .i64 c.h,.int .i64 c.x]),(10,.ptr 2 0 0 0 0),(11,t),(21,encP 5 (encN (.mk ⟨4,0,0⟩ [] [nSeq (zag 2 k 0::.mk f d j::m)])))] (bldH g [(2,.row 5 [zN] 0)]) 3 λ_=>⟨?_,zcR g c lb _ q t o s⟩
  unfold bldH;exact(Xe [(0,0,0),(1,1,0),(2,2,0)] [3,4,5] rfl rfl rfl (Qt @ua @uj) (by((try simp only[evWB,Xb,Xc,Xg,Xd,Xh,implies_true,encP,zN])<;>(repeat' with_reducible apply Wa)<;>first|(first|exact zk rfl|exact zk w|exact V _ _ _ _ p;done)|exact fin6)))
 have u:(((blG g k).stmts.length:Nat):Int)=1:=by omega
 have U:oneG g k=true:=by unfold oneG;rw[decide_eq_true h1]
 by_cases I:f.kind=3
 case neg=>
  have e:zye (oneG g k) (.mk f d j) k m=.mk ⟨4,0,0⟩ [] [nSeq (zag 2 k 0::.mk f d j::m)]:=by rw[A,U];rw[zJb (n:=.mk f d j) I];rfl
  rw[e];refine Gw3 @dT @dF u ?_;intros;refine zaw [(0,.ptr 0 0 0 0 0),(7,encP 5 (encN lb)),(9,encP 3 [.int .i64 c.f,.int .i64 c.h,.int .i64 c.x]),(10,.ptr 2 0 0 0 0),(11,t),(21,encP 5 (encN (.mk ⟨4,0,0⟩ [] [nSeq (zag 2 k 0::.mk f d j::m)])))] (bldH g [(2,.row 5 [zN] 0)]) 3 λ_=>⟨?_,zcR g c lb _ q t o s⟩
  unfold bldH;exact(Xe [(0,0,0),(1,1,0),(2,2,0)] [3,4,5] rfl rfl rfl (Qt @ua @uj) (by((try simp only[evWB,Xb,Xc,Xg,Xd,Xh,implies_true,encP,zN])<;>(repeat' with_reducible apply Wa)<;>first|(first|exact zk rfl|exact zk w|exact V _ _ _ _ p;done)|exact fin6)))
 obtain⟨a,b,T⟩:=h3 I;rw[I]at p;have B:(j.map encN).getD 0 []=encN a:=by rw[T];rfl
 have J:(j.map encN).getD 1 []=encN b:=by rw[T];rfl
 have L:j.length=2:=by rw[T];rfl
 have D:Int.toNat 0=0:=rfl;have F:Int.toNat 1=1:=rfl;have M:isWh (.mk f d j)=(decide (b.f.kind=7)&&decide (a.f.kind≠7)):=by unfold isWh;simp[Nd.f,Nd.l,I,T]
 have Z:zu (encN a)=true:=zt;by_cases P:b.f.kind=7
 case neg=>
  have e:zye (oneG g k) (.mk f d j) k m=.mk ⟨4,0,0⟩ [] [nSeq (zag 2 k 0::.mk f d j::m)]:=by rw[A,U,M,decide_eq_false P];rfl
  rw[e]
  (repeat first|simp(disch:=try exact dis1) only[evD,Xb,Xc,Xd,dT,dF,u,I,L,B,J,D,F,zcW,zJ,zdp,zD,Wd,Wf]|with_reducible first|intro _|refine aJ ?_)
  refine Gw2 @dT @dF ?_;intros;refine zaw [(0,.ptr 0 0 0 0 0),(7,encP 5 (encN lb)),(9,encP 3 [.int .i64 c.f,.int .i64 c.h,.int .i64 c.x]),(10,.ptr 2 0 0 0 0),(11,t),(21,encP 5 (encN (.mk ⟨4,0,0⟩ [] [nSeq (zag 2 k 0::.mk f d j::m)])))] (bldH g [(2,.row 5 [zN] 0)]) 3 λ_=>⟨?_,zcR g c lb _ q t o s⟩
  unfold bldH;exact(Xe [(0,0,0),(1,1,0),(2,2,0)] [3,4,5] rfl rfl rfl (Qt @ua @uj) (by((try simp only[evWB,Xb,Xc,Xg,Xd,Xh,implies_true,encP,zN])<;>(repeat' with_reducible apply Wa)<;>first|(first|exact zk rfl|exact zk w|exact V _ _ _ _ p;done)|exact fin6)))
 by_cases X:a.f.kind=7
 case pos=>
  have e:zye (oneG g k) (.mk f d j) k m=.mk ⟨4,0,0⟩ [] [nSeq (zag 2 k 0::.mk f d j::m)]:=by rw[A,U,M,decide_eq_true P,decide_eq_false (λh=>h X)];rfl
  rw[e]
  (repeat first|simp(disch:=try exact dis1) only[evD,Xb,Xc,Xd,dT,dF,u,I,L,B,J,D,F,P,zcW,zJ,zdp,zD,Wd,Wf]|with_reducible first|intro _|refine aJ ?_)
  refine Gw3 @dT @dF X ?_;intros;refine zaw [(0,.ptr 0 0 0 0 0),(7,encP 5 (encN lb)),(9,encP 3 [.int .i64 c.f,.int .i64 c.h,.int .i64 c.x]),(10,.ptr 2 0 0 0 0),(11,t),(21,encP 5 (encN (.mk ⟨4,0,0⟩ [] [nSeq (zag 2 k 0::.mk f d j::m)])))] (bldH g [(2,.row 5 [zN] 0)]) 3 λ_=>⟨?_,zcR g c lb _ q t o s⟩
  unfold bldH;exact(Xe [(0,0,0),(1,1,0),(2,2,0)] [3,4,5] rfl rfl rfl (Qt @ua @uj) (by((try simp only[evWB,Xb,Xc,Xg,Xd,Xh,implies_true,encP,zN])<;>(repeat' with_reducible apply Wa)<;>first|(first|exact zk rfl|exact zk w|exact V _ _ _ _ p;done)|exact fin6)))
 have e:zye (oneG g k) (.mk f d j) k m=.mk ⟨5,k,0⟩ d [nSeq (a::m)]:=by rw[A,U,M,decide_eq_true P,decide_eq_true X,T];rfl
 rw[e];have C:zlH (encN a::m.map encN) (a::m):=⟨.inl rfl,zjG _⟩
 have hv2:∀O σ x y z,Vw (bldH g [(2,.row 5 x 0),(3,.row 5 y 1),(4,.row 5 z 0),(5,.row 5 [[.int .i64 5,.int .i64 (k:Int),.int .i64 0,encL 5 encX d,.own 7 0 0 0 1]] 0),(6,.row 5 (encN a::m.map encN) 1),(7,.row 5 [[.int .i64 1,.int .i64 0,.int .i64 0,.nilsl,.own 6 0 1 0 (1+m.length)]] 0)]) O σ (inD [3,4,5,6,7]) true (.ptr 5 0 0 0 0) (encP 5 (encN (.mk ⟨5,k,0⟩ d [nSeq (a::m)]))):=by
  intro O σ x y z;refine zvW rfl rfl (zac rfl) ?_;refine zvS rfl rfl ?_;refine zoc C ?_ rfl rfl ?_
  .simp only[Wd];omega
  .omega
 (repeat first|simp(disch:=try exact dis1) only[evD,Xb,Xc,Xd,dT,dF,u,I,L,B,J,D,F,P,zcW,zJ,zdp,zD,Wd,Wf]|with_reducible first|intro _|refine aJ ?_)
 refine Gw2 @dT @dF ?_;intros
 (repeat' first
  |with_reducible apply Wa
  |(show _<=_;omega)
  |(show _<_;omega))
 all_goals(refine Gw9 S B @zJ @zdp @zD Z @m9M @ui @uh ?_;intros;try with_reducible exact trivial)
 (repeat' first
  |with_reducible apply Wa
  |(show _<=_;omega)
  |(show _<_;omega))
 all_goals refine zK (zqB rfl rfl (zhX (Xa (by omega) (by omega) (zE rfl) (Xa (by omega) (by omega) (zcj (zgo p)) (Xa (by omega) (by omega) (zE rfl) (Xa (by omega) (by omega) (zE rfl) (Xa (by omega) (by omega) (zcj (zgo C)) (Xf (by omega)))))))) rfl rfl) ?_
 all_goals rintro _ _ _ ⟨rfl,rfl,rfl⟩
 all_goals(refine Gw0 ?_;intros;try with_reducible exact trivial)
 (repeat' with_reducible apply Wa)
 all_goals refine zaw [(0,.ptr 0 0 0 0 0),(7,encP 5 (encN lb)),(9,encP 3 [.int .i64 c.f,.int .i64 c.h,.int .i64 c.x]),(10,.ptr 2 0 0 0 0),(11,t),(21,encP 5 (encN (.mk ⟨5,k,0⟩ d [nSeq (a::m)])))] (bldH g [(2,.row 5 [zN] 0)]) 3 λ_=>⟨?_,zcR g c lb _ q t o s⟩
 all_goals unfold bldH
 all_goals exact(Xe [(0,0,0),(1,1,0),(2,2,0)] [3,4,5,6,7] rfl rfl rfl (Qt @ua @uj) (by((try simp only[evWB,Xb,Xc,Xg,Xd,Xh,implies_true,encP,zN])<;>(repeat' with_reducible apply Wa)<;>first|(first|exact zk rfl|exact zk w|exact hv2 _ _ _ _ _;done)|exact fin6)))
theorem zuF{S:Shp}{k x:Nat}{l:List Nat}(h:x∈resG S k l):x∈l:=(Wk.1 h).1
theorem zBl{b:Nat->Ctx->Nd}{inl:List Nat}{c:Ctx}{t:Int}(h:∀x∈inl,(b x c).f.kind=1):(wayZ b inl c t).f.kind≠3:=by
 unfold wayZ;split
 .rename_i d;rw[h _ d];decide
 .unfold zcY;split
  .show (1:Int)≠3;decide
  .split
   .show (8:Int)≠3;decide
   .split
    .show (7:Int)≠3;decide
    .show (9:Int)≠3;decide
theorem zCT{s:St}{cd:Nat->Ctx->Nd}{inl:List Nat}{c:Ctx}(h:∀x∈inl,(cd x c).f.kind=1)(d:(trZ s cd inl c).f.kind=3):∃a b,(trZ s cd inl c).l=[a,b]:=by
 unfold trZ at d⊢;split at d
 .exact absurd d (zBl h)
 .rename_i e;rw[if_neg e];split at d
  .rename_i g;rw[if_pos g];exact⟨_,_,rfl⟩
  .split at d
   .exact absurd (show(6:Int)=3 from d) (by decide)
   .split at d
    .exact absurd (show(11:Int)=3 from d) (by decide)
    .exact absurd (show(12:Int)=3 from d) (by decide)
theorem zqG{H b:AH}{σ:Nat->Nat->Option (Nat×Nat×Nat)}{D:Nat->Nat->Prop}{t:Bool}{r q g:Nat}{n:Nd}(c:D r q)(d:H.get r q=some (.row 5 [encN n] g)):Vw H b σ D t (.ptr r q g 0 0) (encP 5 (encN n)) :=
 .frzp t r q g 0 0 5 5 _ _ c d (by simp) (by simp) (λj e=>by
  rw[Xq]
  exact zuh n j e)
theorem zI7{g:G}(b:OkB g){k:Nat}:(zcB (eG g) k).Nodup:=((Dm.rpo (zo b).ok (zo b).pos).nd).filter _
theorem zGe{g:G}{k:Nat}:(zfm (eG g) k).length<=g.blocks.length:=by
 have:=zn6 (E:=eG g) (b:=k)
 rwa [zdf]at this
theorem inB_eq{g:G}(c:OkB g){k:Nat}(d:k<g.blocks.length)(x:Nat):(shpG g).inB k x=decide (x∈zfm (eG g) k):=by have h:=zrX (zo c) (b:=k) (x:=x) (by rw[zdf];exact d);show @decide (zi8 (eG g) k x) (Classical.propDecidable _)=_;rw[Bool.eq_iff_iff,@decide_eq_true_iff _ (Classical.propDecidable _),decide_eq_true_iff];exact h.symm
theorem Qk{p:Prop}(h:p:=by(try simp only[evWB,Nat.reduceBEq,Nat.reduceAdd,Nat.reduceSub,Nat.reduceLeDiff,Nat.reduceLT,implies_true,za,encP,zN,List.length_append,List.map_append,List.length_cons,List.length_nil,List.map_cons,List.map_nil])<;>(repeat' with_reducible apply And.intro)<;>first|(first|exact RowV.of_flat zz|exact zk rfl;done)|exact fin6):p:=h
theorem Qu{c d p:Prop}(a0:c)(b:d)(h:c->d->p:=by intro a0 b;(try simp only[evWB,Nat.reduceBEq,Nat.reduceAdd,Nat.reduceSub,Nat.reduceLeDiff,Nat.reduceLT,implies_true,a0,b])<;>(repeat' with_reducible apply And.intro)<;>first|(first|exact RowV.of_flat zz|exact zk rfl|exact zc4 rfl rfl (by omega);done)|exact fin6):p:=h a0 b
theorem zib(g:G)(y:OkB g)(cd:Nat->Ctx->Nd)(k:Nat)(hk:k∈ordE (eG g))(hh:zeN (eG g) k=true)(z:∀x∈zcB (eG g) k,zq9 g cd x)(hk1:∀x∈zcB (eG g) k,∀c,(cd x c).f.kind=1)(c:Ctx)(lb:Nd):
  zjM g zbt [.int .i64 (k:Int),.agg (encN lb),za (zfm (eG g) k),ctxA c] (.agg (encN (nSeq (lb::ztD (shpG g) cd k c::zbe cd c (beyL (shpG g) k))))):=by
 have hlf:(Xm (encN lb)).flat=true:=flA;refine zgY ?_ (by show(true&&((Xm (encN lb)).flat&&(true&&(true&&true))))=true;rw[hlf];rfl) flA;refine zaC (fn_x zjw rfl ?_);unfold zeM bldH ctxA;have hB:=hBig;have A:k<g.blocks.length:=by have:=zbl (zo y) hk;rwa [zdf]at this
 have hkd:=zuv y (k:=k);have hn:=y.small.1;have hgl:g.toG.blocks.length=g.blocks.length:=by simp[G.toG]
 rw[hgl]at hn;have hbl:=zGe (g:=g) (k:=k);have X:=inB_eq y A;have Y:beyL (shpG g) k=aftG (shpG g) k (zcB (eG g) k):=zvm hh;have hr:znA (shpG g) k=resG (shpG g) k (zcB (eG g) k):=zAb hh;have hnd:=zI7 y (k:=k);have t:=λx (o:x∈zcB (eG g) k)=>zBO y o
 have hkg:=zyS (g:=g) A;have hcnt:(shpG g).cnt=cntE (eG g):=rfl;have hef:zu (encN lb)=true:=zt;refine Gw2 hef @zD ?_;intros
 (repeat first|simp(disch:=try exact dis1) only[evD,Xb,Xc,Xd,encNN,hkg,Wm,Wq]|with_reducible first|intro _|refine aJ ?_)
 refine Gw2 @ub @ua ?_;intros;generalize hks:zcB (eG g) k=b at hkd Y hr hnd t hkg z hk1;generalize hbo:zfm (eG g) k=bo at hbl X
 refine zd (λs:Nat×Nat×Nat=>([(0,.ptr 0 0 0 0 0),(1,.int .i64 (k:Int)),(3,za bo),(7,encP 5 (encN lb)),(9,encP 3 [.int .i64 c.f,.int .i64 c.h,.int .i64 c.x]),(10,.ptr 2 0 0 0 0),(11,.own 3 0 s.2.1 0 (aftG (shpG g) k (b.take s.1)).length),(12,.own 4 0 s.2.2 0 (resG (shpG g) k (b.take s.1)).length),(28,za b),(29,.int .i64 b.length),(30,.int .i64 s.1)],bldH g [(2,.row 5 [zN] 0),(3,.row 1 ((aftG (shpG g) k (b.take s.1)).map cN) s.2.1),(4,.row 1 ((resG (shpG g) k (b.take s.1)).map cN) s.2.2)])) 5
  (λs=>s.1<=b.length) (λs=>b.length-s.1) (0,0,0) (Wh _) ?start ?_
 case start=>have W:aftG (shpG g) k (b.take 0)=[]:=rfl;have h2:resG (shpG g) k (b.take 0)=[]:=rfl;unfold bldH;exact(Xe [(0,0,0),(1,1,0),(2,2,0),(3,3,0),(4,4,0)] [] rfl rfl rfl (by((try simp only[evWB,Xb,Xc,Xg,Xd,Xh,implies_true,za,encP,zN,W,h2])<;>(repeat' with_reducible apply Wa)<;>first|(first|exact Xj zz|exact zk rfl;done)|exact fin6)) (by((try simp only[evWB,Xb,Xc,Xg,Xd,Xh,implies_true,za,encP,zN,W,h2])<;>(repeat' with_reducible apply Wa)<;>first|(first|exact Xj zz|exact zk rfl;done)|exact fin6)))
 rintro⟨i,γ,B⟩ hi wf;simp only at hi;clear wf;refine dcU zdz.eq_1 ?_;by_cases M:i<b.length
 case neg=>
  obtain rfl:i=b.length:=by omega
  rw[WD];have u:=zhq g y (resG (shpG g) k b) (by have:=zqz (S:=shpG g) (k:=k) (l:=b);omega) (λx o=>t x (zuF o));have O:zR (shpG g) k=plG (shpG g) (resG (shpG g) k b):=by rw[zte,hr]
  have hil:inlL (shpG g) k=inG (shpG g) (resG (shpG g) k b):=by rw[zB4,hr]
  have hps:∀x∈zR (shpG g) k,x∈b:=λx o=>by rw[O]at o;exact zuF (Wk.1 o).1
  have N:∀x∈inlL (shpG g) k,x∈b:=λx o=>by rw[hil]at o;exact zuF (Wk.1 o).1
  rw[<-O,<-hil]at u;have D:(zR (shpG g) k).length<=1000:=by rw[O];have:=zt6 (S:=shpG g) (l:=resG (shpG g) k b);have:=zqz (S:=shpG g) (k:=k) (l:=b);omega
  have hlst:(shpG g).last k=zaG g k:=rfl;have hone:(shpG g).one k=oneG g k:=rfl;unfold ztD inC;rw[zHN,hlst,hone,Y];have J:=zzL (S:=shpG g) (k:=k) (l:=b);have P:=zqz (S:=shpG g) (k:=k) (l:=b);have has:=λx (o:x∈aftG (shpG g) k b)=>zz8 o
  generalize zR (shpG g) k=V at u hps D⊢;generalize inlL (shpG g) k=il at u N⊢;generalize aftG (shpG g) k b=q at J has⊢;generalize resG (shpG g) k b=re at u P⊢;obtain⟨v,U⟩:∃v,v=(zaM q c).f:=⟨_,rfl⟩;rw[<-U];have hfi:=ziU V ⟨k,k,v⟩;have htr:=zfo g y cd k A il (zaM V ⟨k,k,v⟩) (λx o=>z x (N x o));have Z:=zep g cd V D ⟨k,k,v⟩ (λx o=>z x (hps x o));have C:=zep g cd q (by omega) c (λx o=>z x (has x o));have h3:=zCT (s:=zaG g k) (cd:=cd) (inl:=il) (c:=zaM V ⟨k,k,v⟩) (λx o=>hk1 x (N x o) _);generalize trZ (zaG g k) cd il (zaM V ⟨k,k,v⟩)=tr at htr h3⊢;have hchl:=zms (code:=cd) (c:=⟨k,k,v⟩) (l:=V);generalize zbe cd ⟨k,k,v⟩ V=ch at Z hchl⊢;have K:=zms (code:=cd) (c:=c) (l:=q);generalize zbe cd c q=ch2 at C K⊢;unfold bldH;refine Gw1 @dF ?_;intros;refine zaw [(0,.ptr 0 0 0 0 0),(1,.int .i64 (k:Int)),(7,encP 5 (encN lb)),(9,encP 3 [.int .i64 c.f,.int .i64 c.h,.int .i64 c.x]),(10,.ptr 2 0 0 0 0),(11,za q),(12,za re)] (bldH g [(2,.row 5 [zN] 0)]) 3 λ_=>⟨?_,?_⟩
  .unfold bldH;exact(Xe [(0,0,0),(1,1,0),(2,2,0)] [3,4] rfl rfl rfl (Qu @ua @uj) (Qu @ua @uj))
  unfold zdB bldH;refine Gw1 @ua ?_;intros;refine zK (u _ _ (Xa (by omega) (by omega) (zE rfl) (Xf (by omega)))) ?_;rintro _ _ _ ⟨rfl,rfl,rfl⟩;unfold bldH;rcases q with _|⟨a,q⟩
  case' cons=>have hga:((a::q).map λ(n:Nat)=>[Xi .i64 (n:Int)]).getD 0 []=[.int .i64 (a:Int)]:=rfl
  case' nil=>have L:za ([]:List Nat)=encL 1 (λ(n:Nat)=>[Xi .i64 (n:Int)]) []:=rfl
  case' cons=>have L:za (a::q)=encL 1 (λ(n:Nat)=>[Xi .i64 (n:Int)]) (a::q):=rfl
  case' nil=>refine Gw3 L @uh @dF ?_;intros
  case' cons=>(repeat first|simp(disch:=try exact dis1) only[evD,Xb,Xc,Xd,L,Wd,dT,hga,Int.toNat_zero]|with_reducible first|intro _|refine aJ ?_)
  case' nil=>obtain rfl:v=c.f:=U
  case' cons=>obtain rfl:v=(a:Int):=U
  all_goals refine ze (zh hfi rfl) ?_
  all_goals(refine Gw0 ?_;intros;try with_reducible exact trivial)
  all_goals refine zK (htr _ _ (Xa (by omega) (by omega) (zE rfl) (Xa (by omega) (by omega) (zE rfl) (Xf (by omega))))) ?_
  all_goals rintro _ _ _ ⟨rfl,rfl,rfl⟩
  all_goals unfold bldH
  all_goals(refine Gw1 @zD ?_;intros;try with_reducible exact trivial)
  all_goals refine zK (Z _ _ (Xa (by omega) (by omega) (zE rfl) (Xa (by omega) (by omega) (zE rfl) (Xa (by omega) (by omega) (zcj (za2 zt)) (Xf (by omega)))))) ?_
  all_goals rintro _ _ _ ⟨rfl,rfl,rfl⟩
  all_goals unfold bldH
  all_goals(refine Gw0 ?_;intros;try with_reducible exact trivial)
  case' nil=>refine zaw [(0,.ptr 0 0 0 0 0),(1,.int .i64 (k:Int)),(7,encP 5 (encN lb)),(9,encP 3 [.int .i64 c.f,.int .i64 c.h,.int .i64 c.x]),(10,.ptr 2 0 0 0 0),(11,za []),(19,encP 5 (encN tr)),(20,encL 5 encN ch)] (bldH g [(2,.row 5 [zN] 0)]) 3 λ_=>⟨?_,?_⟩
  case' cons=>refine zaw [(0,.ptr 0 0 0 0 0),(1,.int .i64 (k:Int)),(7,encP 5 (encN lb)),(9,encP 3 [.int .i64 c.f,.int .i64 c.h,.int .i64 c.x]),(10,.ptr 2 0 0 0 0),(11,za (a::q)),(19,encP 5 (encN tr)),(20,encL 5 encN ch)] (bldH g [(2,.row 5 [zN] 0)]) 3 λ_=>⟨?_,?_⟩
  all_goals first
   |exact zo8 g y k A c lb tr ch ch2 _ rfl (by omega) (by omega) h3 C
   |(
     unfold bldH
     exact(Xe [(0,0,0),(1,1,0),(2,2,0)] [3,4] rfl rfl rfl (Qt @ua @uj) (by((try simp only[evWB,Xb,Xc,Xg,Xd,Xh,implies_true,encP,zN])<;>(repeat' with_reducible apply Wa)<;>first|(first|exact zk rfl|exact zqG rfl rfl;done)|exact fin6))))
 have o:=t _ (Wp M);have T:b[i]∉b.take i:=λh=>by obtain⟨j,hj,e⟩:=List.getElem_of_mem h;rw[WE]at hj;rw[List.getElem_take]at e;have:=(List.getElem_inj hnd).1 e;omega
 have Q:b.take (i+1)=b.take i++[b[i]]:=WF M;have hgi:(b.map λ(n:Nat)=>[Xi .i64 (n:Int)]).getD i []=[.int .i64 (b[i]:Int)]:=zi (f:=cN) (d:=[]) M;have J:=zzL (S:=shpG g) (k:=k) (l:=b.take i);have P:=zqz (S:=shpG g) (k:=k) (l:=b.take i);rw[WE]at J P;generalize b[i]=x at o T Q hgi;have hge:(((Wc g.blocks.length).map (cntE (eG g))).map λ(n:Nat)=>[Xi .i64 (n:Int)]).getD x []=[.int .i64 (cntE (eG g) x:Int)]:=by rw[zi (by simp;exact o)];simp
 have hcon:=zcm bo x;have m:beyC (shpG g) k (aftG (shpG g) k (b.take i)) x=true->aftG (shpG g) k (b.take (i+1))=aftG (shpG g) k (b.take i)++[x]/\resG (shpG g) k (b.take (i+1))=resG (shpG g) k (b.take i):=λh=>by rw[Q];exact⟨zzm h,zGu h T⟩
 have p:beyC (shpG g) k (aftG (shpG g) k (b.take i)) x=false->aftG (shpG g) k (b.take (i+1))=aftG (shpG g) k (b.take i)/\resG (shpG g) k (b.take (i+1))=resG (shpG g) k (b.take i)++[x]:=λh=>by rw[Q];exact⟨zEx h,zJI h T⟩
 unfold beyC at m p;rw[X,hcnt]at m p;unfold bldH;refine Gw3 @dT @ub hgi ?_;intros;refine ze (zh hcon rfl) ?_;by_cases R:x∈bo
 .obtain⟨F,H⟩:=p (by rw[decide_eq_true R];rfl);rw[decide_eq_true R];clear m p;refine Gw2 @dT @dF ?_;intros;exact⟨(i+1,γ,B+1),by simp only;omega,by simp only;omega,by rw[F,H];exact(Xe [(0,0,0),(1,1,0),(2,2,0),(3,3,0),(4,4,0)] [] rfl rfl rfl Qk Qk)⟩
 rw[decide_eq_false R]at m p⊢;by_cases h0:(aftG (shpG g) k (b.take i)).length=0
 .have hem:aftG (shpG g) k (b.take i)=[]:=List.length_eq_zero_iff.1 h0;obtain⟨F,H⟩:=m (by rw[hem];rfl);clear m p;have w:(((aftG (shpG g) k (b.take i)).length:Nat):Int)=0:=by omega
  refine Gw3 @dT @dF w ?_;intros;exact⟨(i+1,γ+1,B),by simp only;omega,by simp only;omega,by rw[F,H];exact(Xe [(0,0,0),(1,1,0),(2,2,0),(3,3,0),(4,4,0)] [] rfl rfl rfl Qk Qk)⟩
 have hne:(aftG (shpG g) k (b.take i)).isEmpty=false:=by cases hh2:aftG (shpG g) k (b.take i)with
  |nil=>rw[hh2]at h0;exact absurd rfl h0
  |cons a l=>rfl
 have w:¬(((aftG (shpG g) k (b.take i)).length:Nat):Int)=0:=by omega
 rw[hne]at m p;by_cases W:cntE (eG g) x=1
 .obtain⟨F,H⟩:=p (by simp[W]);clear m p;have I:((cntE (eG g) x:Nat):Int)=1:=by omega
  (repeat first|simp(disch:=try exact dis1) only[evD,Xb,Xc,Xd,dT,dF,w,hge,Wm,Wq]|with_reducible first|intro _|refine aJ ?_)
  refine Gw3 @dT @dF I ?_;intros;exact⟨(i+1,γ,B+1),by simp only;omega,by simp only;omega,by rw[F,H];exact(Xe [(0,0,0),(1,1,0),(2,2,0),(3,3,0),(4,4,0)] [] rfl rfl rfl Qk Qk)⟩
 .obtain⟨F,H⟩:=m (by simp[W]);clear m p;have I:¬((cntE (eG g) x:Nat):Int)=1:=by omega
  (repeat first|simp(disch:=try exact dis1) only[evD,Xb,Xc,Xd,dT,dF,w,hge,Wm,Wq]|with_reducible first|intro _|refine aJ ?_)
  refine Gw3 @dT @dF I ?_;intros;exact⟨(i+1,γ+1,B),by simp only;omega,by simp only;omega,by rw[F,H];exact(Xe [(0,0,0),(1,1,0),(2,2,0),(3,3,0),(4,4,0)] [] rfl rfl rfl Qk Qk)⟩
theorem zns(g:G)(p:OkB g)(b:Nat->Ctx->Nd)(k:Nat)(s:k∈ordE (eG g))(q:zeN (eG g) k=true)(m:∀x∈zcB (eG g) k,zq9 g b x)(n:∀x∈zcB (eG g) k,∀c,(b x c).f.kind=1)(c:Ctx):
  zjM g zB [.int .i64 (k:Int),ctxA c] (.agg (encN (nSeq (zag 10 0 k::ztD (shpG g) b k c::zbe b c (beyL (shpG g) k))))):=by
 refine zgY ?_ rfl flA;have e:=zib g p b k s q m n c (zag 10 0 k);generalize nSeq (zag 10 0 k::ztD (shpG g) b k c::zbe b c (beyL (shpG g) k))=t at e⊢;refine zaC (fn_x zeQ rfl ?_);unfold zct bldH ctxA;have u:=hBig;refine Gw0 ?_;intros;refine zaw [(0,.ptr 0 0 0 0 0),(1,.int .i64 (k:Int)),(5,encP 3 [.int .i64 c.f,.int .i64 c.h,.int .i64 c.x]),(6,.ptr 2 0 0 0 0),(7,encP 5 (encN (zag 10 0 k)))] (bldH g [(2,.row 5 [zN] 0)]) 3 λ_=>⟨?_,?_⟩
 .unfold bldH;exact(Xe [(0,0,0),(1,1,0),(2,2,0)] [3] rfl rfl rfl (Qs @ua @uj) (Qs @ua @uj))
 unfold zbO bldH;conv in Z8 _ _=>reduce
 have d:boM (eG g) (hdL (eG g))=[.int .i64 ((hdL (eG g)).length:Int),.undef,.undef]::(hdL (eG g)).zipIdx.map (cBo (eG g)):=rfl;obtain⟨j,o⟩:=(zqD (E:=eG g) (k:=k) (l:=(hdL (eG g)).zipIdx) (i:=0)).2 (by rw[WC];exact(zzG p s).2 q);rw[d]
 (repeat first|simp(disch:=try exact dis1) only[evD,Xb,Xc,Xd,o,Option.isSome_some]|with_reducible first|intro _|refine aJ ?_)
 rw[<-d];refine Gw2 @ua @zJ ?_;intros;refine zK (e _ _ (Xa (by omega) (by omega) (zE rfl) (Xf (by omega)))) ?_;rintro _ _ _ ⟨rfl,rfl,rfl⟩;unfold bldH;refine Gw2 @zD @zcu.eq_1 ?_;intros;exact zem (zac flA)
theorem zio(g:G)(b:OkB g):∀(f k:Nat),k∈ordE (eG g)->(ordE (eG g)).length<=f+(ordE (eG g)).idxOf k->zq9 g (zdP (shpG g) f) k
 |
  0,k,hk,h=>by
  have:=List.idxOf_lt_length_iff.2 hk;omega
 |
  f+1,k,hk,h=>by
  obtain⟨T,D⟩:=Dm.dtree_ex (zo b).ok (zo b).pos;have R:=znd (zo b) (one:=oneG g) D;have d:∀x∈zcB (eG g) k,zq9 g (zdP (shpG g) f) x:=λx o=>by obtain⟨m,n⟩:=(R.kid k x).1 o;have:=R.down k x hk m n;exact zio g b f x m (by omega)
  intro c;rw[zdP]
  cases j:zeN (eG g) k with
  |true=>have e:(shpG g).head k=true:=j;rw[if_pos e];exact zns g b _ k hk j d (λx _ c=>by rw[zgp]) c
  |false=>
   have e:¬(shpG g).head k=true:=by show ¬zeN (eG g) k=true;rw[j];exact Bool.false_ne_true
   rw[if_neg e];exact znw g b _ k hk j d c
def usK(b:List (Int×Int))(x:Int):Bool:=decide (x∈b.map (·.1))
abbrev mpR(c:Int)(ps:List (Int×Int)):AObj:=.row 3 ([.int .i64 c,.undef,.undef]::(enL ps).map cm) 0
theorem zdu{c:Int}{b:List (Int×Int)}:zr ([Xi .i64 c,.undef,.undef]::(enL b).map cm):=zaD rfl (zI zlE)
theorem pr_ret{M:List (List AV)}(c:zr M){H:AH}{nx:Nat}{v a:AV}(d:H.look 0=some (.row 3 M 0))(e:Vw H [(0,.row 3 M 0)] (zqk 1) (λr _=>1<=r) true v a):zti 1 (λv H n=>v=a/\H=[(0,.row 3 M 0)]/\n=1) v H nx:=by
 refine⟨a,[(0,.row 3 M 0)],1,Ent.lowF (Wl _) (λr o h=>?_) ⟨⟨by omega,zcj c⟩,trivial⟩ ⟨e,trivial⟩,rfl,rfl,rfl⟩;simp only[AH.look]at h
 cases b:Xr 0 r with
 |true=>rw[b]at h;have:=Nat.eq_of_beq_eq_true b;subst this;rw[d];exact h
 |false=>rw[b]at h;cases h
theorem zsS{M:List (List AV)}(d:zr M){H:AH}{r nx:Nat}{a b:AV}(m:r<nx)(k:H.look r=some (.row 3 M 0))(g:a.flat=true)(j:b.flat=true)(h:zG Z9 zat [a,.mp 0 0] [(0,.row 3 M 0)] 1 (λv H n=>v=b/\H=[(0,.row 3 M 0)]/\n=1)) :
  zG Z9 zat [a,.mp r 0] H nx (λv c n=>v=b/\c=H.cutL [r]++[(r,.row 3 M 0)]/\n=nx+1):=by
 refine zb6 [(0,r,0)] 1 _ h rfl ?_ ?_ ?_ ?_
 .show (Xs r nx&&Xr 0 0 && !(memN [] 0)&&true)=true;have e:Xs r nx=true:=by rw[Nat.blt_eq];exact m
  rw[e];rfl
 .refine⟨rfl,⟨M,?_,Xj d⟩,trivial⟩;unfold AH.get;rw[k];rfl
 .exact⟨zac g,.mp _ _ _ _ rfl,trivial⟩
 .rintro v c p ⟨rfl,rfl,rfl⟩;refine⟨zr0 j,?_,rfl⟩;have o:Tab.to [(0,r,0)] nx 0=r:=rfl;unfold AH.over;simp only[AH.renL,o,AObj.ren,zhJ d,Wj,Wi]
theorem zvP{K:Int->Bool}{l:List Nd}{i:Nat}(h:i<l.length):zaV K (l.drop i)=if l[i].f.kind=10/\K l[i].f.label=false then zaV K (l.drop (i+1))else zec K l[i]::zaV K (l.drop (i+1)):=by rw[WA h,zaV]
theorem zmx{x:Nd}:∀{l:List Nd},x∈l->zco x<=zaL l
 |
  y::l,h=>by
  rw[zaL];rcases Wt.1 h with rfl|h
  .omega
  .have:=zmx h;omega
theorem zoN:∀n:Nd,(encN n).getD 2 .undef=.int .i64 n.f.label
 |.mk f c l=>by rw[zbj];rfl
theorem Qv{e g j k m n o p:Prop}(a0:e)(b:g)(c:j)(a3:k)(a4:m)(a5:n)(d:o)(h:e->g->j->k->m->n->o->p:=by intro a0 b c a3 a4 a5 d;(try simp only[evWB,Nat.reduceBEq,Nat.reduceAdd,Nat.reduceSub,Nat.reduceLeDiff,Nat.reduceLT,implies_true,a0,b,c,a3,a4,a5,d])<;>(repeat' with_reducible apply And.intro)<;>first|(first|exact RowV.of_flat zdu|exact zk rfl|exact RowV.of_flat (zI λ_=>zt);done)|exact fin6):p:=h a0 b c a3 a4 a5 d
theorem Qw{e g j k m n o p:Prop}(a0:e)(b:g)(c:j)(a3:k)(a4:m)(a5:n)(d:o)(h:e->g->j->k->m->n->o->p:=by intro a0 b c a3 a4 a5 d;(try simp only[evWB,Nat.reduceBEq,Nat.reduceAdd,Nat.reduceSub,Nat.reduceLeDiff,Nat.reduceLT,implies_true,a0,b,c,a3,a4,a5,d])<;>(repeat' with_reducible apply And.intro)<;>first|(first|exact RowV.of_flat zdu|exact zk rfl|exact Vw.mp _ _ _ _ rfl;done)|exact fin6):p:=h a0 b c a3 a4 a5 d
theorem ziZ(c:Int)(b:List (Int×Int)):∀(f:Nat)(n:Nd),zco n<=f->f<=100000->zG Z9 zat [.agg (encN n),.mp 0 0] [(0,mpR c b)] 1 (λv H nx=>v=.agg (encN (zec (usK b) n))/\H=[(0,mpR c b)]/\nx=1)
 |0,n,h,_=>by have:=zjH n;omega
 |
  f+1,.mk fd cs l,h,hf=>by
  have J:∀x∈l,zG Z9 zat [.agg (encN x),.mp 0 0] [(0,mpR c b)] 1 (λv H nx=>v=.agg (encN (zec (usK b) x))/\H=[(0,mpR c b)]/\nx=1):=λx B=>by have:=zmx B;rw[zco]at h;exact ziZ c b f x (by omega) (by omega)
  have P:l.length<=100000:=by have:=zgv l;rw[zco]at h;omega
  refine zaC (fn_x zoX rfl ?_);refine dcU ziV.eq_1 ?_;have Q:=hBig;have u:zu (encN (.mk fd cs l))=true:=zt;rw[zec];generalize C:usK b=K;rw[zbj fd cs l]at u⊢;refine Gw1 u ?_;intros
  refine zd (λs:List Nd×Nat×Nat=>([(1,.mp 0 0),(2,.ptr 1 0 0 0 0),(4,.ptr 2 0 0 0 0),(5,.own 3 0 s.2.2 0 s.1.length),(9,encL 5 encN l),(10,.int .i64 l.length),(11,.int .i64 s.2.1)],[(0,mpR c b),(1,.row 5 [[.int .i64 fd.kind,.int .i64 fd.block,.int .i64 fd.label,encL 5 encX cs,encL 5 encN l]] 0),(2,.row 5 [zN] 0),(3,.row 5 (s.1.map encN) s.2.2)])) 4
   (λs=>s.2.1<=l.length/\s.1.length<=s.2.1/\s.1++zaV K (l.drop s.2.1)=zaV K l) (λs=>l.length-s.2.1) ([],0,0) ⟨Wh _,Wh _,rfl⟩ ?start ?_
  case start=>exact(Xe [(0,0,0),(1,1,0),(2,2,0),(3,3,0)] [] rfl rfl rfl (by((try simp only[evWB,Xb,Xc,Xg,Xd,Xh,implies_true,zN,Wi,Wf])<;>(repeat' with_reducible apply Wa)<;>first|(first|exact Xj zdu|exact zk rfl|exact Xj (zI λ_=>zt);done)|exact fin6)) (by((try simp only[evWB,Xb,Xc,Xg,Xd,Xh,implies_true,zN,Wi,Wf])<;>(repeat' with_reducible apply Wa)<;>first|(first|exact Xj zdu|exact zk rfl|exact Vw.mp _ _ _ _ rfl;done)|exact fin6)))
  rintro⟨M,i,γ⟩ ⟨N,I,e⟩ wf;simp only at N I e;clear wf;refine dcU zgH.eq_1 ?_;by_cases p:i<l.length;case neg=>rw[WB (by omega),zaV,Wo]at e;subst e;refine Gw1 @dF ?_;intros;refine dcU zg1.eq_1 ?_;refine Gw1 @zjn.eq_1 ?_;intros;refine pr_ret zdu rfl ?_;rw[zbj,zhZ];exact⟨.int _ _ _,.int _ _ _,.int _ _ _,zac rfl,zr1 rfl (show 1<=3 by omega) rfl (by omega),trivial⟩
  have k:=zi (f:=encN) (d:=[]) p;have B:=J _ (Wp p);rw[zvP p]at e;generalize l[i]=x at k B e;have o:zu (encN x)=true:=zt;have y:∀(w:Nd) H,zcX 5 (encL 5 encN [w]) H=some [encN w]:=λw H=>zcN (λ_ _=>zD)
  have g:∀G,zG Z9 zat [.agg (encN x),.mp 0 0] [(0,mpR c b),(1,.row 5 [[.int .i64 fd.kind,.int .i64 fd.block,.int .i64 fd.label,encL 5 encX cs,encL 5 encN l]] 0),(2,.row 5 [zN] 0),(3,.row 5 (M.map encN) G),(4,.row 5 [encN x] 0)] 5 (λv H n=>v=.agg (encN (zec K x))/\H=[(1,.row 5 [[.int .i64 fd.kind,.int .i64 fd.block,.int .i64 fd.label,encL 5 encX cs,encL 5 encN l]] 0),(2,.row 5 [zN] 0),(3,.row 5 (M.map encN) G),(4,.row 5 [encN x] 0),(0,mpR c b)]/\n=6):=λG=>by rw[<-C];exact zsS zdu (by omega) rfl flA flA B
  have q:∀w:Nd,(M++[w]).length=M.length+1:=λw=>by simp
  by_cases z:x.f.kind=10;case neg=>rw[if_neg (λh=>z h.1)]at e;refine Gw8 @dT @dF k @zcW @zJ @zdp @zD o ?_;intros;refine zK (g _) ?_;rintro _ _ _ ⟨rfl,rfl,rfl⟩;refine Gw4 @rbN1 y @ui @uh ?_;intros;exact⟨(M++[zec K x],i+1,γ+1),⟨by simp only;omega,by simp only[q];omega,by simp only[Wn,WG];exact e⟩,by simp only;omega,(Xe [(0,0,0),(1,1,0),(2,2,0),(3,3,0)] [] rfl rfl rfl (Qv @uj @m9A @m9P @ui @uh @m9C @m9N) (Qw @uj @m9A @m9P @ui @uh @m9C @m9N))⟩
  have t:[Xi .i64 10,(encN x).getD 1 .undef,.int .i64 x.f.label,(encN x).getD 3 .undef,(encN x).getD 4 .undef]=encN x:=by
   have L:Xi .i64 10=(encN x).getD 0 .undef:=by rw[zcW,z]
   rw[L,<-zoN,zJ]
  by_cases A:x.f.label∈b.map (·.1)
  .have F:K x.f.label=true:=by rw[<-C];exact decide_eq_true A
   rw[if_neg (λh=>by rw[F]at h;exact absurd h.2 (by decide))]at e;obtain⟨j,R,O,m⟩:=zr8 A;refine Gw12 @dT @dF k z m @zcW @zJ @zdp @zoN t @zD o ?_;intros;refine zK (g _) ?_;rintro _ _ _ ⟨rfl,rfl,rfl⟩;refine Gw4 @rbN1 y @ui @uh ?_;intros;exact⟨(M++[zec K x],i+1,γ+1),⟨by simp only;omega,by simp only[q];omega,by simp only[Wn,WG];exact e⟩,by simp only;omega,(Xe [(0,0,0),(1,1,0),(2,2,0),(3,3,0)] [] rfl rfl rfl (Qv @uj @m9A @m9P @ui @uh @m9C @m9N) (Qw @uj @m9A @m9P @ui @uh @m9C @m9N))⟩
  .have D:K x.f.label=false:=by rw[<-C];exact decide_eq_false A
   rw[if_pos ⟨z,D⟩]at e;have m:=zpx A;refine Gw12 @dT @dF k z m @zcW @zJ @zdp @zoN t @zD o ?_;intros;exact⟨(M,i+1,γ),⟨by simp only;omega,by simp only;omega,e⟩,by simp only;omega,(Xe [(0,0,0),(1,1,0),(2,2,0),(3,3,0)] [] rfl rfl rfl (by((try simp only[evWB,Xb,Xc,Xg,Xd,Xh,implies_true,zN])<;>(repeat' with_reducible apply Wa)<;>first|(first|exact Xj zdu|exact zk rfl|exact Xj (zI λ_=>zt);done)|exact fin6)) (by((try simp only[evWB,Xb,Xc,Xg,Xd,Xh,implies_true,zN])<;>(repeat' with_reducible apply Wa)<;>first|(first|exact Xj zdu|exact zk rfl|exact Vw.mp _ _ _ _ rfl;done)|exact fin6)))⟩
end Go.Ab
namespace Go.Ab
open Go.RowKit Go.Proofs
section
variable {S:Shp}{R:List Nat}{T:Nat->Option Nat}
def wAll(_:NdF)(_:List Ex):Nat:=1
mutual
theorem zHP:∀n:Nd,wN wAll n=zco n
 |.mk f c l=>by rw[wN,zco,zEl l];rfl
theorem zEl:∀l:List Nd,wNs wAll l=zaL l
 |[]=>by rw[wNs,zaL]
 |x::l=>by rw[wNs,zaL,zHP x,zEl l]
end
theorem zAd(c:Ctx)(t:Int):wN wAll (zcY c t)=1:=by
 unfold zcY;split
 .rfl
 split
 .rfl
 split<;>rfl
theorem zE6{α:Type}{g:α->Nat}:∀{l:List α},(∀x∈l,g x=1)->(l.map g).sum=l.length
 |[],_=>rfl
 |
  a::l,h=>by
  rw[Wj,List.sum_cons,h a Wu,zE6 λx b=>h x (WH _ b),Wd];omega
theorem zFH{x v:Nat}(h:OwnP wAll S x v):v<=6+(tgS (S.last x)).length:=by
 have d:∀c,trW wAll S x c<=1+(tgS (S.last x)).length:=λc=>by
  unfold trW;rw[zE6 λt _=>zAd c t];have:=List.length_filter_le (λ(t:Int)=> !decide (t.toNat∈inlL S x)) (tgS (S.last x))
  have g:(if (S.last x).op=6 then 0 else if (S.last x).op=7 then wAll ⟨3,0,0⟩ (S.last x).e else if (S.last x).op=8 then wAll ⟨6,0,0⟩ (S.last x).e else if (S.last x).op=9 then wAll ⟨11,0,0⟩ []else wAll ⟨12,0,0⟩ [])<=1:=by
   unfold wAll
   repeat' split
   all_goals omega
  omega
 unfold OwnP at h;obtain⟨c0,⟨_,b⟩|⟨_,b⟩|⟨_,_,_,b⟩⟩:=h
 .have:=d (zaM (zR S x) c0);simp only[wAll]at b;omega
 .have:=d (zaM (zR S x) (inC S x c0));simp only[wAll]at b;omega
 .have:=d (zaM (zR S x) (inC S x c0));simp only[wAll]at b;omega
theorem zmz{g:Nat->Nat}{m:Nat}:∀{l:List Nat},(∀x∈l,g x<=m)->(l.map g).sum<=l.length*m
 |[],_=>Wh _
 |
  a::l,h=>by
  rw[Wj,List.sum_cons,Wd,Nat.succ_mul];have:=h a Wu;have:=zmz λx b=>h x (WH _ b)
  omega
theorem zDk(D:Tr S R T)(P:Top R T){n m:Nat}(c:R.length<=n)(b:∀x∈R,(tgS (S.last x)).length<=m):zco (bldN S n)<=R.length*(6+m):=by rw[<-zHP];refine Nat.le_trans (zCW D P wAll (λx=>6+(tgS (S.last x)).length) (λx _ v h=>zFH h) c c0) (zmz λx d=>?_);have:=b x d;omega
end
theorem zrw:∀{l:List St},zjf l=0->∀s∈l,s.check=0
 |
  a::l,h,s,c=>by
  rw[zjf]at h;split at h
  .rename_i b;exact absurd h b
  .rename_i b;rcases Wt.1 c with rfl|c
   .exact Classical.not_not.1 b
   .exact zrw h s c
theorem zq6:∀{l:List Bl},zm1 l=0->∀b∈l,zjf b.stmts=0
 |
  a::l,h,s,d=>by
  rw[zm1]at h;split at h
  .rename_i c;exact absurd h c
  .rename_i c;rcases Wt.1 d with rfl|d
   .exact Classical.not_not.1 c
   .exact zq6 h s d
theorem zop{g:G}(h:zjb g=0):0<g.blocks.length/\(∀b∈g.blocks,zjx b.stmts g.blocks.length=true)/\∀b∈g.blocks,∀s∈b.stmts,s.check=0:=by
 unfold zjb at h;split at h
 .rename_i c;rw[Wv,WI]at c;refine⟨?_,c.2,λb d=>zrw (zq6 h b d)⟩
  cases d:g.blocks with
  |nil=>rw[d]at c;simp at c
  |cons a l=>simp
 .omega
theorem zrz{s:St}(h:s.check=0):zaJ s.op=s.e.length:=by
 unfold St.check zzS at h;split at h
 .omega
 .rename_i b;exact Classical.not_not.1 λc=>b (.inr c)
theorem zuo{g:G}(k:fewG g=true)(o:zjb g=0):OkB g:=by
 obtain⟨p,j,q⟩:=zop o;obtain⟨z,d⟩:=zdq k;refine⟨zh0 k,p,λb c e=>?_,λb c t w=>?_,λb c s h B=>?_,λb c s h=>?_,λb c=>?_⟩
 .have:=j b c;unfold zjx at this;rw[e]at this;simp at this
 .have:=j b c;unfold zjx at this;rw[Wv,Wv,WI]at this;have:=this.2.2 t w;unfold inN at this;exact of_decide_eq_true this
 .have m:=Wx h;have A:=zrz (q b c s m);have y:zaJ s.op=1:=by unfold zaJ;rw[if_neg (by omega),if_pos (by omega)]
  obtain⟨x,n⟩:∃x,s.e=[x]:=List.length_eq_one_iff.1 (by omega);refine⟨x,n,?_⟩;have v:=((d b c).2 s m).2.2;have u:=zrp (x:=x) v (by rw[n];exact Wu);have:=zqM x 70 200 u;omega
 .have:=((d b c).2 s h).1;omega
 .have:=(d b c).1;omega
theorem zxQ{g:G}(b:fewG g=true)(k:Nat)(c:k<g.blocks.length):(tgS (zaG g k)).length<=8:=by have h:=zic (l:=(blG g k).stmts) (n:=8) (by omega) (λs d=>(((zdq b).2 _ (zeV c)).2 s d).1);rw[ztU]at h;exact h
theorem zur{g:G}(c:fewG g=true)(d:zjb g=0){n:Nat}(e:(ordE (eG g)).length<=n):zco (bldN (shpG g) n)<=168:=by
 have b:=zuo c d;obtain⟨T,D⟩:=Dm.dtree_ex (zo b).ok (zo b).pos
 have h:zco (bldN (shpG g) n)<=(ordE (eG g)).length*(6+8):=zDk (znd (zo b) (one:=oneG g) D) (zkj (zo b) D) e (m:=8) (λx j=>by
  have:=zbl (zo b) j;rw[zdf]at this
  exact zxQ c x this)
 have k:=ztH b;have o:=(zdq c).1;have p:(ordE (eG g)).length*(6+8)<=12*(6+8):=Nat.mul_le_mul_right _ (by omega);omega
end Go.Ab
namespace Go.Ab
open Go.RowKit Go.Proofs Go.Ab.Dm
theorem zEu{g:G}{k:Nat}{c:Ctx}{n:Nd}(h:zjM g zB [.int .i64 (k:Int),ctxA c] (.agg (encN n))){z:List (List AV)}:
  zG Z9 zB [.ptr 1 0 0 0 0,.int .i64 (k:Int),ctxA c] [(0,.row 5 z 0),(1,.row 5 [[.int .u32 g.addr,encL 2 Xk g.blocks,encNN ((Wc g.blocks.length).map (zcB (eG g))),za ((Wc g.blocks.length).map (cntE (eG g))),.mp 2 0]] 0),(2,.row 3 (boM (eG g) (hdL (eG g))) 0)] 3
   (λv H nx=>v=.agg (encN n)/\H=[(0,.row 5 z 0),(1,.row 5 [[.int .u32 g.addr,encL 2 Xk g.blocks,encNN ((Wc g.blocks.length).map (zcB (eG g))),za ((Wc g.blocks.length).map (cntE (eG g))),.mp 2 0]] 0),(2,.row 3 (boM (eG g) (hdL (eG g))) 0)]/\nx=5):=by
 refine zb6 [(0,1,0),(1,2,0)] 2 _ (h [] 2 TOk.nil) rfl rfl ?_ ?_ ?_
 .unfold bldH;refine⟨rfl,⟨_,rfl,?_⟩,rfl,⟨_,rfl,Xj zz⟩,trivial⟩;rw[zut];exact⟨.int _ _ _,zac rfl,zac rfl,zac rfl,.mp _ _ _ _ rfl,trivial⟩
 .exact⟨.ptr _ _ _ 0 _ _ _ _ _ rfl rfl,zac rfl,zac rfl,trivial⟩
 .rintro v o p ⟨rfl,rfl,rfl⟩;refine⟨zr0 flA,?_,rfl⟩;have b:Tab.to [(0,1,0),(1,2,0)] 3 0=1:=rfl;have d:Tab.to [(0,1,0),(1,2,0)] 3 1=2:=rfl;have e:∀ρ,Xl ρ (encL 2 Xk g.blocks)=encL 2 Xk g.blocks:=λρ=>zcJ rfl
  have j:∀ρ l,Xl ρ (Dm.encNN l)=Dm.encNN l:=λρ l=>zcJ rfl
  have m:∀ρ l,Xl ρ (za l)=za l:=λρ l=>zcJ rfl
  unfold AH.over bldH;simp only[AH.renL,b,d,AObj.ren,zhJ zz,Wj,Wi,Xl,e,j,m];rfl
theorem zIK{g:G}(d:OkB g){z:List (List AV)}:
  zG Z9 za4 [.agg g.cells] [(0,.row 5 z 0)] 1
   (λv H nx=>v=.ptr 1 0 0 0 0/\H=[(0,.row 5 z 0),(1,.row 5 [[.int .u32 g.addr,encL 2 Xk g.blocks,encNN ((Wc g.blocks.length).map (zcB (eG g))),za ((Wc g.blocks.length).map (cntE (eG g))),.mp 2 0]] 0),(2,.row 3 (boM (eG g) (hdL (eG g))) 0)]/\nx=3):=by
 refine zb6 [] 0 _ (zkC g d) rfl rfl trivial ⟨zac rfl,trivial⟩ ?_;rintro v k m ⟨rfl,rfl,rfl⟩;have b:Tab.to [] 1 0=1:=rfl;refine⟨by simp only[Xl,b],?_,rfl⟩;have c:Tab.to [] 1 1=2:=rfl;have e:∀ρ,Xl ρ (encL 2 Xk g.blocks)=encL 2 Xk g.blocks:=λρ=>zcJ rfl
 have h:∀ρ l,Xl ρ (Dm.encNN l)=Dm.encNN l:=λρ l=>zcJ rfl
 have j:∀ρ l,Xl ρ (za l)=za l:=λρ l=>zcJ rfl
 unfold AH.over bldH;simp only[AH.renL,b,c,AObj.ren,zhJ zz,Wj,Wi,Xl,e,h,j];rfl
theorem en_set{b:List (Int×Int)}{j:Nat}{k:Int}(g:j<b.length)(h:b[j].1=k):((enL b).map cm).set j [.int .i64 k,.bool true,(((enL b).map cm).getD j []).getD 2 .undef]=(enL b).map cm:=by
 have m:j<((enL b).map cm).length:=by simpa [enL]using g
 have e:((enL b).map cm)[j]=[.int .i64 b[j].1,.bool true,.int .i64 b[j].2]:=by simp[enL,cm]
 have c:[Xi .i64 k,.bool true,(((enL b).map cm).getD j []).getD 2 .undef]=((enL b).map cm)[j]:=by
  have d:((enL b).map cm).getD j []=((enL b).map cm)[j]:=by rw[List.getD_eq_getElem?_getD,List.getElem?_eq_getElem m];rfl
  rw[d,e,h];rfl
 rw[c,List.set_getElem_self]
theorem zJf{ps:List (Int×Int)}{a b:Int}:(enL (ps++[(a,b)])).map cm=(enL ps).map cm++[[.int .i64 a,.bool true,.int .i64 b]]:=by unfold enL;rw[Wr,Wr];rfl
theorem Qx{c d p:Prop}(a0:c)(b:d)(h:c->d->p:=by intro a0 b;(try simp only[evWB,Nat.reduceBEq,Nat.reduceAdd,Nat.reduceSub,Nat.reduceLeDiff,Nat.reduceLT,implies_true,a0,b])<;>(repeat' with_reducible apply And.intro)<;>first|(first|exact RowV.of_flat (za2 rfl)|exact RowV.of_flat zdu|exact zk rfl;done)|exact fin6):p:=h a0 b
theorem Qy{c d p:Prop}(a0:c)(b:d)(h:c->d->p:=by intro a0 b;(try simp only[evWB,Nat.reduceBEq,Nat.reduceAdd,Nat.reduceSub,Nat.reduceLeDiff,Nat.reduceLT,implies_true,a0,b])<;>(repeat' with_reducible apply And.intro)<;>first|(first|exact zk rfl|exact Vw.mp _ _ _ _ rfl;done)|exact fin6):p:=h a0 b
theorem zjk(g:G)(D:fewG g=true):zq Z9 zaK [.agg g.cells] (·=if zjb g=0 then .tup [.agg (encN (bld (shpG g) (ordE (eG g)).length)),.int .i64 0]else .tup [.agg (encN (zag 0 0 0)),.int .i64 (zjb g)]):=by
 refine fn_x zoS rfl ?_;refine dcU zi0.eq_1 ?_;have Z:=hBig;have T:=zqo g (zCn D) (zBo D);have v:g.cells.length=2:=rfl;have w:[g.cells.getD 0 .undef,g.cells.getD 1 .undef]=g.cells:=rfl;have u:zu g.cells=true:=rfl;refine Gw4 @ua v w u ?_;intros;refine ze (zh T rfl) ?_;by_cases o:zjb g=0;case neg=>rw[if_neg o];refine Gw2 @dT @zfK.eq_1 ?_;intros;refine⟨_,?_,rfl⟩;show Vw _ _ _ _ _ (Xo _) (Xo _);rw[zmC];exact⟨zpd,.int _ _ _,trivial⟩
 rw[if_pos o,o];have F:=zuo D o;have Y:0∈ordE (eG g):=Dm.z_mem (zo F).ok (zo F).pos;have p:=zio g F (ordE (eG g)).length 0 Y (by omega) c0;have Q:=zur D o (Wl (ordE (eG g)).length);unfold bld bldN at *;generalize zdP (shpG g) (ordE (eG g)).length 0 c0=N at p Q⊢;refine Gw5 @dF @ua v w u ?_;intros;refine zK (zIK F) ?_;rintro _ _ _ ⟨rfl,rfl,rfl⟩;refine Gw0 ?_;intros;refine zK (zEu p) ?_;rintro _ _ _ ⟨rfl,rfl,rfl⟩;refine Gw2 @zD @zJ ?_;intros;have S:=zhj N (by omega);refine ze (zh S (flN rfl)) ?_;have B:(allN N).length<=1000:=by rw[zoe];omega
 have n:∀x,zBu N x=decide (x∈fm zgg (allN N)):=λx=>by rw[zuR];rfl
 have M:=λc ps=>ziZ c ps (zco N) N (Wl _) (by omega)
 generalize zBu N=K at n⊢;generalize allN N=l at B n⊢;have X:mpR 0 []=.row 3 [[.int .i64 0,.undef,.undef]] 0:=rfl;refine Gw0 ?_;intros
 refine zd (λs:List (Int×Int)×Nat=>([(2,.ptr 0 0 0 0 0),(5,encP 5 (encN N)),(6,.mp 1 0),(21,encL 5 encN l),(22,.int .i64 l.length),(23,.int .i64 s.2)],[(0,.row 5 [zN] 0),(1,.row 3 ([.int .i64 s.1.length,.undef,.undef]::(enL s.1).map cm) 0)])) 2
  (λs=>(s.2<=l.length/\s.1.length<=s.2)/\∀x,x∈s.1.map (·.1)↔x∈fm zgg (l.take s.2)) (λs=>l.length-s.2) ([],0) ⟨⟨Wh _,Wh _⟩,λx=>Iff.rfl⟩ ?start ?_
 case start=>have R:(enL []).map cm=[]:=rfl;exact(Xe [(0,0,0),(1,6,0)] [5] rfl rfl rfl (by((try simp only[evWB,Xb,Xc,Xg,Xd,Xh,implies_true,zN,encP,R,Wf])<;>(repeat' with_reducible apply Wa)<;>first|(first|exact Xj (za2 rfl)|exact zk rfl;done)|exact fin6)) (by((try simp only[evWB,Xb,Xc,Xg,Xd,Xh,implies_true,zN,encP,R,Wf])<;>(repeat' with_reducible apply Wa)<;>first|(first|exact zk rfl|exact zqG rfl rfl|exact Vw.mp _ _ _ _ rfl;done)|exact fin6)))
 rintro⟨ps,i⟩ ⟨⟨V,L⟩,hx⟩ wf;simp only at V L hx;clear wf;refine dcU zgW.eq_1 ?_;by_cases z:i<l.length
 case neg=>
  obtain rfl:i=l.length:=by omega
  rw[WD]at hx;have U:usK ps=K:=funext λx=>by rw[n];unfold usK;rw[Bool.eq_iff_iff,decide_eq_true_iff,decide_eq_true_iff];exact hx x
  have C:=zsS (H:=[(0,.row 5 [zN] 0),(1,mpR ps.length ps)]) (r:=1) (nx:=2) zdu (by omega) rfl flA flA (M ps.length ps);rw[U]at C;refine Gw1 @dF ?_;intros;refine dcU zgL.eq_1 ?_;refine Gw3 @ua @zJ @zD ?_;intros;refine zK C ?_;rintro _ _ _ ⟨rfl,rfl,rfl⟩;have q:AH.cutL [1] [(0,AObj.row 5 [zN] 0),(1,mpR ps.length ps)]=[(0,.row 5 [zN] 0)]:=rfl;rw[q]
  (repeat first|simp(disch:=try exact dis1) only[evD,Xb,Xc,Xd,List.cons_append,List.nil_append,zD,zJ,zfK]|with_reducible first|intro _|refine aJ ?_)
  refine⟨_,?_,rfl⟩;show Vw _ _ _ _ _ (Xo _) (Xo _);rw[zmC];exact⟨zac flA,.int _ _ _,trivial⟩
 have k:=zi (f:=encN) (d:=[]) z;have e:fm zgg (l.take (i+1))=fm zgg (l.take i)++zgg l[i].f:=by unfold fm;rw[WF z,List.flatMap_append,List.flatMap_singleton]
 generalize l[i]=x at k e;have t:zgg x.f=if x.f.kind=9 then[x.f.label]else[]:=rfl
 by_cases A:x.f.kind=9;case neg=>rw[t,if_neg A,Wo]at e;refine Gw8 @dT @dF k @zcW @zJ @zdp @zD A ?_;intros;exact⟨(ps,i+1),⟨⟨by simp only;omega,by simp only;omega⟩,λy=>by simp only;rw[e];exact hx y⟩,by simp only;omega,(Xe [(0,0,0),(1,1,0)] [] rfl rfl rfl (Qx @uj @ua) (Qy @uj @ua))⟩
 rw[t,if_pos A]at e;by_cases J:x.f.label∈ps.map (·.1)
 .obtain⟨j,W,I,m⟩:=zr8 J;have P:=en_set W I;refine Gw11 @dT @dF k A m P @zcW @zJ @zdp @zoN @zD ?_;intros
  exact⟨(ps,i+1),⟨⟨by simp only;omega,by simp only;omega⟩,λy=>by
   simp only;rw[e,Ww,List.mem_singleton,<-hx y]
   exact⟨.inl,λh=>h.elim id λh=>by rw[h];exact J⟩⟩,by simp only;omega,(Xe [(0,0,0),(1,1,0)] [] rfl rfl rfl (Qx @uj @ua) (Qy @uj @ua))⟩
 .have m:=zpx J;have O:=zJf (ps:=ps) (a:=x.f.label) (b:=(ps.length:Int));refine Gw10 @dT @dF k A m @zcW @zJ @zdp @zoN @zD ?_;intros
  exact⟨(ps++[(x.f.label,(ps.length:Int))],i+1),⟨⟨by simp only;omega,by simp only[We,Wg];omega⟩,λy=>by
   simp only;rw[e,Wr,Ww,Ww,hx y]
   exact Iff.rfl⟩,by simp only;omega,(Xe [(0,0,0),(1,1,0)] [] rfl rfl rfl (by((try simp only[evWB,Xb,Xc,Xg,Xd,Xh,implies_true,zN,encP,O,We,Wd,Wf])<;>(repeat' with_reducible apply Wa)<;>first|(first|exact Xj (za2 rfl)|exact Xj zdu|exact zk rfl;done)|exact fin6)) (Qy @uj @ua))⟩
end Go.Ab
namespace Go.Ab
open Go.RowKit Go.Proofs
def cnt(n:Nat)(l:List Int):List Int:=(Wc n).map λ(k:Nat)=>((l.count (k:Int):Nat):Int)
end Go.Ab
