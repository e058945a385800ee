/-
  Part 24 of the proof: how the calls of this program run, over values instead of memory, and what each function computes.
-/
import Derived.Test.YtmlhipilbnjhiaaGreatNw
set_option maxRecDepth 100000
set_option linter.unusedVariables false
set_option linter.unusedSimpArgs false
set_option linter.unnecessarySimpa false
set_option linter.unusedSectionVars false
open Go.Ab.TOk renaming cons->Xa,base->Xf
open Nat renaming reduceBEq->Xb,reduceAdd->Xc,reduceLeDiff->Xd,reduceSub->Xg,reduceLT->Xh,zero_add->Xr,beq->Xs,blt->Xt
open Go.Ab.Ent renaming tabB->Xe,tab->Xo
open Go.Ab.AV renaming int->Xi,ren->Xl,agg->Xm,cells->Xn,tup->Xp,solid->Xq,bool->Xu
open Go.Ab.Bl renaming cells->Xj
open Go.Ab.RowV renaming of_flat->Xk
open Go.Proofs.Tryz renaming prog->Z9
open And renaming intro→Wa
open List renaming range→Wc,length_cons→Wd,length_append→We,length_nil→Wf,length_singleton→Wh,length_map→Wl,getElem_mem→Wm,getD_cons_succ→Wo,getD_cons_zero→Wp,map_nil→Wq,map_cons→Wr,mem_filter→Ws,append_nil→Wt,length_range→Wu,append_assoc→Wv,all_eq_true→Wx,replicate→Wy,map_append→Wz,length_take→WA,mem_cons→WB,mem_cons_of_mem→WC,getElem?_eq_getElem→WE,count_eq_zero→WF,getElem_take→WI,mem_cons_self→WJ,flatMap_append→WK,mem_append→WL,mem_range→WM,eq_nil_of_length_eq_zero→WN,nodup_cons→WO,mem_iff_getElem→WP,mem_map→WQ,mem_of_getLast?→WR,drop_eq_getElem_cons→WS,drop_of_length_le→WU,zipIdx_map_fst→WV,take_length→WW,take_succ_eq_append_getElem→WX,singleton_append→WY,mem_singleton→WZ,ext_getElem→W0,getElem_range→W3,take_add_one→W5,all_eq_false→W6,mem_erase_of_ne→W7
open Nat renaming zero_le→Wg,le_refl→Wn,le_trans→WD
open Bool renaming true_and→Wi,false_and→Wj,and_eq_true→Wk,eq_iff_iff→Ww,and_true→WG,and_false→WH,not_eq_true'→W8
namespace Go.Ab
open Go.RowKit Go.Proofs Go.Ab.Dm
section
variable {z:List AV}{H:AH}{nx:Nat}
theorem rbX1{e:Ex}:zdg 5 1 z [(0,.agg (encX e))] H nx=⟨True,True,encL 5 encX [e],H,nx⟩:=by have h:(zqR 1 5 [(0,Xm (encX e))]/\(zew (Wy 1 z) [(0,.agg (encX e))]).all zI=true)=True:=eq_true ⟨by simp[zqR,Xn,zbl,Xq],by simp[zew,Xn,zn]⟩;unfold zdg;rw[h];rfl
theorem rbN1{e:Nd}:zdg 5 1 z [(0,.agg (encN e))] H nx=⟨True,True,encL 5 encN [e],H,nx⟩:=by have h:(zqR 1 5 [(0,Xm (encN e))]/\(zew (Wy 1 z) [(0,.agg (encN e))]).all zI=true)=True:=eq_true ⟨by simp[zqR,Xn,zx,Xq],by simp[zew,Xn,zt]⟩;unfold zdg;rw[h];rfl
theorem rbN2{a b:Nd}:zdg 5 2 z [(0,.agg (encN a)),(1,.agg (encN b))] H nx=⟨True,True,encL 5 encN [a,b],H,nx⟩:=by have h:(zqR 2 5 [(0,Xm (encN a)),(1,Xm (encN b))]/\(zew (Wy 2 z) [(0,.agg (encN a)),(1,.agg (encN b))]).all zI=true)=True:=eq_true ⟨by simp[zqR,Xn,zx,Xq],by simp[zew,Xn,zt]⟩;unfold zdg;rw[h];rfl
end
theorem zuI{H b:AH}{σ:Nat->Nat->Option (Nat×Nat×Nat)}{D:Nat->Nat->Prop}{t:Bool}{r q g n:Nat}{l:List Nd}(h:n=l.length)(c:D r q)(e:H.get r q=some (.row 5 (l.map encN) g))(d:n<=big):Vw H b σ D t (.own r q g 0 n) (encL 5 encN l):=by subst h;exact zsX c e d
def wayZ(b:Nat->Ctx->Nd)(inl:List Nat)(c:Ctx)(t:Int):Nd:=if t.toNat∈inl then b t.toNat c else zeJ c t
def trZ(s:St)(b:Nat->Ctx->Nd)(inl:List Nat)(c:Ctx):Nd :=
 if s.op=6 then wayZ b inl c s.next
 else if s.op=7 then .mk ⟨3,0,0⟩ s.e [wayZ b inl c s.next,wayZ b inl c s.els]
 else if s.op=8 then .mk ⟨6,0,0⟩ s.e (s.cases.map (wayZ b inl c))
 else if s.op=9 then zax 11 0 0 else zax 12 0 0
theorem zLL{S:Shp}{b:Nat->Ctx->Nd}{k:Nat}{c:Ctx}:trN S b k c=trZ (S.last k) b (inlL S k) c:=rfl
theorem zDs{b:Nat->Ctx->Nd}{inl:List Nat}{c:Ctx}{u:Nat}:wayZ b inl c (u:Int)=wayI b inl c u:=by unfold wayZ wayI;rw[Int.toNat_natCast]
theorem ztE(g:G)(b:Nat->Ctx->Nd)(inl:List Nat)(c:Ctx)(t:Int)(n:0<=t)(d:∀x∈inl,ztP g b x)(T:AH)(nx:Nat)(m:TOk nx T)(e:T.look 2=some (.row 1 [[.ptr 0 0 0 0 0]] 0)){k:AV->AH->Nat->Prop}(j:k (.agg (encN (wayZ b inl c t))) (bldH g T) nx):
  znI Z9 (.fn (.func zw) [.ptr 2 0 0 0 0,encP 1 [zc inl],encP 3 [.int .i64 c.f,.int .i64 c.h,.int .i64 c.x]]) [.int .i64 t] (bldH g T) nx k:=by
 obtain⟨u,rfl⟩:∃u:Nat,t=u:=⟨t.toNat,by omega⟩;rw[zDs]at j;rw[zh6];refine⟨by kernel_rfl,zad (znJ g b inl c u d T nx m 2 e) ?_⟩;rintro _ _ _ ⟨rfl,rfl,rfl⟩;exact j
theorem zJq(g:G)(b:Nat->Ctx->Nd)(inl:List Nat)(c:Ctx)(t:Int)(k:0<=t)(d:∀x∈inl,ztP g b x)(T:AH)(nx:Nat)(j:TOk nx T)(e:T.look 2=some (.row 1 [[.ptr 0 0 0 0 0]] 0)):
  z7 Z9 zw [.int .i64 t,.ptr 2 0 0 0 0,encP 1 [zc inl],encP 3 [.int .i64 c.f,.int .i64 c.h,.int .i64 c.x]] (bldH g T) nx (λv H n=>v=.agg (encN (wayZ b inl c t))/\H=bldH g T/\n=nx):=by
 obtain⟨u,rfl⟩:∃u:Nat,t=u:=⟨t.toNat,by omega⟩;rw[zDs];exact znJ g b inl c u d T nx j 2 e
theorem Qw{d e g j k p:Prop}(a0:d)(b:e)(c:g)(a3:j)(a4:k)(h:d->e->g->j->k->p:=by intro a0 b c a3 a4;(try simp only[evWB,Nat.reduceBEq,Nat.reduceAdd,Nat.reduceSub,Nat.reduceLeDiff,Nat.reduceLT,implies_true,a0,b,c,a3,a4])<;>(repeat' with_reducible apply And.intro)<;>first|(first|exact RowV.of_flat zQ|exact zq rfl|exact Vw.new _ _ 5 rfl rfl|exact RowV.of_flat (zU λ_=>zt);done)|exact fin6):p:=h a0 b c a3 a4
theorem Qx{j k m n o q s t u p:Prop}(a0:j)(b:k)(c:m)(a3:n)(a4:o)(a5:q)(d:s)(e:t)(g:u)(h:j->k->m->n->o->q->s->t->u->p:=by intro a0 b c a3 a4 a5 d e g;(try simp only[evWB,Nat.reduceBEq,Nat.reduceAdd,Nat.reduceSub,Nat.reduceLeDiff,Nat.reduceLT,implies_true,a0,b,c,a3,a4,a5,d,e,g])<;>(repeat' with_reducible apply And.intro)<;>first|(first|exact RowV.of_flat zQ|exact zq rfl|exact Vw.new _ _ 5 rfl rfl|exact RowV.of_flat (zU λ_=>zt);done)|exact fin6):p:=h a0 b c a3 a4 a5 d e g
theorem zgo(g:G)(Z:OkB g)(m:Nat->Ctx->Nd)(k:Nat)(hk:k<g.blocks.length)(inl:List Nat)(c:Ctx)(B:∀x∈inl,ztP g m x):zla g zZ [.int .i64 (k:Int),zc inl,ctxA c] (.agg (encN (trZ (zhS g k) m inl c))):=by
 refine zhX ?_ rfl flA;refine zaK (fn_x zie rfl ?_);unfold zee bldH ctxA;have hB:=hBig;have hla:=zps g Z k hk
 have z:(zhS g k)∈(blG g k).stmts.getLast? := by
  unfold zhS;have:=Z.ne _ (zfY hk)
  cases hl:(blG g k).stmts.getLast? with
  |none=>exact absurd (List.getLast?_eq_none_iff.1 hl) this
  |some s=>rfl
 have A:=Z.cond _ (zfY hk) _ z;have y:=Z.tg _ (zfY hk);rw[zs0,Option.mem_def.1 z]at y;have Y:=Z.cases _ (zfY hk) _ (WR z);simp only[Option.getD_some]at y;generalize zhS g k=s at hla A y Y⊢;obtain⟨op,var,q,next,b,C,e,u⟩:=s;simp only at A y Y;refine Gw0 ?_;intros;refine⟨⟨rfl,rfl⟩,?_⟩;refine zad (hla _ _ (Xa (by omega) (by omega) (zaa rfl) (Xa (by omega) (by omega) (zaa rfl) (Xf (by omega))))) ?_;rintro _ _ _ ⟨rfl,rfl,rfl⟩;unfold bldH trZ;simp only;refine Gw1 @uu ?_;intros;have hfl:∀n:Nd,(Xm (encN n)).flat=true:=λ_=>flA
 by_cases U:op=6
 .rw[if_pos U];have T:0<=next:=(y next (by unfold zfS;simp only;rw[if_pos U];simp)).1;refine Gw1 @dT ?_;intros;refine ztE g m inl c next T B _ _ (Xa (by omega) (by omega) (zaa rfl) (Xa (by omega) (by omega) (zaa rfl) (Xa (by omega) (by omega) (zaa rfl) (Xf (by omega))))) rfl ?_;unfold bldH;refine Gw2 @zx @zas.eq_1 ?_;intros;exact zfg (zV flA)
 rw[if_neg U];by_cases V:op=7
 .rw[if_pos V];have T:0<=next:=(y next (by unfold zfS;simp only;rw[if_neg U,if_pos V];simp)).1;have he0:0<=b:=(y b (by unfold zfS;simp only;rw[if_neg U,if_pos V];simp)).1;obtain⟨x,rfl,hx⟩:=A (.inl V);have R:=zeP (zeQ x) x (Wn _) hx;refine Gw2 @dT @dF ?_;intros;refine zDg zcY zgy zgi zcF [(28,.ptr 4 0 0 0 6),(29,encL 5 encX [x]),(30,.iptr 5 λj=>(encX x).getD j .undef),(31,.agg (encX x)),(32,.agg (encX x)),(33,encL 5 encX [x]),(34,(.fn (.func zw) [.ptr 2 0 0 0 0,encP 1 [zc inl],encP 3 [.int .i64 c.f,.int .i64 c.h,.int .i64 c.x]])),(35,.ptr 4 0 0 0 3),(36,.int .i64 next),(37,.agg (encN (wayZ m inl c next))),(38,(.fn (.func zw) [.ptr 2 0 0 0 0,encP 1 [zc inl],encP 3 [.int .i64 c.f,.int .i64 c.h,.int .i64 c.x]])),(39,.ptr 4 0 0 0 4),(40,.int .i64 b),(41,.agg (encN (wayZ m inl c b))),(42,encL 5 encN [(wayZ m inl c next),(wayZ m inl c b)]),(43,.agg [.int .i64 3,.int .i64 0,.int .i64 0,encL 5 encX [x],encL 5 encN [(wayZ m inl c next),(wayZ m inl c b)]])] (hsOf [([(0,.row 5 [[.int .u32 g.addr,encL 2 Xj g.blocks,Dm.encNN ((Wc g.blocks.length).map (zdw (eG g))),zc ((Wc g.blocks.length).map (cntE (eG g))),.mp 1 0]] 0),(1,.row 3 (boM (eG g) (hdL (eG g))) 0),(2,.row 1 [[.ptr 0 0 0 0 0]] 0),(3,.row 5 [[.int .i64 0,.int .i64 0,.int .i64 0,.nilsl,.nilsl]] 0),(4,.row 8 [[.int .i64 op,.int .i64 var,.int .i64 q,.int .i64 next,.int .i64 b,.int .u32 C,encL 5 encX [x],za u]] 0)],5),([(0,.row 5 [[.int .u32 g.addr,encL 2 Xj g.blocks,Dm.encNN ((Wc g.blocks.length).map (zdw (eG g))),zc ((Wc g.blocks.length).map (cntE (eG g))),.mp 1 0]] 0),(1,.row 3 (boM (eG g) (hdL (eG g))) 0),(2,.row 1 [[.ptr 0 0 0 0 0]] 0),(3,.row 5 [[.int .i64 0,.int .i64 0,.int .i64 0,.nilsl,.nilsl]] 0),(4,.row 8 [[.int .i64 op,.int .i64 var,.int .i64 q,.int .i64 next,.int .i64 b,.int .u32 C,encL 5 encX [x],za u]] 0)],5),([(0,.row 5 [[.int .u32 g.addr,encL 2 Xj g.blocks,Dm.encNN ((Wc g.blocks.length).map (zdw (eG g))),zc ((Wc g.blocks.length).map (cntE (eG g))),.mp 1 0]] 0),(1,.row 3 (boM (eG g) (hdL (eG g))) 0),(2,.row 1 [[.ptr 0 0 0 0 0]] 0),(3,.row 5 [[.int .i64 0,.int .i64 0,.int .i64 0,.nilsl,.nilsl]] 0),(4,.row 8 [[.int .i64 op,.int .i64 var,.int .i64 q,.int .i64 next,.int .i64 b,.int .u32 C,encL 5 encX [x],za u]] 0)],5),([(0,.row 5 [[.int .u32 g.addr,encL 2 Xj g.blocks,Dm.encNN ((Wc g.blocks.length).map (zdw (eG g))),zc ((Wc g.blocks.length).map (cntE (eG g))),.mp 1 0]] 0),(1,.row 3 (boM (eG g) (hdL (eG g))) 0),(2,.row 1 [[.ptr 0 0 0 0 0]] 0),(3,.row 5 [[.int .i64 3,.int .i64 0,.int .i64 0,encL 5 encX [x],encL 5 encN [(wayZ m inl c next),(wayZ m inl c b)]]] 0),(4,.row 8 [[.int .i64 op,.int .i64 var,.int .i64 q,.int .i64 next,.int .i64 b,.int .u32 C,encL 5 encX [x],za u]] 0)],5)]) (by kernel_rfl) (by rfl) (by rfl) (by repeat' first|exact QExt.retK|apply QExt.seq|apply QExt.block|apply QExt.loop|apply QExt.join|assumption) ?plan [] (by rfl) ?fin
  case' plan=>
   intro o hs p hH;have kf28:o.get 28=.ptr 4 0 0 0 6:=by rw[p,zz];rfl
   have D:o.get 29=encL 5 encX [x]:=by rw[p,zz];rfl
   have F:o.get 30=.iptr 5 λj=>(encX x).getD j .undef:=by rw[p,zz];rfl
   have I:o.get 31=.agg (encX x):=by rw[p,zz];rfl
   have J:o.get 32=.agg (encX x):=by rw[p,zz];rfl
   have kf33:o.get 33=encL 5 encX [x]:=by rw[p,zz];rfl
   have K:o.get 34=(.fn (.func zw) [.ptr 2 0 0 0 0,encP 1 [zc inl],encP 3 [.int .i64 c.f,.int .i64 c.h,.int .i64 c.x]]):=by rw[p,zz];rfl
   have kf35:o.get 35=.ptr 4 0 0 0 3:=by rw[p,zz];rfl
   have L:o.get 36=.int .i64 next:=by rw[p,zz];rfl
   have N:o.get 37=.agg (encN (wayZ m inl c next)):=by rw[p,zz];rfl
   have O:o.get 38=(.fn (.func zw) [.ptr 2 0 0 0 0,encP 1 [zc inl],encP 3 [.int .i64 c.f,.int .i64 c.h,.int .i64 c.x]]):=by rw[p,zz];rfl
   have kf39:o.get 39=.ptr 4 0 0 0 4:=by rw[p,zz];rfl
   have P:o.get 40=.int .i64 b:=by rw[p,zz];rfl
   have Q:o.get 41=.agg (encN (wayZ m inl c b)):=by rw[p,zz];rfl
   have kf42:o.get 42=encL 5 encN [(wayZ m inl c next),(wayZ m inl c b)]:=by rw[p,zz];rfl
   have kf43:o.get 43=.agg [.int .i64 3,.int .i64 0,.int .i64 0,encL 5 encX [x],encL 5 encN [(wayZ m inl c next),(wayZ m inl c b)]]:=by rw[p,zz];rfl
   have kf8:o.get 8=.ptr 3 0 0 0 0:=by rw[p,zz];rfl
   have kf9:o.get 9=.ptr 4 0 0 0 0:=by rw[p,zz];rfl
   have kf10:o.get 10=(.fn (.func zw) [.ptr 2 0 0 0 0,encP 1 [zc inl],encP 3 [.int .i64 c.f,.int .i64 c.h,.int .i64 c.x]]):=by rw[p,zz];rfl
   simp only[zcF,zvH,zyZ,and_true]
   (repeat' with_reducible apply Wa)
   all_goals(rw[hH];simp only[zsN,zcP,Wo,Wp,hsOf,hsAt,beqL,zk5,Xb,WG,Wi,WH,Wj,cond_true,cond_false,Wd,Wf,Xc])
   all_goals try(simp(disch:=try exact dis1) only[evD,Xb,Xc,Xd,zjy,zhm,kf28,D,F,I,J,kf33,K,kf35,L,N,O,kf39,P,Q,kf42,kf43,kf8,kf9,kf10,hgX,zbl,zba,rbX1,rbN2];done)
  case' fin=>simp only[zcY,hsOf,hsAt,beqL,zk5,Xb,WG,Wi,WH,Wj,cond_true,cond_false,Wd,Wf,Xc,Wo,Wp,za9]
  ·(refine Gw1 @zas.eq_1 ?_;intros);refine zfg ?_;rw[zaI];exact zV rfl
  ·(refine Gw5 D F @hgX @zjy @zhm ?_;intros);decide
  ·(refine Gw2 I @zba ?_;intros);refine zcG (ze R (flX rfl)) ?_;(refine Gw3 J @zjy @zhm ?_;intros;try with_reducible exact trivial)
  ·(refine Gw2 K L ?_;intros);refine ztE g m inl c next T B _ _ (Xa (by omega) (by omega) (zaa rfl) (Xa (by omega) (by omega) (zaa rfl) (Xa (by omega) (by omega) (zaa rfl) (Xf (by omega))))) rfl ?_;unfold bldH;(refine Gw3 N @zjy @zhm ?_;intros;try with_reducible exact trivial)
  ·(refine Gw2 O P ?_;intros);refine ztE g m inl c b he0 B _ _ (Xa (by omega) (by omega) (zaa rfl) (Xa (by omega) (by omega) (zaa rfl) (Xa (by omega) (by omega) (zaa rfl) (Xf (by omega))))) rfl ?_;unfold bldH;(refine Gw3 Q @zjy @zhm ?_;intros;try with_reducible exact trivial)
 rw[if_neg V];by_cases h8:op=8
 .rw[if_pos h8];obtain⟨x,rfl,hx⟩:=A (.inr h8);have R:=zeP (zeQ x) x (Wn _) hx;have hc0:∀t∈u,0<=t:=λt ht=>(y t (by unfold zfS;simp only;rw[if_neg U,if_neg V,if_pos h8];exact ht)).1
  refine Gw4 @dT @dF @hgX @zba ?_;intros;refine zd (ze R (flX rfl)) ?_;refine Gw1 @rbX1 ?_;intros;refine Gw1 @uf ?_;intros;generalize hW:wayZ m inl c=W
  refine zf (λs:List Nd×Nat=>([(8,.ptr 3 0 0 0 0),(10,.fn (.func zw) [.ptr 2 0 0 0 0,encP 1 [zc inl],encP 3 [.int .i64 c.f,.int .i64 c.h,.int .i64 c.x]]),(11,.ptr 4 0 0 0 0),(54,za u),(55,.int .i64 u.length),(56,.int .i64 s.1.length)],bldH g [(2,.row 1 [[.ptr 0 0 0 0 0]] 0),(3,.row 5 [zN] 0),(4,.row 5 [[.int .i64 6,.int .i64 0,.int .i64 0,encL 5 encX [x],.own 5 0 s.2 0 s.1.length]] 0),(5,.row 5 (s.1.map encN) s.2)])) 6
   (λs=>s.1.length<=u.length/\s.1++(u.drop s.1.length).map W=u.map W) (λs=>u.length-s.1.length) ([],0) ⟨Wg _,rfl⟩ ?start ?_
  case start=>unfold bldH;exact(Xe [(0,0,0),(1,1,0),(2,2,0),(3,3,0),(4,5,0)] [] rfl rfl rfl (Qw @uf @ub @uj @m9N @ug) (Qw @uf @ub @uj @m9N @ug))
  rintro⟨M,γ⟩ ⟨hi,X⟩ wf;simp only at hi X;clear wf;refine dcU zdr.eq_1 ?_;by_cases S:M.length<u.length
  case neg=>
   have hi2:M.length=u.length:=by omega
   rw[hi2,List.drop_length,Wq,Wt]at X;subst X;unfold bldH;refine Gw1 @dF ?_;intros;refine dcU zdt.eq_1 ?_;refine Gw1 @zas.eq_1 ?_;intros;refine zfg ?_;rw[zaI,zjb];exact⟨.int _ _ _,.int _ _ _,.int _ _ _,zV rfl,zuI (Wl _).symm (by show 2<=5;omega) rfl (by omega),trivial⟩
  have hgi:=zg (f:=cI) (d:=[]) S;have h0:=hc0 _ (Wm S);rw[WS S,Wr]at X;generalize u[M.length]=v at hgi h0 X;have hgi':(u.map λ(n:Int)=>[Xi .i64 n]).getD M.length []=[.int .i64 v]:=hgi;have hel:∀(w:Nd) H,zdx 5 (encL 5 encN [w]) H=some [encN w]:=λw H=>zcI (λ_ _=>zx)
  have hM2:(M++[W v])++(u.drop (M++[W v]).length).map W=u.map W:=by rw[Wv,We,Wh];exact X
  unfold bldH;refine Gw3 @dT @uf hgi' ?_;intros
  (repeat' with_reducible apply Wa)
  all_goals first
   |kernel_rfl
   |refine zad (zJq g m inl c v h0 B _ _ (Xa (by omega) (by omega) (zaa rfl) (Xa (by omega) (by omega) (zaa rfl) (Xa (by omega) (by omega) (zaa rfl) (Xa (by omega) (by omega) zpq (Xf (by omega)))))) rfl) ?_
  all_goals rintro _ _ _ ⟨rfl,rfl,rfl⟩
  all_goals rw[hW]
  all_goals unfold bldH
  all_goals(refine Gw4 @rbN1 hel @ui @ug ?_;intros;try with_reducible exact trivial)
  all_goals exact⟨(M++[W v],γ+1),⟨by simp only[We,Wh];omega,hM2⟩,by simp only[We,Wh];omega,(Xe [(0,0,0),(1,1,0),(2,2,0),(3,3,0),(4,4,0),(5,5,0)] [] rfl rfl rfl (Qx @uf @ub @uj @m9A @m9P @ui @ug @m9C @m9N) (Qx @uf @ub @uj @m9A @m9P @ui @ug @m9C @m9N))⟩
 rw[if_neg h8];by_cases h9:op=9
 .rw[if_pos h9];refine Gw3 @dT @dF @zas.eq_1 ?_;intros;exact zfg zrd
 rw[if_neg h9];refine Gw1 @dF ?_;intros;refine dcU zdu.eq_1 ?_;refine Gw1 @zas.eq_1 ?_;intros;exact zfg zrd
theorem Qy{d e g j p:Prop}(a0:d)(b:e)(c:g)(a3:j)(h:d->e->g->j->p:=by intro a0 b c a3;(try simp only[evWB,Nat.reduceBEq,Nat.reduceAdd,Nat.reduceSub,Nat.reduceLeDiff,Nat.reduceLT,implies_true,a0,b,c,a3])<;>(repeat' with_reducible apply And.intro)<;>first|(first|exact RowV.of_flat zQ|exact zq rfl|exact RowV.of_flat (zU λ_=>zt);done)|exact fin6):p:=h a0 b c a3
theorem Qz{g j k m n o q s p:Prop}(a0:g)(b:j)(c:k)(a3:m)(a4:n)(a5:o)(d:q)(e:s)(h:g->j->k->m->n->o->q->s->p:=by intro a0 b c a3 a4 a5 d e;(try simp only[evWB,Nat.reduceBEq,Nat.reduceAdd,Nat.reduceSub,Nat.reduceLeDiff,Nat.reduceLT,implies_true,a0,b,c,a3,a4,a5,d,e])<;>(repeat' with_reducible apply And.intro)<;>first|(first|exact RowV.of_flat zQ|exact zq rfl|exact RowV.of_flat (zU λ_=>zt);done)|exact fin6):p:=h a0 b c a3 a4 a5 d e
theorem zfk(g:G)(e:Nat->Ctx->Nd)(l:List Nat)(I:l.length<=1000)(c:Ctx)(A:∀x∈l,ztP g e x):zla g zak [zc l,ctxA c] (encL 5 encN (zbP e c l)):=by
 refine zhX ?_ rfl rfl;refine zaK (fn_x zj3 rfl ?_);unfold ze4 bldH ctxA;conv in Z8 _ _=>reduce
 have F:=hBig;refine Gw0 ?_;intros;refine Gw1 @ue ?_;intros
 refine zf (λs:List Nd×Nat=>([(0,.ptr 0 0 0 0 0),(1,zc l),(5,encP 3 [.int .i64 c.f,.int .i64 c.h,.int .i64 c.x]),(7,.own 2 0 s.2 0 s.1.length),(11,zc l),(12,.int .i64 l.length),(13,.int .i64 s.1.length)],bldH g [(2,.row 5 (s.1.map encN) s.2)])) 3
  (λs=>s.1.length<=l.length/\s.1++zbP e c (l.drop s.1.length)=zbP e c l) (λs=>l.length-s.1.length) ([],0) ⟨Wg _,rfl⟩ ?start ?_
 case start=>unfold bldH;exact(Xe [(0,0,0),(1,1,0),(2,3,0)] [] rfl rfl rfl (Qy @ue @ub @m9N @ug) (Qy @ue @ub @m9N @ug))
 rintro⟨M,γ⟩ ⟨D,b⟩ wf;simp only at D b;clear wf;refine dcU zec.eq_1 ?_;by_cases o:M.length<l.length
 case neg=>
  have z:l.length<=M.length:=by omega
  rw[WU z,zbP,Wt]at b;subst b;unfold bldH;refine Gw1 @dF ?_;intros;refine dcU zd9.eq_1 ?_;refine Gw1 @zfc.eq_1 ?_;intros;exact zfg (zuI rfl (Wn 2) rfl (by omega))
 have q:(l.map λ(n:Nat)=>[Xi .i64 (n:Int)]).getD M.length []=[.int .i64 (l[M.length]:Int)]:=zg (f:=cN) (d:=[]) o;have m:=A _ (Wm o);rw[zAG o]at b;have u:=λ(h:l.length<=M.length+1)=>zEu (c:=c) h
 have t:=λ(h:M.length+1<l.length)=>zGt (c:=c) h
 have v:=λ(h:M.length+1<l.length)=>(zg (f:=cN) (d:=[]) h:(l.map cN).getD (M.length+1) []=_)
 generalize l[M.length]=x at q m b;have p:∀(w:Nd) H,zdx 5 (encL 5 encN [w]) H=some [encN w]:=λw H=>zcI (λ_ _=>zx)
 have B:((M.length:Int)+1).toNat=M.length+1:=by omega
 unfold bldH;refine Gw4 @dT @ue q @ub ?_;intros;by_cases C:M.length+1<l.length
 .rw[t C]at b;have j:(l.map λ(n:Nat)=>[Xi .i64 (n:Int)]).getD (M.length+1) []=[.int .i64 (l[M.length+1]:Int)]:=v C;generalize l[M.length+1]=y at b j;refine Gw3 @dT B j ?_;intros;refine zad (m ⟨y,c.h,c.x⟩ _ _ (Xa (by omega) (by omega) zpq (Xa (by omega) (by omega) (zaa rfl) (Xf (by omega))))) ?_;rintro _ _ _ ⟨rfl,rfl,rfl⟩;generalize e x ⟨y,c.h,c.x⟩=w at b⊢;have k:(M++[w])++zbP e c (l.drop (M++[w]).length)=zbP e c l:=by rw[Wv,We,Wh];exact b
  unfold bldH;refine Gw4 @rbN1 p @ui @ug ?_;intros;exact⟨(M++[w],γ+1),⟨by simp only[We,Wh];omega,k⟩,by simp only[We,Wh];omega,(Xe [(0,0,0),(1,1,0),(2,2,0)] [] rfl rfl rfl (Qz @ue @ub @m9A @m9P @ui @ug @m9C @m9N) (Qz @ue @ub @m9A @m9P @ui @ug @m9C @m9N))⟩
 .rw[u (by omega)]at b;refine Gw1 @dF ?_;intros;refine zad (m c _ _ (Xa (by omega) (by omega) zpq (Xa (by omega) (by omega) (zaa rfl) (Xf (by omega))))) ?_;rintro _ _ _ ⟨rfl,rfl,rfl⟩;generalize e x c=w at b⊢;have k:(M++[w])++zbP e c (l.drop (M++[w]).length)=zbP e c l:=by rw[Wv,We,Wh];exact b
  unfold bldH;refine Gw4 @rbN1 p @ui @ug ?_;intros;exact⟨(M++[w],γ+1),⟨by simp only[We,Wh];omega,k⟩,by simp only[We,Wh];omega,(Xe [(0,0,0),(1,1,0),(2,2,0)] [] rfl rfl rfl (Qz @ue @ub @m9A @m9P @ui @ug @m9C @m9N) (Qz @ue @ub @m9A @m9P @ui @ug @m9C @m9N))⟩
def znj:List (List AV)->List Nd->Prop
 |[],[]=>True
 |c::d,n::l=>(c=encN n\/∃a b x:Int,n=zax a b x/\c=[.int .i64 a,.int .i64 b,.int .i64 x,.nilsl,.nilsl])/\znj d l
 |_,_=>False
theorem zk3:∀l:List Nd,znj (l.map encN) l
 |[]=>trivial
 |n::l=>⟨.inl rfl,zk3 l⟩
theorem zvB:∀ {b:List (List AV)}{l:List Nd},znj b l->b.length=l.length
 |[],[],_=>rfl
 |_::b,_::l,h=>by rw[Wd,Wd,zvB h.2]
theorem zhr:∀ {d:List (List AV)}{l:List Nd},znj d l->zy d
 |[],[],_=>zkD
 |
  c::d,n::l,h=>by
  refine zaz ?_ (zhr h.2);rcases h.1 with rfl|⟨a,b,x,rfl,rfl⟩
  .exact zt
  .rfl
theorem zvY{H H2:AH}{σ:Nat->Nat->Option (Nat×Nat×Nat)}{D:Nat->Nat->Prop}{t:Bool}:∀ {d:List (List AV)}{l:List Nd},znj d l->∀i,i<l.length->∀j,j<5->Vw H H2 σ D t ((d.getD i []).getD j .undef) (((l.map encN).getD i []).getD j .undef)
 |[],[],_,i,g,_,_=>absurd g (Nat.not_lt_zero _)
 |[],_::_,h,_,_,_,_=>h.elim
 |_::_,[],h,_,_,_,_=>h.elim
 |
  c::d,n::l,h,0,g,j,hj=>by
  rcases h.1 with rfl|⟨a,b,x,rfl,rfl⟩
  .exact zqr n j hj
  .have e:((List.map encN (zax a b x::l)).getD 0 [])=[.int .i64 a,.int .i64 b,.int .i64 x,encL 5 encX [],encL 5 encN []]:=by show encN (zax a b x)=_;unfold zax;rw[zaI]
   rw[e]
   match j,hj with
   |0,_=>exact .int _ _ _
   |1,_=>exact .int _ _ _
   |2,_=>exact .int _ _ _
   |3,_=>exact zkH
   |4,_=>exact zkH
 |
  c::d,n::l,h,i+1,g,j,hj=>by
  have:=zvY (H:=H) (H2:=H2) (σ:=σ) (D:=D) (t:=t) h.2 i (by rw[Wd]at g;omega) j hj;exact this
theorem zqc{H d:AH}{σ:Nat->Nat->Option (Nat×Nat×Nat)}{D:Nat->Nat->Prop}{t:Bool}{r q g n:Nat}{b:List (List AV)}{l:List Nd}(c:znj b l)(s:n=l.length)(h:D r q)(m:H.get r q=some (.row 5 b g))(k:n<=big):Vw H d σ D t (.own r q g 0 n) (encL 5 encN l):=by subst s;have e:encL 5 encN l=.sl 5 l.length (λi j=>((l.map encN).getD i []).getD j .undef):=rfl;rw[e];refine .frz t r q g 0 l.length 5 b _ h m k (by rw[zvB c];omega) (λi j o p=>?_);rw[Xr];exact zvY c i o j p
theorem zs4{H c:AH}{σ:Nat->Nat->Option (Nat×Nat×Nat)}{D:Nat->Nat->Prop}{t:Bool}{r q g:Nat}{k b x:Int}(d:D r q)(h:H.get r q=some (.row 5 [[.int .i64 k,.int .i64 b,.int .i64 x,.nilsl,.nilsl]] g)):Vw H c σ D t (.ptr r q g 0 0) (encP 5 (encN (zax k b x))):=by
 have e:encN (zax k b x)=[.int .i64 k,.int .i64 b,.int .i64 x,encL 5 encX [],encL 5 encN []]:=by unfold zax;rw[zaI]
 rw[e];refine .frzp t r q g 0 0 5 5 _ _ d h (by simp) (by simp) (λj m=>?_)
 match j,m with
 |0,_=>exact .int _ _ _
 |1,_=>exact .int _ _ _
 |2,_=>exact .int _ _ _
 |3,_=>exact zkH
 |4,_=>exact zkH
theorem zDf{g:G}(c:OkB g){k:Nat}(b:k∈ordE (eG g)):k∈hdL (eG g)↔zoB (eG g) k=true:=by unfold hdL;rw[Ws];exact⟨λh=>h.2,λh=>⟨b,h⟩⟩
theorem zCr{g:G}{k:Nat}(b:k<g.blocks.length):(((Wc g.blocks.length).map (zdw (eG g))).map λl=>[zc l]).getD k []=[zc (zdw (eG g) k)]:=by rw[zg (by simp;exact b)];simp
theorem zFq{g:G}(b:OkB g){k x:Nat}(h:x∈zdw (eG g) k):x<g.blocks.length:=by
 unfold zdw at h;have:=zen (zac b) (Ws.1 h).1
 rwa [zhL]at this
theorem QA{c d p:Prop}(a0:c)(b:d)(h:c->d->p:=by intro a0 b;(try simp only[evWB,Nat.reduceBEq,Nat.reduceAdd,Nat.reduceSub,Nat.reduceLeDiff,Nat.reduceLT,implies_true,a0,b])<;>(repeat' with_reducible apply And.intro)<;>first|(first|exact RowV.of_flat zQ|exact zq rfl|exact zs4 rfl rfl;done)|exact fin6):p:=h a0 b
theorem zpn(g:G)(m:OkB g)(e:Nat->Ctx->Nd)(k:Nat)(M:k∈ordE (eG g))(J:zoB (eG g) k=false)(v:∀x∈zdw (eG g) k,ztP g e x)(c:Ctx):
  zla g zX [.int .i64 (k:Int),ctxA c] (.agg (encN (nSeq (zax 10 0 k::zax 2 k 0::trN (shpG g) e k (zbf (zan (shpG g) k) c)::zbP e c (zan (shpG g) k))))):=by
 refine zhX ?_ rfl flA;refine zaK (fn_x zfO rfl ?_);unfold zdo bldH ctxA;have U:=hBig;have y:k<g.blocks.length:=by have:=zen (zac m) M;rwa [zhL]at this
 have R:=zxB m (k:=k);have T:=m.small.1;have I:g.toG.blocks.length=g.blocks.length:=by simp[G.toG]
 rw[I]at T;have N:zpt (shpG g) k=zdw (eG g) k:=zKz J;have n:zan (shpG g) k=plG (shpG g) (zdw (eG g) k):=by rw[zv7,N]
 have u:inlL (shpG g) k=inG (shpG g) (zdw (eG g) k):=by rw[zFI,N]
 have A:∀x∈zan (shpG g) k,x∈zdw (eG g) k:=λx b=>by rw[n]at b;exact(Ws.1 b).1
 have w:∀x∈inlL (shpG g) k,x∈zdw (eG g) k:=λx b=>by rw[u]at b;exact(Ws.1 b).1
 have d:=ziv g m (zdw (eG g) k) (by omega) (λx b=>zFq m b);rw[<-n,<-u]at d;have j:(zan (shpG g) k).length<=1000:=by rw[n];have:=zxb (S:=shpG g) (l:=zdw (eG g) k);omega
 rw[zLL];generalize zan (shpG g) k=o at d A j⊢;generalize inlL (shpG g) k=O at d w⊢;have F:=zkd o c;have B:=zgo g m e k y O (zbf o c) (λx b=>v x (w x b));have q:=zfk g e o j c (λx b=>v x (A x b));have z:(shpG g).last k=zhS g k:=rfl;rw[z];generalize trZ (zhS g k) e O (zbf o c)=P at B⊢;have s:=zn1 (code:=e) (c:=c) (l:=o);generalize zbP e c o=C at q s⊢;refine Gw0 ?_;intros;refine zaL [(0,.ptr 0 0 0 0 0),(1,.int .i64 (k:Int)),(5,encP 3 [.int .i64 c.f,.int .i64 c.h,.int .i64 c.x]),(6,.ptr 2 0 0 0 0),(7,encP 5 (encN (zax 10 0 k)))] (bldH g [(2,.row 5 [zN] 0)]) 3 λ_=>⟨?_,?_⟩
 .unfold bldH;exact(Xe [(0,0,0),(1,1,0),(2,2,0)] [3] rfl rfl rfl (QA @ub @uj) (QA @ub @uj))
 unfold zcB bldH;conv in Z8 _ _=>reduce
 have p:boM (eG g) (hdL (eG g))=[.int .i64 ((hdL (eG g)).length:Int),.undef,.undef]::(hdL (eG g)).zipIdx.map (cBo (eG g)):=rfl;have L:=(zs6 (E:=eG g) (k:=k) (l:=(hdL (eG g)).zipIdx) (i:=0)).1 (by rw[WV];intro h;rw[(zDf m M).1 h]at J;cases J);have K:=zCr (g:=g) y;rw[p]
 (repeat first|simp(disch:=try exact dis1) only[evD,Xb,Xc,Xd,L,Option.isSome_none]|with_reducible first|intro _|refine aJ ?_)
 rw[<-p]
 (repeat first|simp(disch:=try exact dis1) only[evD,Xb,Xc,Xd,encNN,K,Wl,Wu]|with_reducible first|intro _|refine aJ ?_)
 refine zad (d _ _ (Xa (by omega) (by omega) (zaa rfl) (Xf (by omega)))) ?_;rintro _ _ _ ⟨rfl,rfl,rfl⟩;unfold bldH;have D:∀H,zdx 5 (encL 5 encN C) H=some (C.map encN):=λH=>zcI (λ_ _=>zx)
 have Q:Xn (.agg [.int .i64 2,.int .i64 (k:Int),.int .i64 0,.nilsl,.nilsl])=[.int .i64 2,.int .i64 (k:Int),.int .i64 0,.nilsl,.nilsl]:=rfl;refine Gw2 @ub @zC ?_;intros
 (repeat' first
  |with_reducible apply Wa
  |(refine zcG (ze F rfl) ?_;(refine Gw3 @ub @zC @zx ?_;intros;try with_reducible exact trivial))
  |(refine zad (B _ _ (Xa (by omega) (by omega) (zaa rfl) (Xf (by omega)))) ?_;rintro _ _ _ ⟨rfl,rfl,rfl⟩;unfold bldH;(refine Gw3 @ub @zC @zx ?_;intros;try with_reducible exact trivial)))
 all_goals refine zad (q _ _ (Xa (by omega) (by omega) (zaa rfl) (Xa (by omega) (by omega) ?_ (Xf (by omega))))) ?_
 all_goals try exact zdd (zaz zt (zaz rfl (zaU zt)))
 all_goals rintro _ _ _ ⟨rfl,rfl,rfl⟩
 all_goals unfold bldH
 all_goals(refine Gw4 D @m9M @ui @ug ?_;intros;try with_reducible exact trivial)
 all_goals have t:znj (encN (zax 10 0 k)::[Xi .i64 2,.int .i64 (k:Int),.int .i64 0,.nilsl,.nilsl]::encN P::C.map encN) (zax 10 0 k::zax 2 k 0::P::C):=⟨.inl rfl,.inr ⟨_,_,_,rfl,rfl⟩,.inl rfl,zk3 _⟩
 all_goals refine zad (zs5 rfl rfl (zi8 (Xa (by omega) (by omega) (zaa rfl) (Xa (by omega) (by omega) (zdd (zhr t)) (Xf (by omega))))) rfl rfl) ?_
 all_goals rintro _ _ _ ⟨rfl,rfl,rfl⟩
 all_goals(refine Gw1 @zdp.eq_1 ?_;intros;try with_reducible exact trivial)
 all_goals refine zfg ?_
 all_goals unfold nSeq
 all_goals rw[zaI,zjb]
 all_goals exact⟨.int _ _ _,.int _ _ _,.int _ _ _,zkH,zqc t (by simp only[Wd];omega) (show 2<=3 by omega) rfl (by omega),trivial⟩
section
variable {H H2:AH}{σ:Nat->Nat->Option (Nat×Nat×Nat)}{D:Nat->Nat->Prop}{t:Bool}
theorem zzd{r q g:Nat}{x:AV}{l:List Nd}(c:D r q)(d:H.get r q=some (.row 5 [[.int .i64 1,.int .i64 0,.int .i64 0,.nilsl,x]] g))(k:Vw H H2 σ D false x (encL 5 encN l)):Vw H H2 σ D t (.own r q g 0 1) (encL 5 encN [nSeq l]):=by
 have e:encL 5 encN [nSeq l]=.sl 5 1 (λi j=>([encN (nSeq l)].getD i []).getD j .undef):=rfl;rw[e];refine .frz t r q g 0 1 5 _ _ c d (by unfold big;omega) (by simp) (λi j m h=>?_);obtain rfl:i=0:=by omega
 have b:encN (nSeq l)=[.int .i64 1,.int .i64 0,.int .i64 0,encL 5 encX [],encL 5 encN l]:=by unfold nSeq;rw[zaI]
 rw[b]
 match j,h with
 |0,_=>exact .int _ _ _
 |1,_=>exact .int _ _ _
 |2,_=>exact .int _ _ _
 |3,_=>exact zkH
 |4,_=>exact k
theorem zzi{r q g:Nat}{a b z:Int}{c y:AV}{d:List Ex}{l:List Nd}(e:D r q)(k:H.get r q=some (.row 5 [[.int .i64 a,.int .i64 b,.int .i64 z,c,y]] g))(h:Vw H H2 σ D false c (encL 5 encX d))(n:Vw H H2 σ D false y (encL 5 encN l)):Vw H H2 σ D t (.ptr r q g 0 0) (encP 5 (encN (.mk ⟨a,b,z⟩ d l))):=by
 rw[zaI];refine .frzp t r q g 0 0 5 5 _ _ e k (by simp) (by simp) (λj m=>?_)
 match j,m with
 |0,_=>exact .int _ _ _
 |1,_=>exact .int _ _ _
 |2,_=>exact .int _ _ _
 |3,_=>exact h
 |4,_=>exact n
end
theorem zNc{n:Nd}(h:n.f.kind≠3):isWh n=false:=by unfold isWh;rw[decide_eq_false h];rfl
theorem zei:∀n:Nd,(encN n).getD 0 .undef=.int .i64 n.f.kind
 |.mk f c l=>by rw[zaI];rfl
theorem zek{e:Nd}:[.int .i64 e.f.kind,(encN e).getD 1 .undef,(encN e).getD 2 .undef,(encN e).getD 3 .undef,(encN e).getD 4 .undef]=encN e:=by rw[<-zei e,zC]
def zBQ(one:Bool)(b:Nd)(k:Nat)(c:List Nd):Nd :=
 if one&&isWh b then .mk ⟨5,k,0⟩ b.cond [nSeq (hd0 b::c)]else .mk ⟨4,0,0⟩ [] [nSeq (zax 2 k 0::b::c)]
theorem zdM(g:G)(c:Ctx)(lb n:Nd)(b:List Nd)(q:AV)(p:b.length<=1000)(d:zla g zak [q,ctxA c] (encL 5 encN b)) :
  wpX Z9 2 zcw (retK zbW (zwh 2 λv H s=>v=.agg (encN (nSeq (lb::n::b)))/\H=bldH g []/\s=2))
   [(0,.ptr 0 0 0 0 0),(7,encP 5 (encN lb)),(9,encP 3 [.int .i64 c.f,.int .i64 c.h,.int .i64 c.x]),(10,.ptr 2 0 0 0 0),(11,q),(21,encP 5 (encN n))] (bldH g [(2,.row 5 [zN] 0)]) 3:=by
 unfold zcw bldH;have t:=hBig;have k:∀H,zdx 5 (encL 5 encN b) H=some (b.map encN):=λH=>zcI (λ_ _=>zx)
 have e:∀H,zdx 5 (encL 5 encN [lb,n]) H=some [encN lb,encN n]:=λH=>zcI (λ_ _=>zx)
 have m:zI (encN lb)=true:=zt;have o:zI (encN n)=true:=zt;have j:znj (encN lb::encN n::b.map encN) (lb::n::b):=⟨.inl rfl,.inl rfl,zk3 _⟩;conv in zfv _ _ _ _=>reduce
 refine Gw5 @ub @zC @zx m o ?_;intros
 (repeat' first
  |with_reducible apply Wa
  |(show 1<2;decide)
  |(show _<=_;omega)
  |(refine zad (d [(2,.row 5 [zN] 0),(3,.row 5 [encN lb,encN n] 0)] 4 (Xa (by omega) (by omega) (zaa rfl) (Xa (by omega) (by omega) (zdd (zaz zt (zaU zt))) (Xf (by omega))))) ?_;rintro _ _ _ ⟨rfl,rfl,rfl⟩;unfold bldH;(refine Gw6 k e @rbN2 @m9M @ui @ug ?_;intros;try with_reducible exact trivial))
  |(refine zad (d [(2,.row 5 [zN] 0)] 3 (Xa (by omega) (by omega) (zaa rfl) (Xf (by omega)))) ?_;rintro _ _ _ ⟨rfl,rfl,rfl⟩;unfold bldH;(refine Gw10 k e @rbN2 @zC @zx m o @m9M @ui @ug ?_;intros;try with_reducible exact trivial))
  |(refine zad (zs5 rfl rfl (zi8 (Xa (by omega) (by omega) (zaa rfl) (Xa (by omega) (by omega) (zdd (zhr j)) (Xf (by omega))))) rfl rfl) ?_;rintro _ _ _ ⟨rfl,rfl,rfl⟩;(refine Gw1 @zbW.eq_1 ?_;intros;try with_reducible exact trivial)))
 all_goals refine zfg ?_
 all_goals unfold nSeq
 all_goals rw[zaI,zjb]
 all_goals exact⟨.int _ _ _,.int _ _ _,.int _ _ _,zkH,zqc j (by simp only[Wd];omega) (show 2<=3 by omega) rfl (by omega),trivial⟩
theorem QB{c d p:Prop}(a0:c)(b:d)(h:c->d->p:=by intro a0 b;(try simp only[evWB,Nat.reduceBEq,Nat.reduceAdd,Nat.reduceSub,Nat.reduceLeDiff,Nat.reduceLT,implies_true,a0,b])<;>(repeat' with_reducible apply And.intro)<;>first|(first|exact RowV.of_flat zQ|exact zq rfl;done)|exact fin6):p:=h a0 b
theorem zq7(g:G)(hg:OkB g)(k:Nat)(K:k<g.blocks.length)(c:Ctx)(lb N:Nd)(m q:List Nd)(t:AV)(Q:t.flat0=true)(hchl:m.length<=1000)(o:q.length<=1000)(h3:N.f.kind=3->∃a b,N.l=[a,b])(s:zla g zak [t,ctxA c] (encL 5 encN q)) :
  wpX Z9 2 zcy (retK zbW (zwh 2 λv H n=>v=.agg (encN (nSeq (lb::zBQ (oneG g k) N k m::q)))/\H=bldH g []/\n=2))
   [(0,.ptr 0 0 0 0 0),(1,.int .i64 (k:Int)),(7,encP 5 (encN lb)),(9,encP 3 [.int .i64 c.f,.int .i64 c.h,.int .i64 c.x]),(10,.ptr 2 0 0 0 0),(11,t),(19,encP 5 (encN N)),(20,encL 5 encN m)] (bldH g [(2,.row 5 [zN] 0)]) 3:=by
 unfold zcy bldH;have hB:=hBig;have S:∀H,zdx 5 (encL 5 encN m) H=some (m.map encN):=λH=>zcI (λ_ _=>zx)
 have R:zI (encN N)=true:=zt;obtain⟨f,d,j⟩:=N;simp only[Nd.f,Nd.l]at h3;rw[zaI]at R⊢;refine Gw6 @ub R S @m9M @ui @ug ?_;intros;have p:znj ([Xi .i64 2,.int .i64 (k:Int),.int .i64 0,.nilsl,.nilsl]::[.int .i64 f.kind,.int .i64 f.block,.int .i64 f.label,encL 5 encX d,encL 5 encN j]::m.map encN) (zax 2 k 0::.mk f d j::m):=⟨.inr ⟨_,_,_,rfl,rfl⟩,.inl (zaI _ _ _).symm,zk3 _⟩;refine zad (zs5 rfl rfl (zi8 (Xa (by omega) (by omega) (zaa rfl) (Xa (by omega) (by omega) (zdd (zhr p)) (Xf (by omega))))) rfl rfl) ?_;rintro _ _ _ ⟨rfl,rfl,rfl⟩;have hst:=hg.stm _ (zfY K);have hgb:(g.blocks.map Xj).getD k []=(blG g k).cells:=by rw[zg K,zrh K]
 have Y:(blG g k).cells=[.int .u32 (blG g k).addr,encL 8 St.cells (blG g k).stmts]:=rfl;refine Gw2 hgb Y ?_;intros;have A:zBQ (oneG g k) (.mk f d j) k m=if oneG g k&&isWh (.mk f d j)then .mk ⟨5,k,0⟩ d [nSeq (hd0 (.mk f d j)::m)]else .mk ⟨4,0,0⟩ [] [nSeq (zax 2 k 0::.mk f d j::m)]:=rfl
 have w:t.flat0=true:=Q
 have V:∀O σ x W,znj W (zax 2 k 0::.mk f d j::m)->Vw (bldH g [(2,.row 5 x 0),(3,.row 5 W 1),(4,.row 5 [[.int .i64 1,.int .i64 0,.int .i64 0,.nilsl,.own 3 0 1 0 (2+m.length)]] 0),(5,.row 5 [[.int .i64 4,.int .i64 0,.int .i64 0,.nilsl,.own 4 0 0 0 1]] 0)]) O σ (inD [3,4,5]) true (.ptr 5 0 0 0 0) (encP 5 (encN (.mk ⟨4,0,0⟩ [] [nSeq (zax 2 k 0::.mk f d j::m)]))):=by
  intro O σ x W p;refine zzi rfl rfl zkH ?_;refine zzd rfl rfl ?_;refine zqc p ?_ rfl rfl ?_
  .simp only[Wd];omega
  .omega
 by_cases h1:(blG g k).stmts.length=1
 case neg=>
  have u:¬(((blG g k).stmts.length:Nat):Int)=1:=by omega
  have e:zBQ (oneG g k) (.mk f d j) k m=.mk ⟨4,0,0⟩ [] [nSeq (zax 2 k 0::.mk f d j::m)]:=by rw[A];unfold oneG;rw[decide_eq_false h1];rfl
  rw[e];refine Gw3 @dT @dF u ?_;intros;refine zaL [(0,.ptr 0 0 0 0 0),(7,encP 5 (encN lb)),(9,encP 3 [.int .i64 c.f,.int .i64 c.h,.int .i64 c.x]),(10,.ptr 2 0 0 0 0),(11,t),(21,encP 5 (encN (.mk ⟨4,0,0⟩ [] [nSeq (zax 2 k 0::.mk f d j::m)])))] (bldH g [(2,.row 5 [zN] 0)]) 3 λ_=>⟨?_,zdM g c lb _ q t o s⟩
  unfold bldH;exact(Xe [(0,0,0),(1,1,0),(2,2,0)] [3,4,5] rfl rfl rfl (QB @ub @uj) (by((try simp only[evWB,Xb,Xc,Xg,Xd,Xh,implies_true,encP,zN])<;>(repeat' with_reducible apply Wa)<;>first|(first|exact zq rfl|exact zq w|exact V _ _ _ _ p;done)|exact fin6)))
 have u:(((blG g k).stmts.length:Nat):Int)=1:=by omega
 have U:oneG g k=true:=by unfold oneG;rw[decide_eq_true h1]
 by_cases I:f.kind=3
 case neg=>
  have e:zBQ (oneG g k) (.mk f d j) k m=.mk ⟨4,0,0⟩ [] [nSeq (zax 2 k 0::.mk f d j::m)]:=by rw[A,U];rw[zNc (n:=.mk f d j) I];rfl
  rw[e];refine Gw3 @dT @dF u ?_;intros;refine zaL [(0,.ptr 0 0 0 0 0),(7,encP 5 (encN lb)),(9,encP 3 [.int .i64 c.f,.int .i64 c.h,.int .i64 c.x]),(10,.ptr 2 0 0 0 0),(11,t),(21,encP 5 (encN (.mk ⟨4,0,0⟩ [] [nSeq (zax 2 k 0::.mk f d j::m)])))] (bldH g [(2,.row 5 [zN] 0)]) 3 λ_=>⟨?_,zdM g c lb _ q t o s⟩
  unfold bldH;exact(Xe [(0,0,0),(1,1,0),(2,2,0)] [3,4,5] rfl rfl rfl (QB @ub @uj) (by((try simp only[evWB,Xb,Xc,Xg,Xd,Xh,implies_true,encP,zN])<;>(repeat' with_reducible apply Wa)<;>first|(first|exact zq rfl|exact zq w|exact V _ _ _ _ p;done)|exact fin6)))
 obtain⟨a,b,T⟩:=h3 I;rw[I]at p;have B:(j.map encN).getD 0 []=encN a:=by rw[T];rfl
 have J:(j.map encN).getD 1 []=encN b:=by rw[T];rfl
 have L:j.length=2:=by rw[T];rfl
 have D:Int.toNat 0=0:=rfl;have F:Int.toNat 1=1:=rfl;have M:isWh (.mk f d j)=(decide (b.f.kind=7)&&decide (a.f.kind≠7)):=by unfold isWh;simp[Nd.f,Nd.l,I,T]
 have Z:zI (encN a)=true:=zt;by_cases P:b.f.kind=7
 case neg=>
  have e:zBQ (oneG g k) (.mk f d j) k m=.mk ⟨4,0,0⟩ [] [nSeq (zax 2 k 0::.mk f d j::m)]:=by rw[A,U,M,decide_eq_false P];rfl
  rw[e]
  (repeat first|simp(disch:=try exact dis1) only[evD,Xb,Xc,Xd,dT,dF,u,I,L,B,J,D,F,zei,zC,zek,zx,Wd,Wf]|with_reducible first|intro _|refine aJ ?_)
  refine Gw2 @dT @dF ?_;intros;refine zaL [(0,.ptr 0 0 0 0 0),(7,encP 5 (encN lb)),(9,encP 3 [.int .i64 c.f,.int .i64 c.h,.int .i64 c.x]),(10,.ptr 2 0 0 0 0),(11,t),(21,encP 5 (encN (.mk ⟨4,0,0⟩ [] [nSeq (zax 2 k 0::.mk f d j::m)])))] (bldH g [(2,.row 5 [zN] 0)]) 3 λ_=>⟨?_,zdM g c lb _ q t o s⟩
  unfold bldH;exact(Xe [(0,0,0),(1,1,0),(2,2,0)] [3,4,5] rfl rfl rfl (QB @ub @uj) (by((try simp only[evWB,Xb,Xc,Xg,Xd,Xh,implies_true,encP,zN])<;>(repeat' with_reducible apply Wa)<;>first|(first|exact zq rfl|exact zq w|exact V _ _ _ _ p;done)|exact fin6)))
 by_cases X:a.f.kind=7
 case pos=>
  have e:zBQ (oneG g k) (.mk f d j) k m=.mk ⟨4,0,0⟩ [] [nSeq (zax 2 k 0::.mk f d j::m)]:=by rw[A,U,M,decide_eq_true P,decide_eq_false (λh=>h X)];rfl
  rw[e]
  (repeat first|simp(disch:=try exact dis1) only[evD,Xb,Xc,Xd,dT,dF,u,I,L,B,J,D,F,P,zei,zC,zek,zx,Wd,Wf]|with_reducible first|intro _|refine aJ ?_)
  refine Gw3 @dT @dF X ?_;intros;refine zaL [(0,.ptr 0 0 0 0 0),(7,encP 5 (encN lb)),(9,encP 3 [.int .i64 c.f,.int .i64 c.h,.int .i64 c.x]),(10,.ptr 2 0 0 0 0),(11,t),(21,encP 5 (encN (.mk ⟨4,0,0⟩ [] [nSeq (zax 2 k 0::.mk f d j::m)])))] (bldH g [(2,.row 5 [zN] 0)]) 3 λ_=>⟨?_,zdM g c lb _ q t o s⟩
  unfold bldH;exact(Xe [(0,0,0),(1,1,0),(2,2,0)] [3,4,5] rfl rfl rfl (QB @ub @uj) (by((try simp only[evWB,Xb,Xc,Xg,Xd,Xh,implies_true,encP,zN])<;>(repeat' with_reducible apply Wa)<;>first|(first|exact zq rfl|exact zq w|exact V _ _ _ _ p;done)|exact fin6)))
 have e:zBQ (oneG g k) (.mk f d j) k m=.mk ⟨5,k,0⟩ d [nSeq (a::m)]:=by rw[A,U,M,decide_eq_true P,decide_eq_true X,T];rfl
 rw[e];have C:znj (encN a::m.map encN) (a::m):=⟨.inl rfl,zk3 _⟩
 have hv2:∀O σ x y z,Vw (bldH g [(2,.row 5 x 0),(3,.row 5 y 1),(4,.row 5 z 0),(5,.row 5 [[.int .i64 5,.int .i64 (k:Int),.int .i64 0,encL 5 encX d,.own 7 0 0 0 1]] 0),(6,.row 5 (encN a::m.map encN) 1),(7,.row 5 [[.int .i64 1,.int .i64 0,.int .i64 0,.nilsl,.own 6 0 1 0 (1+m.length)]] 0)]) O σ (inD [3,4,5,6,7]) true (.ptr 5 0 0 0 0) (encP 5 (encN (.mk ⟨5,k,0⟩ d [nSeq (a::m)]))):=by
  intro O σ x y z;refine zzi rfl rfl (zV rfl) ?_;refine zzd rfl rfl ?_;refine zqc C ?_ rfl rfl ?_
  .simp only[Wd];omega
  .omega
 (repeat first|simp(disch:=try exact dis1) only[evD,Xb,Xc,Xd,dT,dF,u,I,L,B,J,D,F,P,zei,zC,zek,zx,Wd,Wf]|with_reducible first|intro _|refine aJ ?_)
 refine Gw2 @dT @dF ?_;intros
 (repeat' first
  |with_reducible apply Wa
  |(show _<=_;omega)
  |(show _<_;omega))
 all_goals(refine Gw9 S B @zC @zek @zx Z @m9M @ui @ug ?_;intros;try with_reducible exact trivial)
 (repeat' first
  |with_reducible apply Wa
  |(show _<=_;omega)
  |(show _<_;omega))
 all_goals refine zad (zs5 rfl rfl (zi8 (Xa (by omega) (by omega) (zaa rfl) (Xa (by omega) (by omega) (zdd (zhr p)) (Xa (by omega) (by omega) (zaa rfl) (Xa (by omega) (by omega) (zaa rfl) (Xa (by omega) (by omega) (zdd (zhr C)) (Xf (by omega)))))))) rfl rfl) ?_
 all_goals rintro _ _ _ ⟨rfl,rfl,rfl⟩
 all_goals(refine Gw0 ?_;intros;try with_reducible exact trivial)
 (repeat' with_reducible apply Wa)
 all_goals refine zaL [(0,.ptr 0 0 0 0 0),(7,encP 5 (encN lb)),(9,encP 3 [.int .i64 c.f,.int .i64 c.h,.int .i64 c.x]),(10,.ptr 2 0 0 0 0),(11,t),(21,encP 5 (encN (.mk ⟨5,k,0⟩ d [nSeq (a::m)])))] (bldH g [(2,.row 5 [zN] 0)]) 3 λ_=>⟨?_,zdM g c lb _ q t o s⟩
 all_goals unfold bldH
 all_goals exact(Xe [(0,0,0),(1,1,0),(2,2,0)] [3,4,5,6,7] rfl rfl rfl (QB @ub @uj) (by((try simp only[evWB,Xb,Xc,Xg,Xd,Xh,implies_true,encP,zN])<;>(repeat' with_reducible apply Wa)<;>first|(first|exact zq rfl|exact zq w|exact hv2 _ _ _ _ _;done)|exact fin6)))
theorem zxI{S:Shp}{k x:Nat}{l:List Nat}(h:x∈resG S k l):x∈l:=(Ws.1 h).1
theorem zET{b:Nat->Ctx->Nd}{inl:List Nat}{c:Ctx}{t:Int}(h:∀x∈inl,(b x c).f.kind=1):(wayZ b inl c t).f.kind≠3:=by
 unfold wayZ;split
 .rename_i d;rw[h _ d];decide
 .unfold zeJ;split
  .show (1:Int)≠3;decide
  .split
   .show (8:Int)≠3;decide
   .split
    .show (7:Int)≠3;decide
    .show (9:Int)≠3;decide
theorem zGy{s:St}{cd:Nat->Ctx->Nd}{inl:List Nat}{c:Ctx}(h:∀x∈inl,(cd x c).f.kind=1)(d:(trZ s cd inl c).f.kind=3):∃a b,(trZ s cd inl c).l=[a,b]:=by
 unfold trZ at d⊢;split at d
 .exact absurd d (zET h)
 .rename_i e;rw[if_neg e];split at d
  .rename_i g;rw[if_pos g];exact⟨_,_,rfl⟩
  .split at d
   .exact absurd (show(6:Int)=3 from d) (by decide)
   .split at d
    .exact absurd (show(11:Int)=3 from d) (by decide)
    .exact absurd (show(12:Int)=3 from d) (by decide)
theorem zxP{H b:AH}{σ:Nat->Nat->Option (Nat×Nat×Nat)}{D:Nat->Nat->Prop}{t:Bool}{r q g:Nat}{n:Nd}(c:D r q)(d:H.get r q=some (.row 5 [encN n] g)):Vw H b σ D t (.ptr r q g 0 0) (encP 5 (encN n)) :=
 .frzp t r q g 0 0 5 5 _ _ c d (by simp) (by simp) (λj e=>by
  rw[Xr]
  exact zqr n j e)
theorem zM7{g:G}(b:OkB g){k:Nat}:(zdw (eG g) k).Nodup:=((Dm.rpo (zac b).ok (zac b).pos).nd).filter _
theorem zJZ{g:G}{k:Nat}:(zgl (eG g) k).length<=g.blocks.length:=by
 have:=zp5 (E:=eG g) (b:=k)
 rwa [zhL]at this
theorem inB_eq{g:G}(c:OkB g){k:Nat}(d:k<g.blocks.length)(x:Nat):(shpG g).inB k x=decide (x∈zgl (eG g) k):=by have h:=zuE (zac c) (b:=k) (x:=x) (by rw[zhL];exact d);show @decide (zkx (eG g) k x) (Classical.propDecidable _)=_;rw[Ww,@decide_eq_true_iff _ (Classical.propDecidable _),decide_eq_true_iff];exact h.symm
theorem Qs{p:Prop}(h:p:=by(try simp only[evWB,Nat.reduceBEq,Nat.reduceAdd,Nat.reduceSub,Nat.reduceLeDiff,Nat.reduceLT,implies_true,zc,encP,zN,List.length_append,List.map_append,List.length_cons,List.length_nil,List.map_cons,List.map_nil])<;>(repeat' with_reducible apply And.intro)<;>first|(first|exact RowV.of_flat zQ|exact zq rfl;done)|exact fin6):p:=h
theorem QC{c d p:Prop}(a0:c)(b:d)(h:c->d->p:=by intro a0 b;(try simp only[evWB,Nat.reduceBEq,Nat.reduceAdd,Nat.reduceSub,Nat.reduceLeDiff,Nat.reduceLT,implies_true,a0,b])<;>(repeat' with_reducible apply And.intro)<;>first|(first|exact RowV.of_flat zQ|exact zq rfl|exact zel rfl rfl (by omega);done)|exact fin6):p:=h a0 b
theorem zjl(g:G)(y:OkB g)(cd:Nat->Ctx->Nd)(k:Nat)(hk:k∈ordE (eG g))(hh:zoB (eG g) k=true)(z:∀x∈zdw (eG g) k,ztP g cd x)(hk1:∀x∈zdw (eG g) k,∀c,(cd x c).f.kind=1)(c:Ctx)(lb:Nd):
  zla g zcb [.int .i64 (k:Int),.agg (encN lb),zc (zgl (eG g) k),ctxA c] (.agg (encN (nSeq (lb::zwF (shpG g) cd k c::zbP cd c (beyL (shpG g) k))))):=by
 have hlf:(Xm (encN lb)).flat=true:=flA;refine zhX ?_ (by show(true&&((Xm (encN lb)).flat&&(true&&(true&&true))))=true;rw[hlf];rfl) flA;refine zaK (fn_x zkU rfl ?_);unfold zfK bldH ctxA;have hB:=hBig;have A:k<g.blocks.length:=by have:=zen (zac y) hk;rwa [zhL]at this
 have hkd:=zxB y (k:=k);have hn:=y.small.1;have hgl:g.toG.blocks.length=g.blocks.length:=by simp[G.toG]
 rw[hgl]at hn;have hbl:=zJZ (g:=g) (k:=k);have X:=inB_eq y A;have Y:beyL (shpG g) k=aftG (shpG g) k (zdw (eG g) k):=zyE hh;have hr:zpt (shpG g) k=resG (shpG g) k (zdw (eG g) k):=zDJ hh;have hnd:=zM7 y (k:=k);have t:=λx (o:x∈zdw (eG g) k)=>zFq y o
 have hkg:=zCr (g:=g) A;have hcnt:(shpG g).cnt=cntE (eG g):=rfl;have hef:zI (encN lb)=true:=zt;refine Gw2 hef @zx ?_;intros
 (repeat first|simp(disch:=try exact dis1) only[evD,Xb,Xc,Xd,encNN,hkg,Wl,Wu]|with_reducible first|intro _|refine aJ ?_)
 refine Gw2 @ue @ub ?_;intros;generalize hks:zdw (eG g) k=b at hkd Y hr hnd t hkg z hk1;generalize hbo:zgl (eG g) k=bo at hbl X
 refine zf (λs:Nat×Nat×Nat=>([(0,.ptr 0 0 0 0 0),(1,.int .i64 (k:Int)),(3,zc bo),(7,encP 5 (encN lb)),(9,encP 3 [.int .i64 c.f,.int .i64 c.h,.int .i64 c.x]),(10,.ptr 2 0 0 0 0),(11,.own 3 0 s.2.1 0 (aftG (shpG g) k (b.take s.1)).length),(12,.own 4 0 s.2.2 0 (resG (shpG g) k (b.take s.1)).length),(28,zc b),(29,.int .i64 b.length),(30,.int .i64 s.1)],bldH g [(2,.row 5 [zN] 0),(3,.row 1 ((aftG (shpG g) k (b.take s.1)).map cN) s.2.1),(4,.row 1 ((resG (shpG g) k (b.take s.1)).map cN) s.2.2)])) 5
  (λs=>s.1<=b.length) (λs=>b.length-s.1) (0,0,0) (Wg _) ?start ?_
 case start=>have W:aftG (shpG g) k (b.take 0)=[]:=rfl;have h2:resG (shpG g) k (b.take 0)=[]:=rfl;unfold bldH;exact(Xe [(0,0,0),(1,1,0),(2,2,0),(3,3,0),(4,4,0)] [] rfl rfl rfl (by((try simp only[evWB,Xb,Xc,Xg,Xd,Xh,implies_true,zc,encP,zN,W,h2])<;>(repeat' with_reducible apply Wa)<;>first|(first|exact Xk zQ|exact zq rfl;done)|exact fin6)) (by((try simp only[evWB,Xb,Xc,Xg,Xd,Xh,implies_true,zc,encP,zN,W,h2])<;>(repeat' with_reducible apply Wa)<;>first|(first|exact Xk zQ|exact zq rfl;done)|exact fin6)))
 rintro⟨i,γ,B⟩ hi wf;simp only at hi;clear wf;refine dcU zex.eq_1 ?_;by_cases M:i<b.length
 case neg=>
  obtain rfl:i=b.length:=by omega
  rw[WW];have u:=ziv g y (resG (shpG g) k b) (by have:=zs3 (S:=shpG g) (k:=k) (l:=b);omega) (λx o=>t x (zxI o));have O:zan (shpG g) k=plG (shpG g) (resG (shpG g) k b):=by rw[zv7,hr]
  have hil:inlL (shpG g) k=inG (shpG g) (resG (shpG g) k b):=by rw[zFI,hr]
  have hps:∀x∈zan (shpG g) k,x∈b:=λx o=>by rw[O]at o;exact zxI (Ws.1 o).1
  have N:∀x∈inlL (shpG g) k,x∈b:=λx o=>by rw[hil]at o;exact zxI (Ws.1 o).1
  rw[<-O,<-hil]at u;have D:(zan (shpG g) k).length<=1000:=by rw[O];have:=zxb (S:=shpG g) (l:=resG (shpG g) k b);have:=zs3 (S:=shpG g) (k:=k) (l:=b);omega
  have hlst:(shpG g).last k=zhS g k:=rfl;have hone:(shpG g).one k=oneG g k:=rfl;unfold zwF inC;rw[zLL,hlst,hone,Y];have J:=zDl (S:=shpG g) (k:=k) (l:=b);have P:=zs3 (S:=shpG g) (k:=k) (l:=b);have has:=λx (o:x∈aftG (shpG g) k b)=>zDG o
  generalize zan (shpG g) k=V at u hps D⊢;generalize inlL (shpG g) k=il at u N⊢;generalize aftG (shpG g) k b=q at J has⊢;generalize resG (shpG g) k b=re at u P⊢;obtain⟨v,U⟩:∃v,v=(zbf q c).f:=⟨_,rfl⟩;rw[<-U];have hfi:=zkd V ⟨k,k,v⟩;have htr:=zgo g y cd k A il (zbf V ⟨k,k,v⟩) (λx o=>z x (N x o));have Z:=zfk g cd V D ⟨k,k,v⟩ (λx o=>z x (hps x o));have C:=zfk g cd q (by omega) c (λx o=>z x (has x o));have h3:=zGy (s:=zhS g k) (cd:=cd) (inl:=il) (c:=zbf V ⟨k,k,v⟩) (λx o=>hk1 x (N x o) _);generalize trZ (zhS g k) cd il (zbf V ⟨k,k,v⟩)=tr at htr h3⊢;have hchl:=zn1 (code:=cd) (c:=⟨k,k,v⟩) (l:=V);generalize zbP cd ⟨k,k,v⟩ V=ch at Z hchl⊢;have K:=zn1 (code:=cd) (c:=c) (l:=q);generalize zbP cd c q=ch2 at C K⊢;unfold bldH;refine Gw1 @dF ?_;intros;refine zaL [(0,.ptr 0 0 0 0 0),(1,.int .i64 (k:Int)),(7,encP 5 (encN lb)),(9,encP 3 [.int .i64 c.f,.int .i64 c.h,.int .i64 c.x]),(10,.ptr 2 0 0 0 0),(11,zc q),(12,zc re)] (bldH g [(2,.row 5 [zN] 0)]) 3 λ_=>⟨?_,?_⟩
  .unfold bldH;exact(Xe [(0,0,0),(1,1,0),(2,2,0)] [3,4] rfl rfl rfl (QC @ub @uj) (QC @ub @uj))
  unfold zeA bldH;refine Gw1 @ub ?_;intros;refine zad (u _ _ (Xa (by omega) (by omega) (zaa rfl) (Xf (by omega)))) ?_;rintro _ _ _ ⟨rfl,rfl,rfl⟩;unfold bldH;rcases q with _|⟨a,q⟩
  case' cons=>have hga:((a::q).map λ(n:Nat)=>[Xi .i64 (n:Int)]).getD 0 []=[.int .i64 (a:Int)]:=rfl
  case' nil=>have L:zc ([]:List Nat)=encL 1 (λ(n:Nat)=>[Xi .i64 (n:Int)]) []:=rfl
  case' cons=>have L:zc (a::q)=encL 1 (λ(n:Nat)=>[Xi .i64 (n:Int)]) (a::q):=rfl
  case' nil=>refine Gw3 L @ug @dF ?_;intros
  case' cons=>(repeat first|simp(disch:=try exact dis1) only[evD,Xb,Xc,Xd,L,Wd,dT,hga,Int.toNat_zero]|with_reducible first|intro _|refine aJ ?_)
  case' nil=>obtain rfl:v=c.f:=U
  case' cons=>obtain rfl:v=(a:Int):=U
  all_goals refine zd (ze hfi rfl) ?_
  all_goals(refine Gw0 ?_;intros;try with_reducible exact trivial)
  all_goals refine zad (htr _ _ (Xa (by omega) (by omega) (zaa rfl) (Xa (by omega) (by omega) (zaa rfl) (Xf (by omega))))) ?_
  all_goals rintro _ _ _ ⟨rfl,rfl,rfl⟩
  all_goals unfold bldH
  all_goals(refine Gw1 @zx ?_;intros;try with_reducible exact trivial)
  all_goals refine zad (Z _ _ (Xa (by omega) (by omega) (zaa rfl) (Xa (by omega) (by omega) (zaa rfl) (Xa (by omega) (by omega) (zdd (zaU zt)) (Xf (by omega)))))) ?_
  all_goals rintro _ _ _ ⟨rfl,rfl,rfl⟩
  all_goals unfold bldH
  all_goals(refine Gw0 ?_;intros;try with_reducible exact trivial)
  case' nil=>refine zaL [(0,.ptr 0 0 0 0 0),(1,.int .i64 (k:Int)),(7,encP 5 (encN lb)),(9,encP 3 [.int .i64 c.f,.int .i64 c.h,.int .i64 c.x]),(10,.ptr 2 0 0 0 0),(11,zc []),(19,encP 5 (encN tr)),(20,encL 5 encN ch)] (bldH g [(2,.row 5 [zN] 0)]) 3 λ_=>⟨?_,?_⟩
  case' cons=>refine zaL [(0,.ptr 0 0 0 0 0),(1,.int .i64 (k:Int)),(7,encP 5 (encN lb)),(9,encP 3 [.int .i64 c.f,.int .i64 c.h,.int .i64 c.x]),(10,.ptr 2 0 0 0 0),(11,zc (a::q)),(19,encP 5 (encN tr)),(20,encL 5 encN ch)] (bldH g [(2,.row 5 [zN] 0)]) 3 λ_=>⟨?_,?_⟩
  all_goals first
   |exact zq7 g y k A c lb tr ch ch2 _ rfl (by omega) (by omega) h3 C
   |(
     unfold bldH
     exact(Xe [(0,0,0),(1,1,0),(2,2,0)] [3,4] rfl rfl rfl (QB @ub @uj) (by((try simp only[evWB,Xb,Xc,Xg,Xd,Xh,implies_true,encP,zN])<;>(repeat' with_reducible apply Wa)<;>first|(first|exact zq rfl|exact zxP rfl rfl;done)|exact fin6))))
 have o:=t _ (Wm M);have T:b[i]∉b.take i:=λh=>by obtain⟨j,hj,e⟩:=List.getElem_of_mem h;rw[WA]at hj;rw[WI]at e;have:=(List.getElem_inj hnd).1 e;omega
 have Q:b.take (i+1)=b.take i++[b[i]]:=WX M;have hgi:(b.map λ(n:Nat)=>[Xi .i64 (n:Int)]).getD i []=[.int .i64 (b[i]:Int)]:=zg (f:=cN) (d:=[]) M;have J:=zDl (S:=shpG g) (k:=k) (l:=b.take i);have P:=zs3 (S:=shpG g) (k:=k) (l:=b.take i);rw[WA]at J P;generalize b[i]=x at o T Q hgi;have hge:(((Wc g.blocks.length).map (cntE (eG g))).map λ(n:Nat)=>[Xi .i64 (n:Int)]).getD x []=[.int .i64 (cntE (eG g) x:Int)]:=by rw[zg (by simp;exact o)];simp
 have hcon:=zdh bo x;have m:beyC (shpG g) k (aftG (shpG g) k (b.take i)) x=true->aftG (shpG g) k (b.take (i+1))=aftG (shpG g) k (b.take i)++[x]/\resG (shpG g) k (b.take (i+1))=resG (shpG g) k (b.take i):=λh=>by rw[Q];exact⟨zCW h,zKh h T⟩
 have p:beyC (shpG g) k (aftG (shpG g) k (b.take i)) x=false->aftG (shpG g) k (b.take (i+1))=aftG (shpG g) k (b.take i)/\resG (shpG g) k (b.take (i+1))=resG (shpG g) k (b.take i)++[x]:=λh=>by rw[Q];exact⟨zIf h,zNK h T⟩
 unfold beyC at m p;rw[X,hcnt]at m p;unfold bldH;refine Gw3 @dT @ue hgi ?_;intros;refine zd (ze hcon rfl) ?_;by_cases R:x∈bo
 .obtain⟨F,H⟩:=p (by rw[decide_eq_true R];rfl);rw[decide_eq_true R];clear m p;refine Gw2 @dT @dF ?_;intros;exact⟨(i+1,γ,B+1),by simp only;omega,by simp only;omega,by rw[F,H];exact(Xe [(0,0,0),(1,1,0),(2,2,0),(3,3,0),(4,4,0)] [] rfl rfl rfl Qs Qs)⟩
 rw[decide_eq_false R]at m p⊢;by_cases h0:(aftG (shpG g) k (b.take i)).length=0
 .have hem:aftG (shpG g) k (b.take i)=[]:=List.length_eq_zero_iff.1 h0;obtain⟨F,H⟩:=m (by rw[hem];rfl);clear m p;have w:(((aftG (shpG g) k (b.take i)).length:Nat):Int)=0:=by omega
  refine Gw3 @dT @dF w ?_;intros;exact⟨(i+1,γ+1,B),by simp only;omega,by simp only;omega,by rw[F,H];exact(Xe [(0,0,0),(1,1,0),(2,2,0),(3,3,0),(4,4,0)] [] rfl rfl rfl Qs Qs)⟩
 have hne:(aftG (shpG g) k (b.take i)).isEmpty=false:=by cases hh2:aftG (shpG g) k (b.take i)with
  |nil=>rw[hh2]at h0;exact absurd rfl h0
  |cons a l=>rfl
 have w:¬(((aftG (shpG g) k (b.take i)).length:Nat):Int)=0:=by omega
 rw[hne]at m p;by_cases W:cntE (eG g) x=1
 .obtain⟨F,H⟩:=p (by simp[W]);clear m p;have I:((cntE (eG g) x:Nat):Int)=1:=by omega
  (repeat first|simp(disch:=try exact dis1) only[evD,Xb,Xc,Xd,dT,dF,w,hge,Wl,Wu]|with_reducible first|intro _|refine aJ ?_)
  refine Gw3 @dT @dF I ?_;intros;exact⟨(i+1,γ,B+1),by simp only;omega,by simp only;omega,by rw[F,H];exact(Xe [(0,0,0),(1,1,0),(2,2,0),(3,3,0),(4,4,0)] [] rfl rfl rfl Qs Qs)⟩
 .obtain⟨F,H⟩:=m (by simp[W]);clear m p;have I:¬((cntE (eG g) x:Nat):Int)=1:=by omega
  (repeat first|simp(disch:=try exact dis1) only[evD,Xb,Xc,Xd,dT,dF,w,hge,Wl,Wu]|with_reducible first|intro _|refine aJ ?_)
  refine Gw3 @dT @dF I ?_;intros;exact⟨(i+1,γ+1,B),by simp only;omega,by simp only;omega,by rw[F,H];exact(Xe [(0,0,0),(1,1,0),(2,2,0),(3,3,0),(4,4,0)] [] rfl rfl rfl Qs Qs)⟩
theorem zpe(g:G)(p:OkB g)(b:Nat->Ctx->Nd)(k:Nat)(s:k∈ordE (eG g))(q:zoB (eG g) k=true)(m:∀x∈zdw (eG g) k,ztP g b x)(n:∀x∈zdw (eG g) k,∀c,(b x c).f.kind=1)(c:Ctx):
  zla g zX [.int .i64 (k:Int),ctxA c] (.agg (encN (nSeq (zax 10 0 k::zwF (shpG g) b k c::zbP b c (beyL (shpG g) k))))):=by
 refine zhX ?_ rfl flA;have e:=zjl g p b k s q m n c (zax 10 0 k);generalize nSeq (zax 10 0 k::zwF (shpG g) b k c::zbP b c (beyL (shpG g) k))=t at e⊢;refine zaK (fn_x zfO rfl ?_);unfold zdo bldH ctxA;have u:=hBig;refine Gw0 ?_;intros;refine zaL [(0,.ptr 0 0 0 0 0),(1,.int .i64 (k:Int)),(5,encP 3 [.int .i64 c.f,.int .i64 c.h,.int .i64 c.x]),(6,.ptr 2 0 0 0 0),(7,encP 5 (encN (zax 10 0 k)))] (bldH g [(2,.row 5 [zN] 0)]) 3 λ_=>⟨?_,?_⟩
 .unfold bldH;exact(Xe [(0,0,0),(1,1,0),(2,2,0)] [3] rfl rfl rfl (QA @ub @uj) (QA @ub @uj))
 unfold zcB bldH;conv in Z8 _ _=>reduce
 have d:boM (eG g) (hdL (eG g))=[.int .i64 ((hdL (eG g)).length:Int),.undef,.undef]::(hdL (eG g)).zipIdx.map (cBo (eG g)):=rfl;obtain⟨j,o⟩:=(zs6 (E:=eG g) (k:=k) (l:=(hdL (eG g)).zipIdx) (i:=0)).2 (by rw[WV];exact(zDf p s).2 q);rw[d]
 (repeat first|simp(disch:=try exact dis1) only[evD,Xb,Xc,Xd,o,Option.isSome_some]|with_reducible first|intro _|refine aJ ?_)
 rw[<-d];refine Gw2 @ub @zC ?_;intros;refine zad (e _ _ (Xa (by omega) (by omega) (zaa rfl) (Xf (by omega)))) ?_;rintro _ _ _ ⟨rfl,rfl,rfl⟩;unfold bldH;refine Gw2 @zx @zdp.eq_1 ?_;intros;exact zfg (zV flA)
theorem zjB(g:G)(b:OkB g):∀(f k:Nat),k∈ordE (eG g)->(ordE (eG g)).length<=f+(ordE (eG g)).idxOf k->ztP g (zeS (shpG g) f) k
 |
  0,k,hk,h=>by
  have:=List.idxOf_lt_length_iff.2 hk;omega
 |
  f+1,k,hk,h=>by
  obtain⟨T,D⟩:=Dm.dtree_ex (zac b).ok (zac b).pos;have R:=zzg (zac b) (one:=oneG g) D;have d:∀x∈zdw (eG g) k,ztP g (zeS (shpG g) f) x:=λx o=>by obtain⟨m,n⟩:=(R.kid k x).1 o;have:=R.down k x hk m n;exact zjB g b f x m (by omega)
  intro c;rw[zeS]
  cases j:zoB (eG g) k with
  |true=>have e:(shpG g).head k=true:=j;rw[if_pos e];exact zpe g b _ k hk j d (λx _ c=>by rw[zhs]) c
  |false=>
   have e:¬(shpG g).head k=true:=by show ¬zoB (eG g) k=true;rw[j];exact Bool.false_ne_true
   rw[if_neg e];exact zpn g b _ k hk j d c
def usK(b:List (Int×Int))(x:Int):Bool:=decide (x∈b.map (·.1))
abbrev mpR(c:Int)(ps:List (Int×Int)):AObj:=.row 3 ([.int .i64 c,.undef,.undef]::(enL ps).map cm) 0
theorem zeq{c:Int}{b:List (Int×Int)}:zy ([Xi .i64 c,.undef,.undef]::(enL b).map cm):=zaz rfl (zU zng)
theorem pr_ret{M:List (List AV)}(c:zy M){H:AH}{nx:Nat}{v a:AV}(d:H.look 0=some (.row 3 M 0))(e:Vw H [(0,.row 3 M 0)] (zsK 1) (λr _=>1<=r) true v a):zwh 1 (λv H n=>v=a/\H=[(0,.row 3 M 0)]/\n=1) v H nx:=by
 refine⟨a,[(0,.row 3 M 0)],1,Ent.lowF (Wn _) (λr o h=>?_) ⟨⟨by omega,zdd c⟩,trivial⟩ ⟨e,trivial⟩,rfl,rfl,rfl⟩;simp only[AH.look]at h
 cases b:Xs 0 r with
 |true=>rw[b]at h;have:=Nat.eq_of_beq_eq_true b;subst this;rw[d];exact h
 |false=>rw[b]at h;cases h
theorem zvC{M:List (List AV)}(d:zy M){H:AH}{r nx:Nat}{a b:AV}(m:r<nx)(k:H.look r=some (.row 3 M 0))(g:a.flat=true)(j:b.flat=true)(h:z7 Z9 zaX [a,.mp 0 0] [(0,.row 3 M 0)] 1 (λv H n=>v=b/\H=[(0,.row 3 M 0)]/\n=1)) :
  z7 Z9 zaX [a,.mp r 0] H nx (λv c n=>v=b/\c=H.cutL [r]++[(r,.row 3 M 0)]/\n=nx+1):=by
 refine zaV [(0,r,0)] 1 _ h rfl ?_ ?_ ?_ ?_
 .show (Xt r nx&&Xs 0 0 && !(memN [] 0)&&true)=true;have e:Xt r nx=true:=by rw[Nat.blt_eq];exact m
  rw[e];rfl
 .refine⟨rfl,⟨M,?_,Xk d⟩,trivial⟩;unfold AH.get;rw[k];rfl
 .exact⟨zV g,.mp _ _ _ _ rfl,trivial⟩
 .rintro v c p ⟨rfl,rfl,rfl⟩;refine⟨zuH j,?_,rfl⟩;have o:Tab.to [(0,r,0)] nx 0=r:=rfl;unfold AH.over;simp only[AH.renL,o,AObj.ren,zgq d,Wr,Wq]
theorem zy9{K:Int->Bool}{l:List Nd}{i:Nat}(h:i<l.length):zb9 K (l.drop i)=if l[i].f.kind=10/\K l[i].f.label=false then zb9 K (l.drop (i+1))else zf8 K l[i]::zb9 K (l.drop (i+1)):=by rw[WS h,zb9]
theorem zv0{x:Nd}:∀{l:List Nd},x∈l->zap x<=zY l
 |
  y::l,h=>by
  rw[zY];rcases WB.1 h with rfl|h
  .omega
  .have:=zv0 h;omega
theorem zqN:∀n:Nd,(encN n).getD 2 .undef=.int .i64 n.f.label
 |.mk f c l=>by rw[zaI];rfl
theorem QD{e g j k m n o p:Prop}(a0:e)(b:g)(c:j)(a3:k)(a4:m)(a5:n)(d:o)(h:e->g->j->k->m->n->o->p:=by intro a0 b c a3 a4 a5 d;(try simp only[evWB,Nat.reduceBEq,Nat.reduceAdd,Nat.reduceSub,Nat.reduceLeDiff,Nat.reduceLT,implies_true,a0,b,c,a3,a4,a5,d])<;>(repeat' with_reducible apply And.intro)<;>first|(first|exact RowV.of_flat zeq|exact zq rfl|exact RowV.of_flat (zU λ_=>zt);done)|exact fin6):p:=h a0 b c a3 a4 a5 d
theorem QE{e g j k m n o p:Prop}(a0:e)(b:g)(c:j)(a3:k)(a4:m)(a5:n)(d:o)(h:e->g->j->k->m->n->o->p:=by intro a0 b c a3 a4 a5 d;(try simp only[evWB,Nat.reduceBEq,Nat.reduceAdd,Nat.reduceSub,Nat.reduceLeDiff,Nat.reduceLT,implies_true,a0,b,c,a3,a4,a5,d])<;>(repeat' with_reducible apply And.intro)<;>first|(first|exact RowV.of_flat zeq|exact zq rfl|exact Vw.mp _ _ _ _ rfl;done)|exact fin6):p:=h a0 b c a3 a4 a5 d
theorem zkm(c:Int)(b:List (Int×Int)):∀(f:Nat)(n:Nd),zap n<=f->f<=100000->z7 Z9 zaX [.agg (encN n),.mp 0 0] [(0,mpR c b)] 1 (λv H nx=>v=.agg (encN (zf8 (usK b) n))/\H=[(0,mpR c b)]/\nx=1)
 |0,n,h,_=>by have:=ztl n;omega
 |
  f+1,.mk fd cs l,h,hf=>by
  have J:∀x∈l,z7 Z9 zaX [.agg (encN x),.mp 0 0] [(0,mpR c b)] 1 (λv H nx=>v=.agg (encN (zf8 (usK b) x))/\H=[(0,mpR c b)]/\nx=1):=λx B=>by have:=zv0 B;rw[zap]at h;exact zkm c b f x (by omega) (by omega)
  have P:l.length<=100000:=by have:=zde l;rw[zap]at h;omega
  refine zaK (fn_x zqX rfl ?_);refine dcU zke.eq_1 ?_;have Q:=hBig;have u:zI (encN (.mk fd cs l))=true:=zt;rw[zf8];generalize C:usK b=K;rw[zaI fd cs l]at u⊢;refine Gw1 u ?_;intros
  refine zf (λs:List Nd×Nat×Nat=>([(1,.mp 0 0),(2,.ptr 1 0 0 0 0),(4,.ptr 2 0 0 0 0),(5,.own 3 0 s.2.2 0 s.1.length),(9,encL 5 encN l),(10,.int .i64 l.length),(11,.int .i64 s.2.1)],[(0,mpR c b),(1,.row 5 [[.int .i64 fd.kind,.int .i64 fd.block,.int .i64 fd.label,encL 5 encX cs,encL 5 encN l]] 0),(2,.row 5 [zN] 0),(3,.row 5 (s.1.map encN) s.2.2)])) 4
   (λs=>s.2.1<=l.length/\s.1.length<=s.2.1/\s.1++zb9 K (l.drop s.2.1)=zb9 K l) (λs=>l.length-s.2.1) ([],0,0) ⟨Wg _,Wg _,rfl⟩ ?start ?_
  case start=>exact(Xe [(0,0,0),(1,1,0),(2,2,0),(3,3,0)] [] rfl rfl rfl (by((try simp only[evWB,Xb,Xc,Xg,Xd,Xh,implies_true,zN,Wq,Wf])<;>(repeat' with_reducible apply Wa)<;>first|(first|exact Xk zeq|exact zq rfl|exact Xk (zU λ_=>zt);done)|exact fin6)) (by((try simp only[evWB,Xb,Xc,Xg,Xd,Xh,implies_true,zN,Wq,Wf])<;>(repeat' with_reducible apply Wa)<;>first|(first|exact Xk zeq|exact zq rfl|exact Vw.mp _ _ _ _ rfl;done)|exact fin6)))
  rintro⟨M,i,γ⟩ ⟨N,I,e⟩ wf;simp only at N I e;clear wf;refine dcU zhI.eq_1 ?_;by_cases p:i<l.length;case neg=>rw[WU (by omega),zb9,Wt]at e;subst e;refine Gw1 @dF ?_;intros;refine dcU zh0.eq_1 ?_;refine Gw1 @zkJ.eq_1 ?_;intros;refine pr_ret zeq rfl ?_;rw[zaI,zjb];exact⟨.int _ _ _,.int _ _ _,.int _ _ _,zV rfl,zuI rfl (show 1<=3 by omega) rfl (by omega),trivial⟩
  have k:=zg (f:=encN) (d:=[]) p;have B:=J _ (Wm p);rw[zy9 p]at e;generalize l[i]=x at k B e;have o:zI (encN x)=true:=zt;have y:∀(w:Nd) H,zdx 5 (encL 5 encN [w]) H=some [encN w]:=λw H=>zcI (λ_ _=>zx)
  have g:∀G,z7 Z9 zaX [.agg (encN x),.mp 0 0] [(0,mpR c b),(1,.row 5 [[.int .i64 fd.kind,.int .i64 fd.block,.int .i64 fd.label,encL 5 encX cs,encL 5 encN l]] 0),(2,.row 5 [zN] 0),(3,.row 5 (M.map encN) G),(4,.row 5 [encN x] 0)] 5 (λv H n=>v=.agg (encN (zf8 K x))/\H=[(1,.row 5 [[.int .i64 fd.kind,.int .i64 fd.block,.int .i64 fd.label,encL 5 encX cs,encL 5 encN l]] 0),(2,.row 5 [zN] 0),(3,.row 5 (M.map encN) G),(4,.row 5 [encN x] 0),(0,mpR c b)]/\n=6):=λG=>by rw[<-C];exact zvC zeq (by omega) rfl flA flA B
  have q:∀w:Nd,(M++[w]).length=M.length+1:=λw=>by simp
  by_cases z:x.f.kind=10;case neg=>rw[if_neg (λh=>z h.1)]at e;refine Gw8 @dT @dF k @zei @zC @zek @zx o ?_;intros;refine zad (g _) ?_;rintro _ _ _ ⟨rfl,rfl,rfl⟩;refine Gw4 @rbN1 y @ui @ug ?_;intros;exact⟨(M++[zf8 K x],i+1,γ+1),⟨by simp only;omega,by simp only[q];omega,by simp only[Wv,WY];exact e⟩,by simp only;omega,(Xe [(0,0,0),(1,1,0),(2,2,0),(3,3,0)] [] rfl rfl rfl (QD @uj @m9A @m9P @ui @ug @m9C @m9N) (QE @uj @m9A @m9P @ui @ug @m9C @m9N))⟩
  have t:[Xi .i64 10,(encN x).getD 1 .undef,.int .i64 x.f.label,(encN x).getD 3 .undef,(encN x).getD 4 .undef]=encN x:=by
   have L:Xi .i64 10=(encN x).getD 0 .undef:=by rw[zei,z]
   rw[L,<-zqN,zC]
  by_cases A:x.f.label∈b.map (·.1)
  .have F:K x.f.label=true:=by rw[<-C];exact decide_eq_true A
   rw[if_neg (λh=>by rw[F]at h;exact absurd h.2 (by decide))]at e;obtain⟨j,R,O,m⟩:=zuP A;refine Gw12 @dT @dF k z m @zei @zC @zek @zqN t @zx o ?_;intros;refine zad (g _) ?_;rintro _ _ _ ⟨rfl,rfl,rfl⟩;refine Gw4 @rbN1 y @ui @ug ?_;intros;exact⟨(M++[zf8 K x],i+1,γ+1),⟨by simp only;omega,by simp only[q];omega,by simp only[Wv,WY];exact e⟩,by simp only;omega,(Xe [(0,0,0),(1,1,0),(2,2,0),(3,3,0)] [] rfl rfl rfl (QD @uj @m9A @m9P @ui @ug @m9C @m9N) (QE @uj @m9A @m9P @ui @ug @m9C @m9N))⟩
  .have D:K x.f.label=false:=by rw[<-C];exact decide_eq_false A
   rw[if_pos ⟨z,D⟩]at e;have m:=zrD A;refine Gw12 @dT @dF k z m @zei @zC @zek @zqN t @zx o ?_;intros;exact⟨(M,i+1,γ),⟨by simp only;omega,by simp only;omega,e⟩,by simp only;omega,(Xe [(0,0,0),(1,1,0),(2,2,0),(3,3,0)] [] rfl rfl rfl (by((try simp only[evWB,Xb,Xc,Xg,Xd,Xh,implies_true,zN])<;>(repeat' with_reducible apply Wa)<;>first|(first|exact Xk zeq|exact zq rfl|exact Xk (zU λ_=>zt);done)|exact fin6)) (by((try simp only[evWB,Xb,Xc,Xg,Xd,Xh,implies_true,zN])<;>(repeat' with_reducible apply Wa)<;>first|(first|exact Xk zeq|exact zq rfl|exact Vw.mp _ _ _ _ rfl;done)|exact fin6)))⟩
end Go.Ab
namespace Go.Ab
open Go.RowKit Go.Proofs
section
variable {S:Shp}{R:List Nat}{T:Nat->Option Nat}
def wAll(_:NdF)(_:List Ex):Nat:=1
mutual
theorem zLN:∀n:Nd,wN wAll n=zap n
 |.mk f c l=>by rw[wN,zap,zH2 l];rfl
theorem zH2:∀l:List Nd,wNs wAll l=zY l
 |[]=>by rw[wNs,zY]
 |x::l=>by rw[wNs,zY,zLN x,zH2 l]
end
theorem zDL(c:Ctx)(t:Int):wN wAll (zeJ c t)=1:=by
 unfold zeJ;split
 .rfl
 split
 .rfl
 split<;>rfl
theorem zIM{α:Type}{g:α->Nat}:∀{l:List α},(∀x∈l,g x=1)->(l.map g).sum=l.length
 |[],_=>rfl
 |
  a::l,h=>by
  rw[Wr,List.sum_cons,h a WJ,zIM λx b=>h x (WC _ b),Wd];omega
theorem zJo{x v:Nat}(h:OwnP wAll S x v):v<=6+(tgS (S.last x)).length:=by
 have d:∀c,trW wAll S x c<=1+(tgS (S.last x)).length:=λc=>by
  unfold trW;rw[zIM λt _=>zDL c t];have:=List.length_filter_le (λ(t:Int)=> !decide (t.toNat∈inlL S x)) (tgS (S.last x))
  have g:(if (S.last x).op=6 then 0 else if (S.last x).op=7 then wAll ⟨3,0,0⟩ (S.last x).e else if (S.last x).op=8 then wAll ⟨6,0,0⟩ (S.last x).e else if (S.last x).op=9 then wAll ⟨11,0,0⟩ []else wAll ⟨12,0,0⟩ [])<=1:=by
   unfold wAll
   repeat' split
   all_goals omega
  omega
 unfold OwnP at h;obtain⟨c0,⟨_,b⟩|⟨_,b⟩|⟨_,_,_,b⟩⟩:=h
 .have:=d (zbf (zan S x) c0);simp only[wAll]at b;omega
 .have:=d (zbf (zan S x) (inC S x c0));simp only[wAll]at b;omega
 .have:=d (zbf (zan S x) (inC S x c0));simp only[wAll]at b;omega
theorem zv3{g:Nat->Nat}{m:Nat}:∀{l:List Nat},(∀x∈l,g x<=m)->(l.map g).sum<=l.length*m
 |[],_=>Wg _
 |
  a::l,h=>by
  rw[Wr,List.sum_cons,Wd,Nat.succ_mul];have:=h a WJ;have:=zv3 λx b=>h x (WC _ b)
  omega
theorem zGZ(D:Tr S R T)(P:Top R T){n m:Nat}(c:R.length<=n)(b:∀x∈R,(tgS (S.last x)).length<=m):zap (bldN S n)<=R.length*(6+m):=by rw[<-zLN];refine WD (zMP D P wAll (λx=>6+(tgS (S.last x)).length) (λx _ v h=>zJo h) c c0) (zv3 λx d=>?_);have:=b x d;omega
end
theorem zub:∀{l:List St},zh7 l=0->∀s∈l,s.check=0
 |
  a::l,h,s,c=>by
  rw[zh7]at h;split at h
  .rename_i b;exact absurd h b
  .rename_i b;rcases WB.1 c with rfl|c
   .exact Classical.not_not.1 b
   .exact zub h s c
theorem ztJ:∀{l:List Bl},zlc l=0->∀b∈l,zh7 b.stmts=0
 |
  a::l,h,s,d=>by
  rw[zlc]at h;split at h
  .rename_i c;exact absurd h c
  .rename_i c;rcases WB.1 d with rfl|d
   .exact Classical.not_not.1 c
   .exact ztJ h s d
theorem zql{g:G}(h:zfa g=0):0<g.blocks.length/\(∀b∈g.blocks,zeR b.stmts g.blocks.length=true)/\∀b∈g.blocks,∀s∈b.stmts,s.check=0:=by
 unfold zfa at h;split at h
 .rename_i c;rw[Wk,Wx]at c;refine⟨?_,c.2,λb d=>zub (ztJ h b d)⟩
  cases d:g.blocks with
  |nil=>rw[d]at c;simp at c
  |cons a l=>simp
 .omega
theorem zud{s:St}(h:s.check=0):zal s.op=s.e.length:=by
 unfold St.check zsv at h;split at h
 .omega
 .rename_i b;exact Classical.not_not.1 λc=>b (.inr c)
theorem zBp{g:G}(k:fewG g=true)(o:zfa g=0):OkB g:=by
 obtain⟨p,j,q⟩:=zql o;obtain⟨z,d⟩:=zdK k;refine⟨zry k,p,λb c e=>?_,λb c t w=>?_,λb c s h B=>?_,λb c s h=>?_,λb c=>?_⟩
 .have:=j b c;unfold zeR at this;rw[e]at this;simp at this
 .have:=j b c;unfold zeR at this;rw[Wk,Wk,Wx]at this;have:=this.2.2 t w;unfold inN at this;exact of_decide_eq_true this
 .have m:=WR h;have A:=zud (q b c s m);have y:zal s.op=1:=by unfold zal;rw[if_neg (by omega),if_pos (by omega)]
  obtain⟨x,n⟩:∃x,s.e=[x]:=List.length_eq_one_iff.1 (by omega);refine⟨x,n,?_⟩;have v:=((d b c).2 s m).2.2;have u:=zpA (x:=x) v (by rw[n];exact WJ);have:=zpf x 70 200 u;omega
 .have:=((d b c).2 s h).1;omega
 .have:=(d b c).1;omega
theorem zBm{g:G}(b:fewG g=true)(k:Nat)(c:k<g.blocks.length):(tgS (zhS g k)).length<=8:=by have h:=zjm (l:=(blG g k).stmts) (n:=8) (by omega) (λs d=>(((zdK b).2 _ (zfY c)).2 s d).1);rw[zs0]at h;exact h
theorem zDk{g:G}(c:fewG g=true)(d:zfa g=0){n:Nat}(e:(ordE (eG g)).length<=n):zap (bldN (shpG g) n)<=168:=by
 have b:=zBp c d;obtain⟨T,D⟩:=Dm.dtree_ex (zac b).ok (zac b).pos
 have h:zap (bldN (shpG g) n)<=(ordE (eG g)).length*(6+8):=zGZ (zzg (zac b) (one:=oneG g) D) (zwt (zac b) D) e (m:=8) (λx j=>by
  have:=zen (zac b) j;rw[zhL]at this
  exact zBm c x this)
 have k:=zFO b;have o:=(zdK c).1;have p:(ordE (eG g)).length*(6+8)<=12*(6+8):=Nat.mul_le_mul_right _ (by omega);omega
end Go.Ab
namespace Go.Ab
open Go.RowKit Go.Proofs Go.Ab.Dm
theorem zIc{g:G}{k:Nat}{c:Ctx}{n:Nd}(h:zla g zX [.int .i64 (k:Int),ctxA c] (.agg (encN n))){z:List (List AV)}:
  z7 Z9 zX [.ptr 1 0 0 0 0,.int .i64 (k:Int),ctxA c] [(0,.row 5 z 0),(1,.row 5 [[.int .u32 g.addr,encL 2 Xj g.blocks,encNN ((Wc g.blocks.length).map (zdw (eG g))),zc ((Wc g.blocks.length).map (cntE (eG g))),.mp 2 0]] 0),(2,.row 3 (boM (eG g) (hdL (eG g))) 0)] 3
   (λv H nx=>v=.agg (encN n)/\H=[(0,.row 5 z 0),(1,.row 5 [[.int .u32 g.addr,encL 2 Xj g.blocks,encNN ((Wc g.blocks.length).map (zdw (eG g))),zc ((Wc g.blocks.length).map (cntE (eG g))),.mp 2 0]] 0),(2,.row 3 (boM (eG g) (hdL (eG g))) 0)]/\nx=5):=by
 refine zaV [(0,1,0),(1,2,0)] 2 _ (h [] 2 TOk.nil) rfl rfl ?_ ?_ ?_
 .unfold bldH;refine⟨rfl,⟨_,rfl,?_⟩,rfl,⟨_,rfl,Xk zQ⟩,trivial⟩;rw[zxz];exact⟨.int _ _ _,zV rfl,zV rfl,zV rfl,.mp _ _ _ _ rfl,trivial⟩
 .exact⟨.ptr _ _ _ 0 _ _ _ _ _ rfl rfl,zV rfl,zV rfl,trivial⟩
 .rintro v o p ⟨rfl,rfl,rfl⟩;refine⟨zuH flA,?_,rfl⟩;have b:Tab.to [(0,1,0),(1,2,0)] 3 0=1:=rfl;have d:Tab.to [(0,1,0),(1,2,0)] 3 1=2:=rfl;have e:∀ρ,Xl ρ (encL 2 Xj g.blocks)=encL 2 Xj g.blocks:=λρ=>zdE rfl
  have j:∀ρ l,Xl ρ (Dm.encNN l)=Dm.encNN l:=λρ l=>zdE rfl
  have m:∀ρ l,Xl ρ (zc l)=zc l:=λρ l=>zdE rfl
  unfold AH.over bldH;simp only[AH.renL,b,d,AObj.ren,zgq zQ,Wr,Wq,Xl,e,j,m];rfl
theorem zMJ{g:G}(d:OkB g){z:List (List AV)}:
  z7 Z9 zbz [.agg g.cells] [(0,.row 5 z 0)] 1
   (λv H nx=>v=.ptr 1 0 0 0 0/\H=[(0,.row 5 z 0),(1,.row 5 [[.int .u32 g.addr,encL 2 Xj g.blocks,encNN ((Wc g.blocks.length).map (zdw (eG g))),zc ((Wc g.blocks.length).map (cntE (eG g))),.mp 2 0]] 0),(2,.row 3 (boM (eG g) (hdL (eG g))) 0)]/\nx=3):=by
 refine zaV [] 0 _ (zl4 g d) rfl rfl trivial ⟨zV rfl,trivial⟩ ?_;rintro v k m ⟨rfl,rfl,rfl⟩;have b:Tab.to [] 1 0=1:=rfl;refine⟨by simp only[Xl,b],?_,rfl⟩;have c:Tab.to [] 1 1=2:=rfl;have e:∀ρ,Xl ρ (encL 2 Xj g.blocks)=encL 2 Xj g.blocks:=λρ=>zdE rfl
 have h:∀ρ l,Xl ρ (Dm.encNN l)=Dm.encNN l:=λρ l=>zdE rfl
 have j:∀ρ l,Xl ρ (zc l)=zc l:=λρ l=>zdE rfl
 unfold AH.over bldH;simp only[AH.renL,b,c,AObj.ren,zgq zQ,Wr,Wq,Xl,e,h,j];rfl
theorem en_set{b:List (Int×Int)}{j:Nat}{k:Int}(g:j<b.length)(h:b[j].1=k):((enL b).map cm).set j [.int .i64 k,.bool true,(((enL b).map cm).getD j []).getD 2 .undef]=(enL b).map cm:=by
 have m:j<((enL b).map cm).length:=by simpa [enL]using g
 have e:((enL b).map cm)[j]=[.int .i64 b[j].1,.bool true,.int .i64 b[j].2]:=by simp[enL,cm]
 have c:[Xi .i64 k,.bool true,(((enL b).map cm).getD j []).getD 2 .undef]=((enL b).map cm)[j]:=by
  have d:((enL b).map cm).getD j []=((enL b).map cm)[j]:=by rw[List.getD_eq_getElem?_getD,WE m];rfl
  rw[d,e,h];rfl
 rw[c,List.set_getElem_self]
theorem zNg{ps:List (Int×Int)}{a b:Int}:(enL (ps++[(a,b)])).map cm=(enL ps).map cm++[[.int .i64 a,.bool true,.int .i64 b]]:=by unfold enL;rw[Wz,Wz];rfl
theorem QF{c d p:Prop}(a0:c)(b:d)(h:c->d->p:=by intro a0 b;(try simp only[evWB,Nat.reduceBEq,Nat.reduceAdd,Nat.reduceSub,Nat.reduceLeDiff,Nat.reduceLT,implies_true,a0,b])<;>(repeat' with_reducible apply And.intro)<;>first|(first|exact RowV.of_flat (zaU rfl)|exact RowV.of_flat zeq|exact zq rfl;done)|exact fin6):p:=h a0 b
theorem QG{c d p:Prop}(a0:c)(b:d)(h:c->d->p:=by intro a0 b;(try simp only[evWB,Nat.reduceBEq,Nat.reduceAdd,Nat.reduceSub,Nat.reduceLeDiff,Nat.reduceLT,implies_true,a0,b])<;>(repeat' with_reducible apply And.intro)<;>first|(first|exact zq rfl|exact Vw.mp _ _ _ _ rfl;done)|exact fin6):p:=h a0 b
theorem zqT(g:G)(D:fewG g=true):zo Z9 zbC [.agg g.cells] (·=if zfa g=0 then .tup [.agg (encN (bld (shpG g) (ordE (eG g)).length)),.int .i64 0]else .tup [.agg (encN (zax 0 0 0)),.int .i64 (zfa g)]):=by
 refine fn_x zqS rfl ?_;refine dcU zkn.eq_1 ?_;have Z:=hBig;have T:=zmM g (zty D) (zwc D);have v:g.cells.length=2:=rfl;have w:[g.cells.getD 0 .undef,g.cells.getD 1 .undef]=g.cells:=rfl;have u:zI g.cells=true:=rfl;refine Gw4 @ub v w u ?_;intros;refine zd (ze T rfl) ?_;by_cases o:zfa g=0;case neg=>rw[if_neg o];refine Gw2 @dT @zgN.eq_1 ?_;intros;refine⟨_,?_,rfl⟩;show Vw _ _ _ _ _ (Xp _) (Xp _);rw[zoc];exact⟨zrd,.int _ _ _,trivial⟩
 rw[if_pos o,o];have F:=zBp D o;have Y:0∈ordE (eG g):=Dm.z_mem (zac F).ok (zac F).pos;have p:=zjB g F (ordE (eG g)).length 0 Y (by omega) c0;have Q:=zDk D o (Wn (ordE (eG g)).length);unfold bld bldN at *;generalize zeS (shpG g) (ordE (eG g)).length 0 c0=N at p Q⊢;refine Gw5 @dF @ub v w u ?_;intros;refine zad (zMJ F) ?_;rintro _ _ _ ⟨rfl,rfl,rfl⟩;refine Gw0 ?_;intros;refine zad (zIc p) ?_;rintro _ _ _ ⟨rfl,rfl,rfl⟩;refine Gw2 @zx @zC ?_;intros;have S:=zfU N (by omega);refine zd (ze S (flN rfl)) ?_;have B:(allN N).length<=1000:=by rw[zn0];omega
 have n:∀x,zE4 N x=decide (x∈fm zm1 (allN N)):=λx=>by rw[zrM];rfl
 have M:=λc ps=>zkm c ps (zap N) N (Wn _) (by omega)
 generalize zE4 N=K at n⊢;generalize allN N=l at B n⊢;have X:mpR 0 []=.row 3 [[.int .i64 0,.undef,.undef]] 0:=rfl;refine Gw0 ?_;intros
 refine zf (λs:List (Int×Int)×Nat=>([(2,.ptr 0 0 0 0 0),(5,encP 5 (encN N)),(6,.mp 1 0),(21,encL 5 encN l),(22,.int .i64 l.length),(23,.int .i64 s.2)],[(0,.row 5 [zN] 0),(1,.row 3 ([.int .i64 s.1.length,.undef,.undef]::(enL s.1).map cm) 0)])) 2
  (λs=>(s.2<=l.length/\s.1.length<=s.2)/\∀x,x∈s.1.map (·.1)↔x∈fm zm1 (l.take s.2)) (λs=>l.length-s.2) ([],0) ⟨⟨Wg _,Wg _⟩,λx=>Iff.rfl⟩ ?start ?_
 case start=>have R:(enL []).map cm=[]:=rfl;exact(Xe [(0,0,0),(1,6,0)] [5] rfl rfl rfl (by((try simp only[evWB,Xb,Xc,Xg,Xd,Xh,implies_true,zN,encP,R,Wf])<;>(repeat' with_reducible apply Wa)<;>first|(first|exact Xk (zaU rfl)|exact zq rfl;done)|exact fin6)) (by((try simp only[evWB,Xb,Xc,Xg,Xd,Xh,implies_true,zN,encP,R,Wf])<;>(repeat' with_reducible apply Wa)<;>first|(first|exact zq rfl|exact zxP rfl rfl|exact Vw.mp _ _ _ _ rfl;done)|exact fin6)))
 rintro⟨ps,i⟩ ⟨⟨V,L⟩,hx⟩ wf;simp only at V L hx;clear wf;refine dcU zhV.eq_1 ?_;by_cases z:i<l.length
 case neg=>
  obtain rfl:i=l.length:=by omega
  rw[WW]at hx;have U:usK ps=K:=funext λx=>by rw[n];unfold usK;rw[Ww,decide_eq_true_iff,decide_eq_true_iff];exact hx x
  have C:=zvC (H:=[(0,.row 5 [zN] 0),(1,mpR ps.length ps)]) (r:=1) (nx:=2) zeq (by omega) rfl flA flA (M ps.length ps);rw[U]at C;refine Gw1 @dF ?_;intros;refine dcU zhN.eq_1 ?_;refine Gw3 @ub @zC @zx ?_;intros;refine zad C ?_;rintro _ _ _ ⟨rfl,rfl,rfl⟩;have q:AH.cutL [1] [(0,AObj.row 5 [zN] 0),(1,mpR ps.length ps)]=[(0,.row 5 [zN] 0)]:=rfl;rw[q]
  (repeat first|simp(disch:=try exact dis1) only[evD,Xb,Xc,Xd,List.cons_append,List.nil_append,zx,zC,zgN]|with_reducible first|intro _|refine aJ ?_)
  refine⟨_,?_,rfl⟩;show Vw _ _ _ _ _ (Xp _) (Xp _);rw[zoc];exact⟨zV flA,.int _ _ _,trivial⟩
 have k:=zg (f:=encN) (d:=[]) z;have e:fm zm1 (l.take (i+1))=fm zm1 (l.take i)++zm1 l[i].f:=by unfold fm;rw[WX z,WK,List.flatMap_singleton]
 generalize l[i]=x at k e;have t:zm1 x.f=if x.f.kind=9 then[x.f.label]else[]:=rfl
 by_cases A:x.f.kind=9;case neg=>rw[t,if_neg A,Wt]at e;refine Gw8 @dT @dF k @zei @zC @zek @zx A ?_;intros;exact⟨(ps,i+1),⟨⟨by simp only;omega,by simp only;omega⟩,λy=>by simp only;rw[e];exact hx y⟩,by simp only;omega,(Xe [(0,0,0),(1,1,0)] [] rfl rfl rfl (QF @uj @ub) (QG @uj @ub))⟩
 rw[t,if_pos A]at e;by_cases J:x.f.label∈ps.map (·.1)
 .obtain⟨j,W,I,m⟩:=zuP J;have P:=en_set W I;refine Gw11 @dT @dF k A m P @zei @zC @zek @zqN @zx ?_;intros
  exact⟨(ps,i+1),⟨⟨by simp only;omega,by simp only;omega⟩,λy=>by
   simp only;rw[e,WL,WZ,<-hx y]
   exact⟨.inl,λh=>h.elim id λh=>by rw[h];exact J⟩⟩,by simp only;omega,(Xe [(0,0,0),(1,1,0)] [] rfl rfl rfl (QF @uj @ub) (QG @uj @ub))⟩
 .have m:=zrD J;have O:=zNg (ps:=ps) (a:=x.f.label) (b:=(ps.length:Int));refine Gw10 @dT @dF k A m @zei @zC @zek @zqN @zx ?_;intros
  exact⟨(ps++[(x.f.label,(ps.length:Int))],i+1),⟨⟨by simp only;omega,by simp only[We,Wh];omega⟩,λy=>by
   simp only;rw[e,Wz,WL,WL,hx y]
   exact Iff.rfl⟩,by simp only;omega,(Xe [(0,0,0),(1,1,0)] [] rfl rfl rfl (by((try simp only[evWB,Xb,Xc,Xg,Xd,Xh,implies_true,zN,encP,O,We,Wd,Wf])<;>(repeat' with_reducible apply Wa)<;>first|(first|exact Xk (zaU rfl)|exact Xk zeq|exact zq rfl;done)|exact fin6)) (QG @uj @ub))⟩
end Go.Ab
namespace Go.Ab
open Go.RowKit Go.Proofs
def ctF(d:List Bool)(e:List Bl)(c b:Int):Bool :=
 if c=2\/c=5 then decide (0<=b/\b<d.length)&&(d.getD b.toNat false && !(decide (c=5)&&decide (1<((e.map (·.stmts)).getD b.toNat []).length)))else true
def ctP(c:List Bool)(b:List Bl):Nd->Bool
 |.mk f _ _=>ctF c b f.kind f.block
def covA(b:List Bool)(c:List Bl)(L:List Nd):Bool :=
 L.all (ctP b c)&&(Wc b.length).all λk=> !(b.getD k false)||decide (((fm blkP L).count (k:Int):Int)=1)
def cnt(n:Nat)(l:List Int):List Int:=(Wc n).map λ(k:Nat)=>((l.count (k:Int):Nat):Int)
theorem zpj{n:Nat}{l:List Int}:(cnt n l).length=n:=by simp[cnt]
theorem zCe{n:Nat}:(cnt n []).map cI=Wy n [Xi .i64 0]:=by
 unfold cnt;rw[List.map_map];apply W0
 .simp
 .intro i b c;simp
theorem zGq{n k:Nat}{l:List Int}(h:k<n):((cnt n l).map cI).getD k []=[.int .i64 ((l.count (k:Int):Nat):Int)]:=by rw[zg (by rw[zpj];exact h)];simp[cnt]
theorem zNv{n k:Nat}{l:List Int}(h:k<n):((cnt n l).map cI).set k [.int .i64 (((l.count (k:Int):Nat):Int)+1)]=(cnt n (l++[(k:Int)])).map cI:=by
 apply W0
 .simp[zpj]
 .intro i e d;simp only[Wl,zpj]at d;rw[List.getElem_set];simp only[cnt,List.map_map,List.getElem_map,W3,Function.comp];rw[List.count_append,List.count_singleton];by_cases b:k=i
  .subst b;simp
  .have c:((k:Int) == (i:Int))=false:=by simp;omega
   rw[if_neg b,c];simp
theorem zMm{p:NdF->List Int}{l:List Nd}{i:Nat}(h:i<l.length):fm p (l.take (i+1))=fm p (l.take i)++p l[i].f:=by rw[W5,WE h];unfold fm;rw[WK];simp only[Option.toList,List.flatMap_cons,List.flatMap_nil,Wt]
theorem zKF{p:Nd->Bool}{l:List Nd}{i:Nat}(h:i<l.length):(l.take (i+1)).all p=((l.take i).all p&&p l[i]):=by rw[W5,WE h,List.all_append];simp only[Option.toList,List.all_cons,List.all_nil,WG]
theorem uw:type_of% @zav.eq_1:=@zav.eq_1
theorem zpd(g:G)(hf:fewG g=true)(L:List Nd)(hL:L.length<=1000)(hc:(fm blkP L).length<=1000):
  zo Z9 zey [encL 5 encN L,.agg g.cells] (·=.bool (covA (Dm.reachL g.toG.E) g.blocks L)):=by
 refine fn_x zpw rfl ?_;refine dcU zjn.eq_1 ?_;have hB:=hBig;have X:=Dm.dominator_Reachable_ok g.toG (zry hf);have e:(Dm.reachL g.toG.E).length=g.blocks.length:=by unfold Dm.reachL;rw[Wl,Wu,Gr.E_len];simp[G.toG]
 have hgb:=(zdK hf).1;have U:=(zdK hf).2;rw[G.toG_cells]at X;generalize Dm.reachL g.toG.E=v at X e;obtain⟨ad,z⟩:=g;simp only[G.cells]at X e hgb U⊢;generalize hn:z.length=n at *
 (repeat first|simp(disch:=try exact dis1) only[evD,Xb,Xc,Xd,fldP,zxn,tab,Wp,Wo]|with_reducible first|intro _|refine aJ ?_)
 refine zd (ze X rfl) ?_;refine Gw2 @uk e ?_;intros
 refine zf (λi:Nat=>([(3,encP 2 [.int .u32 ad,encL 2 Xj z]),(5,zR v),(6,.own 0 0 0 0 n),(16,encL 5 encN L),(17,.int .i64 L.length),(18,.int .i64 i)],[(0,.row 1 ((cnt n (fm blkP (L.take i))).map cI) 0)])) 1
  (λi=>i<=L.length/\(L.take i).all (ctP v z)=true) (λi=>L.length-i) 0 ⟨Wg _,rfl⟩ (Xo [(0,0,0)] [] rfl (by(try simp only[evWB,Xb,Xc,Xg,Xd,Xh,implies_true,List.take_zero,zDE,zCe,e,zR])<;>exact fin2) (by(try simp only[evWB,Xb,Xc,Xg,Xd,Xh,implies_true,List.take_zero,zDE,zCe,e,zR])<;>exact fin2)) ?_
 rintro i ⟨hi,B⟩ wf;refine dcU zg5.eq_1 ?_;by_cases Z:i<L.length
 case pos=>
  have t:=zg (f:=encN) (d:=[]) Z;have x:=zMm (p:=blkP) Z;have s:=zKF (p:=ctP v z) Z
  have Q:(fm blkP (L.take i)).length<=1000:=by
   have:(fm blkP L).length=(fm blkP (L.take i)).length+(fm blkP (L.drop i)).length:=by
    conv=>lhs;rw[<-List.take_append_drop i L]
    unfold fm;rw[WK,We]
   omega
  have o:ctP v z L[i]=false->covA v z L=false:=λh=>by unfold covA;rw[W6.2 ⟨L[i],Wm Z,by rw[h];simp⟩,Wj]
  rw[B,Wi]at s;generalize L[i]=y at t x s o;generalize fm blkP (L.take i)=K at x Q;obtain⟨⟨H,q,lb⟩,c,m⟩:=y;rw[zaI]at t;simp only at t;have hbk:blkP (Nd.mk ⟨H,q,lb⟩ c m).f=if H=2\/H=5 then[q]else[]:=rfl
  have hct:ctP v z (Nd.mk ⟨H,q,lb⟩ c m)=if H=2\/H=5 then decide (0<=q/\q<v.length)&&(v.getD q.toNat false && !(decide (H=5)&&decide (1<((z.map (·.stmts)).getD q.toNat []).length)))else true:=rfl
  rw[hbk]at x;rw[hct]at s o;have skip:¬(H=2\/H=5)->cnt n (fm blkP (L.take (i+1)))=cnt n K/\(L.take (i+1)).all (ctP v z)=true:=λh=>by rw[if_neg h]at x s;rw[Wt]at x;exact⟨by rw[x],s⟩
  by_cases A:H=2\/H=5;case neg=>obtain⟨s1,s2⟩:=skip A;refine Gw3 @dT @dF t ?_;intros;exact⟨i+1,⟨by omega,s2⟩,by omega,(Xo [(0,0,0)] [] rfl (Gin2_1 s1) (Gin2_1 s1))⟩
  rw[if_pos A]at x s o;have tail:∀(b1:0<=q)(b2:q<n)(M:v.getD q.toNat false=true),True:=λ_ _ _=>trivial
  have Y:K.count q<=1000:=WD List.count_le_length Q;by_cases b1:0<=q
  case neg=>
   have I:=o (by rw[dF (λh=>b1 h.1),Wj]);rw[I];rcases A with rfl|rfl
   ·(refine Gw4 @dT @dF t @uw ?_;intros);exact bzO
   ·(refine Gw4 @dT @dF t @uw ?_;intros);exact bzO
  by_cases b2:q<n
  case neg=>
   have I:=o (by rw[dF (λh=>by have:=h.2;omega),Wj]);rw[I];rcases A with rfl|rfl
   ·(refine Gw6 @dT @dF t @uk e @uw ?_;intros);exact bzO
   ·(refine Gw6 @dT @dF t @uk e @uw ?_;intros);exact bzO
  have P:q.toNat<v.length:=by omega
  have C:q.toNat<z.length:=by omega
  have u:(v.map λb=>[Xu b]).getD q.toNat []=[.bool (v.getD q.toNat false)]:=by rw[zg P];simp[List.getD,P]
  have J:(z.map Xj).getD q.toNat []=[.int .u32 z[q.toNat].addr,encL 8 St.cells z[q.toNat].stmts]:=zg C;have V:(z.map (·.stmts)).getD q.toNat []=z[q.toNat].stmts:=zg C;rw[V]at s o;rw[dT ⟨b1,by omega⟩,Wi]at s o;have W:=(U _ (Wm C)).1;generalize z[q.toNat].stmts=sm at s o J W;have D:((cnt n K).map cI).getD q.toNat []=[.int .i64 ((K.count q:Nat):Int)]:=by rw[zGq (by omega),show((q.toNat:Nat):Int)=q by omega]
  have S:((cnt n K).map cI).set q.toNat [.int .i64 (((K.count q:Nat):Int)+1)]=(cnt n (fm blkP (L.take (i+1)))).map cI:=by have:=zNv (n:=n) (k:=q.toNat) (l:=K) (by omega);rw[show((q.toNat:Nat):Int)=q by omega]at this;rw[this,x]
  cases M:v.getD q.toNat false with
  |false=>
   rw[M]at o u;have I:=o (by rw[Wj]);rw[I];rcases A with rfl|rfl
   ·(refine Gw7 @dT @dF t @uk e u @uw ?_;intros);exact bzO
   ·(refine Gw7 @dT @dF t @uk e u @uw ?_;intros);exact bzO
  |true=>
   rw[M,Wi]at o s;rw[M]at u;rcases A with rfl|rfl
   .rw[dF (by omega),Wj]at s;refine Gw10 @dT @dF t @uk e u D S @zpj @m9M ?_;intros;exact⟨i+1,⟨by omega,s⟩,by omega,(Xo [(0,0,0)] [] rfl (Gin2_2 @uk e) (Gin2_2 @uk e))⟩
   .by_cases N:1<sm.length
    .have I:=o (by rw[dT N];rfl);rw[I];refine Gw10 @dT @dF t @uk e u @ua J hn @uw ?_;intros;exact bzO
    .rw[dF N,WH]at s;refine Gw13 @dT @dF t @uk e u @ua J hn D S @zpj @m9M ?_;intros;exact⟨i+1,⟨by omega,s⟩,by omega,(Xo [(0,0,0)] [] rfl (Gin2_2 @uk e) (Gin2_2 @uk e))⟩
 rw[List.take_of_length_le (by omega)]at B⊢;unfold covA;rw[B,Wi];generalize fm blkP L=K at hc⊢;refine Gw1 @dF ?_;intros;refine dcU zg7.eq_1 ?_;refine Gw2 @uk e ?_;intros;generalize O:((Wc n).all λk=> !(v.getD k false)||decide (((K.count (k:Int):Nat):Int)=1))=R
 refine zf (λk:Nat=>([(6,.own 0 0 0 0 n),(70,zR v),(71,.int .i64 n),(72,.int .i64 k)],[(0,.row 1 ((cnt n K).map cI) 0)])) 1
  (λk=>k<=n/\∀j,j<k->(!(v.getD j false)||decide (((K.count (j:Int):Nat):Int)=1))=true) (λk=>n-k) 0 ⟨Wg _,λj hj=>by omega⟩ (Xo [(0,0,0)] [] rfl (Gin2_2 @uk e) (Gin2_2 @uk e)) ?_
 rintro k ⟨hk,T⟩ wf2;refine dcU zg1.eq_1 ?_;by_cases hkn:k<n
 case neg=>
  have:R=true:=by rw[<-O,Wx];intro j hj;have:=WM.1 hj;exact T j (by omega)
  subst this;refine Gw1 @dF ?_;intros;unfold zhg;refine Gw1 @uw ?_;intros;exact bzO
 have u:(v.map λb=>[Xu b]).getD k []=[.bool (v.getD k false)]:=by rw[zg (by omega)];simp[List.getD,show k<v.length by omega]
 have D:=zGq (n:=n) (l:=K) hkn
 have w:(!(v.getD k false)||decide (((K.count (k:Int):Nat):Int)=1))=true->∀j,j<k+1->(!(v.getD j false)||decide (((K.count (j:Int):Nat):Int)=1))=true:=λh j hj=>by
  by_cases hjk:j=k
  .subst hjk;exact h
  .exact T j (by omega)
 have F:(!(v.getD k false)||decide (((K.count (k:Int):Nat):Int)=1))=false->R=false:=λh=>by rw[<-O,W6];exact⟨k,WM.2 (by omega),by rw[h];simp⟩
 cases M:v.getD k false with
 |false=>rw[M]at u w;refine Gw4 @dT @uk e u ?_;intros;exact⟨k+1,⟨by omega,w (by simp)⟩,by omega,(Xo [(0,0,0)] [] rfl (Gin2_2 @uk e) (Gin2_2 @uk e))⟩
 |true=>
  rw[M]at u w F;by_cases N:((K.count (k:Int):Nat):Int)=1
  ·(refine Gw8 @dT @dF @uk e u D @zpj @m9M ?_;intros);exact⟨k+1,⟨by omega,w (by rw[dT N];rfl)⟩,by omega,(Xo [(0,0,0)] [] rfl (Gin2_2 @uk e) (Gin2_2 @uk e))⟩
  .have:=F (by rw[dF N];rfl);subst this;refine Gw9 @dT @dF @uk e u D @zpj @m9M @uw ?_;intros;exact bzO
def ordI(g:G):List Int:=(Dm.orderL g.toG.E).map λ(n:Nat)=>(n:Int)
def covB(g:G)(e:Nd):Bool:=(decide (∀k,(h:k<(coll blkP e).length)->(coll blkP e)[k]∈ordI g/\(coll blkP e)[k]∉(coll blkP e).take k)&&decide ((coll blkP e).length=(ordI g).length))&&zuV g.blocks e
theorem zCY{l:List Int}{t:Int}:hasI l t=decide (t∈l):=by
 unfold hasI;rw[Ww,List.any_eq_true,decide_eq_true_eq];constructor
 .rintro⟨x,b,h⟩;rw[decide_eq_true_eq]at h;rw[<-h];exact b
 .exact λh=>⟨t,h,by simp⟩
def whP(b:List Bl):Nd->Bool
 |.mk f _ _=> !(decide (f.kind=5) && !wOk b f.block)
mutual
theorem zpy(b:List Bl):∀n:Nd,(allN n).all (whP b)=zuV b n
 |
  .mk f c l=>by
  rw[allN,List.all_cons,zsr b l,zuV];show(!(decide (f.kind=5) && !wOk b f.block)&&zog b l)=_;by_cases h:f.kind=5
  .cases e:wOk b f.block with
   |true=>rw[if_neg (by simp)];simp[h]
   |false=>rw[if_pos ⟨h,rfl⟩];simp[h]
  .rw[if_neg (λd=>h d.1)];simp[h]
theorem zsr(b:List Bl):∀l:List Nd,(zag l).all (whP b)=zog b l
 |[]=>by rw[zag,zog];rfl
 |x::l=>by rw[zag,List.all_append,zpy b x,zsr b l,zog]
end
theorem zBo{g:G}(h:zfa g=0):∀b∈g.blocks,1<=b.stmts.length:=by
 intro b e;unfold zfa at h;split at h
 .rename_i d;rw[Wk,Wx]at d;have c:=d.2 b e;unfold zeR at c
  cases j:b.stmts with
  |nil=>rw[j]at c;simp at c
  |cons a l=>simp
 .omega
theorem zwg:∀(l m:List Int),l.Nodup->(∀a∈l,a∈m)->m.length<=l.length->∀a∈m,a∈l
 |
  [],m,_,_,h,a,d=>by
  have:m=[]:=WN (by simpa using h);rw[this]at d;cases d
 |
  x::l,m,hn,hs,h,a,d=>by
  rw[WO]at hn;have k:=hs x (by simp);by_cases c:a=x
  .rw[c];simp
  .refine WC _ (zwg l (m.erase x) hn.2 (λb j=>?_) ?_ a ((W7 c).2 d))
   .have g:b≠x:=λe=>hn.1 (e▸j)
    exact(W7 g).2 (hs b (WC _ j))
   .rw[List.length_erase_of_mem k];simp only[Wd]at h;omega
theorem zBR{l:List Int}(h:∀a,l.count a<=1):l.Nodup:=by
 induction l with
 |nil=>exact List.nodup_nil
 |cons x l c=>
  rw[WO];refine⟨λb=>?_,c λa=>?_⟩
  .have:=h x;rw[List.count_cons_self]at this;have:=List.count_pos_iff.2 b;omega
  .have:=h a;rw[List.count_cons]at this;omega
theorem ztH{l:List Int}(h:l.Nodup){a:Int}(d:a∈l):l.count a=1:=by
 induction l with
 |nil=>cases d
 |cons x l ih=>
  rw[WO]at h;rw[List.count_cons];by_cases c:x=a
  .subst c;rw[WF.2 h.1];simp
  .have b:a∈l:=by
    rcases WB.1 d with rfl|b
    .exact absurd rfl c
    .exact b
   rw[ih h.2 b];simp[c]
theorem zvV{l:List Int}:(∀k,(h:k<l.length)->l[k]∉l.take k)↔l.Nodup:=by
 rw[List.nodup_iff_pairwise_ne,List.pairwise_iff_getElem];constructor
 .intro h i j c g d e;refine h j g ?_;rw[<-e,WP];exact⟨i,by rw[WA];omega,by rw[WI]⟩
 .intro h k m n;obtain⟨i,c,b⟩:=WP.1 n;rw[WA]at c;rw[WI]at b;exact h i k (by omega) m (by omega) b
theorem zEy(g:G)(e:Nd)(V:zfa g=0):covA (Dm.reachL g.toG.E) g.blocks (allN e)=covB g e:=by
 have U:=g.toG.E_ok;have z:g.toG.E.length=g.blocks.length:=by rw[Gr.E_len];simp[G.toG]
 have R:=Dm.inB_order U;have M:=Dm.orderL_nd U;have N:(ordI g).Nodup:=by unfold ordI;refine List.Pairwise.map _ (λa b Q=>?_) M.nd;intro e;exact Q (by exact_mod_cast e)
 have v:∀k:Nat,k<g.blocks.length->(Dm.reachL g.toG.E).getD k false=decide ((k:Int)∈ordI g):=by
  intro k p;rw[<-R,z];unfold Dm.inB Dm.mapR;rw[zg (by simpa using p),W3];unfold ordI;refine decide_eq_decide.2 ⟨λh=>WQ.2 ⟨k,h,rfl⟩,λh=>?_⟩;obtain⟨X,w,s⟩:=WQ.1 h;have:X=k:=by exact_mod_cast s
  rw[<-this];exact w
 have u:(Dm.reachL g.toG.E).length=g.blocks.length:=by unfold Dm.reachL;rw[Wl,Wu,z]
 have B:∀a∈ordI g,0<=a/\a<g.blocks.length:=by intro a o;unfold ordI at o;obtain⟨k,p,rfl⟩:=WQ.1 o;have:=M.lt k p;omega
 generalize Dm.reachL g.toG.E=P at v u;have D:=zBo V;unfold covA covB;rw[zrM,<-zpy];have A:∀b,b∈coll blkP e↔∃x∈allN e,b∈blkP x.f:=by intro b;rw[<-zrM];unfold fm;rw[List.mem_flatMap]
 have F:∀x:Nd,ctP P g.blocks x=true↔(∀b∈blkP x.f,b∈ordI g)/\whP g.blocks x=true:=by
  intro x;obtain⟨⟨H,j,lb⟩,c,m⟩:=x;show ctF P g.blocks H j=true↔(∀b∈(if H=2\/H=5 then[j]else[]),b∈ordI g)/\(!(decide (H=5) && !wOk g.blocks j))=true;unfold ctF;by_cases q:H=2\/H=5;case neg=>rw[if_neg q,if_neg q,dF (λh=>q (.inr h))];simp
  rw[if_pos q,if_pos q];by_cases O:0<=j/\j<g.blocks.length
  case neg=>
   rw[dF (show ¬(0<=j/\j<P.length) by rw[u];exact O),Wj];constructor
   .intro h;cases h
   .rintro⟨h,_⟩;exact absurd (B j (h j (by simp))) O
  have t:j.toNat<g.blocks.length:=by omega
  rw[dT (show 0<=j/\j<P.length by rw[u];exact O),Wi,v _ t,show((j.toNat:Nat):Int)=j by omega];have W:wOk g.blocks j=decide (g.blocks[j.toNat].stmts.length=1):=by unfold wOk;rw[if_neg (by omega),WE t]
  rw[W,zg t];have I:=D _ (Wm t);by_cases T:H=5
  .simp only[T,decide_true,Wi,Wk,decide_eq_true_eq,WZ,forall_eq,Bool.not_not,W8,decide_eq_false_iff_not];constructor
   .rintro⟨w,s⟩;exact⟨w,by omega⟩
   .rintro⟨w,s⟩;exact⟨w,by omega⟩
  .simp[T]
 rw[Ww];simp only[Wk,Wx,decide_eq_true_eq,WM,Bool.or_eq_true,W8];rw[u];constructor
 .rintro⟨I,w⟩;have d:∀b∈coll blkP e,b∈ordI g:=by intro b K;obtain⟨x,J,S⟩:=(A b).1 K;exact((F x).1 (I x J)).1 b S
  have y:∀a∈ordI g,(coll blkP e).count a=1:=by
   intro a o;have O:=B a o;rcases w a.toNat (by omega)with s|s
   .rw[v _ (by omega),show((a.toNat:Nat):Int)=a by omega]at s;exact absurd o (of_decide_eq_false s)
   .rw[show((a.toNat:Nat):Int)=a by omega]at s;omega
  have n:(coll blkP e).Nodup:=by
   refine zBR λa=>?_
   by_cases o:a∈ordI g
   .rw[y a o];omega
   .rw[WF.2 (λh=>o (d a h))];omega
  refine⟨⟨λk p=>⟨d _ (Wm p),zvV.2 n k p⟩,?_⟩,λx J=>((F x).1 (I x J)).2⟩;refine List.Perm.length_eq (List.perm_iff_count.2 λa=>?_);by_cases o:a∈ordI g
  .rw[y a o,ztH N o]
  .rw[WF.2 (λh=>o (d a h)),WF.2 o]
 .rintro⟨⟨I,w⟩,s⟩;have n:=zvV.1 λk p=>(I k p).2
  have d:∀b∈coll blkP e,b∈ordI g:=by intro b K;obtain⟨k,p,rfl⟩:=WP.1 K;exact(I k p).1
  have C:=zwg _ _ n d (by omega);refine⟨λx J=>(F x).2 ⟨λb K=>d b ((A b).2 ⟨x,J,K⟩),s x J⟩,λk p=>?_⟩;rw[v k p];by_cases L:(k:Int)∈ordI g
  .right;rw[ztH n (C _ L)];rfl
  .left;exact dF L
theorem zv2(l:List Int)(g:Nat)(h:l.length<=100000000):z7 Z9 zM [.own 0 0 g 0 l.length] [(0,.row 1 (l.map cI) g)] 1
  (λv H nx=>v=.own 1 0 0 0 l.length/\H=[(0,.row 1 (l.map cI) g),(1,.row 1 (l.map cI) 0)]/\nx=2):=by
 refine zaK (fn_x zdX rfl ?_);refine dcU zcz.eq_1 ?_;have e:=hBig;by_cases d:l.length=0
 .obtain rfl:l=[]:=WN d;have c:nilB false (.own 0 0 g 0 0)=some none:=rfl;refine Gw1 c ?_;intros;rename_i b;cases b
  ·(refine Gw1 @z8.eq_1 ?_;intros);exact⟨.own 1 0 0 0 0,[(0,.row 1 [] g),(1,.row 1 [] 0)],2,(Xe [(0,0,0),(1,2,1)] [] rfl rfl rfl Qk Qk),rfl,rfl,rfl⟩
  ·(refine Gw1 @z8.eq_1 ?_;intros);exact⟨.own 1 0 0 0 0,[(0,.row 1 [] g),(1,.row 1 [] 0)],2,(Xe [(0,0,0),(1,2,0)] [] rfl rfl rfl Qk Qk),rfl,rfl,rfl⟩
 .have c:nilB false (.own 0 0 g 0 l.length)=some (some false):=by unfold nilB;simp only[zbt d];rfl
  refine Gw2 c @z8.eq_1 ?_;intros;exact⟨.own 1 0 0 0 l.length,[(0,.row 1 (l.map cI) g),(1,.row 1 (l.map cI) 0)],2,(Xe [(0,0,0),(1,2,1)] [] rfl rfl rfl Qk Qk),rfl,rfl,rfl⟩
theorem zFn{H:AH}{f d r g c n:Nat}{l:List Int}(k:H.get d 0=some (.row 1 [[.own r 0 g 0 n]] c))(p:H.get r 0=some (.row 1 (l.map cI) g))(o:n=l.length)(m:l.length<=big):
  Vw H [] nos allR false (.fn (.func f) [.ptr d 0 c 0 0]) (.fn (.func f) [encP 1 [za l]]):=by
 subst o;refine .fn _ _ _ _ rfl λi a b e h=>?_
 match i with
 |0=>
  cases e;cases h;refine .frzp _ d 0 c 0 0 1 1 [[.own r 0 g 0 l.length]] _ trivial k (by simp) (by omega) λj q=>?_
  obtain rfl:j=0:=by omega
  exact zb3 (l:=l) trivial p m
 |i+1=>cases e
def zGB(b:List Int):Nd->Bool
 |.mk f _ _=>decide (f.kind=9) && !hasI b f.label
theorem zzP(l:List Nd)(b:List Int):PredN (.fn (.func zdY) [encP 1 [za b]]) l (zGB b):=by
 refine⟨_,_,rfl,by kernel_rfl,rfl,λs j=>?_⟩;refine fn_x zor rfl ?_;refine dcU ziT.eq_1 ?_;obtain⟨⟨d,g,lb⟩,c,m⟩:=s;have h:zGB b (.mk ⟨d,g,lb⟩ c m)=(decide (d=9) && !hasI b lb):=rfl;rw[h,zaI];simp only;by_cases e:d=9
 .rw[dT e,Wi];refine Gw3 @dT @ua @ub ?_;intros;refine zd (ze (zm5 b lb) rfl) ?_;refine Gw1 @zfn.eq_1 ?_;intros;exact bzO
 .rw[dF e,Wj];refine Gw4 @dF @ua @ub @zfn.eq_1 ?_;intros;exact bzO
def zDq(g:G)(e:Nd):Int :=
 if zfa g≠0 then zfa g else if zlM e=false then 2 else if covB g e=false then 18 else if zpR e false=true then 21 else if (zn2 e).any (λt=> !hasI (coll labP e) t)=true then 9 else if (coll labP e).Nodup then 0 else 8
mutual
theorem zlU(b:List Int):∀e:Nd,zlM e=true->(allN e).any (zGB b)=(zn2 e).any (λt=> !hasI b t)
 |
  .mk f c l,h=>by
  rw[zlM,Wk]at h;have m:=zoS b l h.1;rw[allN,List.any_cons,m,zn2];show(decide (f.kind=9) && !hasI b f.label||_)=_;by_cases d:f.kind=9
  .have g:=h.2;unfold zb5 at g;rw[Wk,decide_eq_true_eq]at g;have j:=g.1;unfold zF at j;have k:l=[]:=WN (by omega);subst k;rw[if_pos d,dT d,zlu];simp
  .rw[if_neg d,dF d];simp
theorem zoS(b:List Int):∀l:List Nd,zlV l=true->(zag l).any (zGB b)=(zlu l).any (λt=> !hasI b t)
 |[],_=>by rw[zag,zlu];rfl
 |
  x::l,h=>by
  rw[zlV,Wk]at h;rw[zag,List.any_append,zlU b x h.1,zoS b l h.2,zlu,List.any_append]
end
theorem Qj{p q:Prop}(k:q)(h:Im q p:=by(repeat first|simp(disch:=try exact dis1) only[evD,Nat.reduceBEq,Nat.reduceAdd,Nat.reduceLeDiff,zxn,tab,List.getD_cons_zero,List.getD_cons_succ,zC]|((with_reducible apply Im.i);intro _)|((with_reducible apply Im.a);omega));exact Im.r):p:=h k
theorem zkp(g:G)(C:fewG g=true)(e:Nd)(u:zap e<=1000):zo Z9 zaA [.agg (encN e),.agg g.cells] (·=.int .i64 (zDq g e)):=by
 refine fn_x zqq rfl ?_;unfold zkc;have T:=hBig;have M:=zmM g (zty C) (zwc C);have N:=zfU e u;have A:(allN e).length<=1000:=by rw[zn0];exact u
 have L:=zd7 (allN e) _ _ (zst (allN e));have w:=zpd g C (allN e) A (by rw[zrM];exact WD (zof zw7 e) u);have z:=zok (zap e) e false (Wn _);have y:=zou e u;have s:=zEy g e;have H:=λb=>zlU b e
 have q:((allN e).any λx=> !zlX x) = !zlM e:=by rw[<-zpJ,Ww];simp
 rw[q]at L;unfold zDq;have I:(coll labP e).length<=1000:=WD (zof zDz e) u;obtain⟨J,K⟩:=g;simp only[G.cells]at M w⊢
 (repeat first|simp(disch:=try exact dis1) only[evD,Xb,Xc,Xd,fldP,zxn,tab,zx,zt,Wp,Wo]|with_reducible first|intro _|refine aJ ?_)
 refine zd (ze M rfl) ?_;by_cases v:zfa ⟨J,K⟩=0;case neg=>rw[if_pos v];refine Gw2 @dT @za6.eq_1 ?_;intros;exact izO
 have d:=s v;simp only at d;rw[d]at w;rw[if_neg (λh=>h v),v]
 (repeat first|simp(disch:=try exact dis1) only[evD,Xb,Xc,Xd,dF,zx,zt,zC,zxn,tab,Wp,Wo]|with_reducible first|intro _|refine aJ ?_)
 refine zd (ze N (flN rfl)) ?_;refine Gw0 ?_;intros;refine zd (zaB (D:=noR) L (.cons (zV rfl) (.cons (zCP (zst (allN e))) .nil)) (.inl rfl)) ?_
 cases F:zlM e with
 |false=>refine Gw1 @za6.eq_1 ?_;intros;exact izO
 |true=>
 rw[if_neg (by simp)]
 (repeat first|simp(disch:=try exact dis1) only[evD,Xb,Xc,Xd,zxn,tab,Wp,Wo]|with_reducible first|intro _|refine aJ ?_)
 refine zd (ze w rfl) ?_
 cases P:covB ⟨J,K⟩ e with
 |false=>refine Gw1 @za6.eq_1 ?_;intros;exact izO
 |true=>
 rw[if_neg (by simp)];refine Qj ?_;intros;refine zd (ze z flNB) ?_
 cases S:zpR e false with
 |true=>refine Gw1 @za6.eq_1 ?_;intros;exact izO
 |false=>
 rw[if_neg (by simp)];refine Qj ?_;intros;refine zaV [] 0 _ y rfl rfl (by simp only[evWB,Xb,Xc,Xg,Xd,Xh,implies_true]) ⟨zV (by have:=flN (r:=[]) rfl (e:=e);simpa using this),trivial⟩ ?_;rintro _ _ _ ⟨rfl,rfl,rfl⟩;generalize R:coll labP e=b at I⊢;refine Gw1 @renI ?_;intros;have p:=zd7 (allN e) _ _ (zzP (allN e) b);rw[H b F]at p;refine zd (zaB (D:=allR) p (.cons (zV rfl) (.cons (zFn (l:=b) rfl rfl rfl (by omega)) .nil)) (.inl rfl)) ?_
 cases Q:(zn2 e).any λt=> !hasI b t with
 |true=>refine Gw1 @za6.eq_1 ?_;intros;exact izO
 |false=>
 rw[if_neg (by simp)];refine Gw0 ?_;intros;refine zad (zys (zs:=b) rfl (by omega)) ?_;rintro _ _ _ k;simp only[Prod.mk.injEq]at k;obtain⟨rfl,rfl,rfl⟩:=k;have o:(zj5 b).length=b.length:=(zdL b).length_eq;have c:=zuQ b;rw[o]at c;rw[<-o]at c⊢;have B:(zcg (zj5 b)).length<=(zj5 b).length:=by unfold zcg;exact zwb
 generalize zj5 b=n at o c B⊢;by_cases j:b.Nodup
 .rw[if_pos j];rw[dT j]at c;have O:¬(zcg n).length<n.length:=of_decide_eq_false c;refine Gw0 ?_;intros
  (repeat' with_reducible apply Wa)<;>(refine zaV [(0,0,0)] 1 _ (zv2 n 0 (by omega)) rfl rfl Gin1_0 Gin1_0 ?_;rintro _ _ _ ⟨rfl,rfl,rfl⟩;refine Gw1 @renI ?_;intros;(repeat' with_reducible apply Wa)<;>(refine zaV [(0,3,0)] 1 _ (zlN n 0 (by omega)) rfl rfl Gin1_0 Gin1_0 ?_;rintro _ _ _ ⟨m,rfl,rfl,rfl⟩;refine Gw3 @renI @dF @za6.eq_1 ?_;intros;exact izO))
 .rw[if_neg j];rw[dF j]at c;have O:(zcg n).length<n.length:=of_decide_eq_true c;refine Gw0 ?_;intros
  (repeat' with_reducible apply Wa)<;>(refine zaV [(0,0,0)] 1 _ (zv2 n 0 (by omega)) rfl rfl Gin1_0 Gin1_0 ?_;rintro _ _ _ ⟨rfl,rfl,rfl⟩;refine Gw1 @renI ?_;intros;(repeat' with_reducible apply Wa)<;>(refine zaV [(0,3,0)] 1 _ (zlN n 0 (by omega)) rfl rfl Gin1_0 Gin1_0 ?_;rintro _ _ _ ⟨m,rfl,rfl,rfl⟩;refine Gw3 @renI @dT @za6.eq_1 ?_;intros;exact izO))
end Go.Ab
