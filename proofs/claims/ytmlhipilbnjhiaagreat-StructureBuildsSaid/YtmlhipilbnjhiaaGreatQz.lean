/-
  Part 26 of the proof: how the calls of this program run, over values instead of memory, and what each function computes.
-/
import Derived.KernelRfl
import Derived.Test.YtmlhipilbnjhiaaGreatQy
set_option maxRecDepth 100000
set_option linter.unusedVariables false
set_option linter.unusedSimpArgs false
set_option linter.unnecessarySimpa false
set_option linter.unusedSectionVars false
open Nat renaming reduceBEq->Xa,reduceAdd->Xb,reduceLeDiff->Xc,reduceSub->Xe,reduceLT->Xf
open Go.Ab.Ent renaming tab->Xd
open Go.Ab.Bl renaming cells->Xg
open List renaming length_nil→Wa,map_nil→Wd,append_nil→We,length_cons→Wh,length_append→Wl,append_assoc→Wm,singleton_append→Wn,getD_cons_succ→Wo,getD_cons_zero→Wp
open And renaming intro→Wc
open Nat renaming le_refl→Wf,zero_le→Wi
open Bool renaming false_eq_true→Wg,false_and→Wj,true_and→Wk
namespace Go.Ab
open Go.RowKit Go.Proofs
def zf8:ACode:=Z8 0x800000000002c00033c10221012700bafe6100101fc701228ca385236525e610012760900709c20c1300002c16bc00ac15814400000059527c12c0102c7c2104c2117ca04225c2813000016276c005c15814400000059322c12c0102c2c210b2110ca02220c281308071310220ba02131407210c011aa0222723133102100011c0213 []
def zco:List ARet:=[.tmp 2]
theorem zmj:zM Tryz.prog zdR (qRo [1])=some (zf8.strip,zco,32):=by kernel_rfl
namespace Dm
end Dm
theorem Qx{p:Prop}(h:p:=by(try simp only[evWB,Nat.reduceBEq,Nat.reduceAdd,Nat.reduceSub,Nat.reduceLeDiff,Nat.reduceLT,implies_true,zN,List.take_zero,List.filter_nil,List.map_nil,List.length_nil])<;>exact fin1):p:=h
theorem zvV(g:G)(q:OkB g)(o:Nat->Ctx->Nd)(k:Nat)(O:k∈ordE (eG g))(I:∀x∈zaQ (eG g) k,zuu g o x)(J:∀x∈zaQ (eG g) k,∀c,(o x c).f.kind=1)(c:Ctx)(R:Nd)(Q:R=if (shpG g).head k then nSeq (zaq 10 0 k::zsy (shpG g) o k c::zah o c (beyL (shpG g) k))else nSeq (zaq 10 0 k::zaq 2 k 0::trN (shpG g) o k (zap (zJ (shpG g) k) c)::zah o c (zJ (shpG g) k))) :
  zn Tryz.prog zds [.agg (shR g),.int .i64 (k:Int),ctxA c] (·=.agg (encN R)):=by
 refine fn_x zzB rfl ?_;unfold zt1;have V:=hBig;have P:=zL q;have C:=zeg (g:=g);have y:=zaT P O;rw[C]at y;have T:=q.small.1;have F:g.toG.blocks.length=g.blocks.length:=by simp[G.toG]
 rw[F]at T;have K:=znq q (k:=k);have v:=zo3 g q k y;have w:=ztR g q k;have B:=zj3 g q;have m:=zAq g q o k O I J c R Q;have M:zJ (shpG g) k=(zaQ (eG g) k).filter λx=>decide (cntE (eG g) x≠1)&&decide (x∉beyL (shpG g) k):=by unfold zJ zk4;rw[List.filter_filter];rfl
 rw[M]at m;generalize beyL (shpG g) k=u at v m;generalize zaQ (eG g) k=j at w K m;unfold shR ctxA;refine Qh ?_;intros;refine zC (zc v rfl) ?_;refine Qh ?_;intros;refine zC (zc w rfl) ?_;refine Qh ?_;intros;generalize U:(λx=>decide (cntE (eG g) x≠1)&&decide (x∉u))=p at m;have L:∀x,p x=(decide (cntE (eG g) x≠1)&&decide (x∉u)):=λx=>by rw[<-U]
 refine zd (λs:Nat×Nat=>([(1,.int .i64 (k:Int)),(3,encP 4 [.int .u32 g.addr,encL 2 Xg g.blocks,zb (ordE (eG g)),za (Dm.treeL (eG g))]),(5,encP 3 [.int .i64 c.f,.int .i64 c.h,.int .i64 c.x]),(6,.ptr 0 0 0 0 0),(7,zb u),(8,zb j),(9,.own 1 0 s.2 0 ((j.take s.1).filter p).length),(10,.int .i64 s.1)],[(0,.row 5 [zN] 0),(1,.row 1 (((j.take s.1).filter p).map cN) s.2)])) 2 (λs=>s.1<=j.length) (λs=>j.length-s.1) (0,0) (Wi _) ?start ?_;case start=>exact(Xd [(0,0,0),(1,1,0)] [] rfl Qx Qx)
 rintro⟨i,γ⟩ hi wf;simp only at hi;clear wf;refine dcU zov.eq_1 ?_;have S:=Dm.filter_take_le p j i;by_cases t:i<j.length;case neg=>have H:i=j.length:=Nat.le_antisymm hi (Nat.le_of_not_lt t);subst H;rw[List.take_length]at *;refine Qj ?_;intros;refine zaD [(1,.int .i64 (k:Int)),(3,encP 4 [.int .u32 g.addr,encL 2 Xg g.blocks,zb (ordE (eG g)),za (Dm.treeL (eG g))]),(5,encP 3 [.int .i64 c.f,.int .i64 c.h,.int .i64 c.x]),(6,.ptr 0 0 0 0 0),(7,zb u),(9,zb (j.filter p))] [(0,.row 5 [zN] 0)] 1 λ_=>⟨(Xd [(0,0,0)] [1] rfl (Gin1_1 @uk) (Gin1_1 @uk)),m⟩
 have b:=Dm.filter_take_succ (p:=p) t;have e:(j.map λ(n:Nat)=>[AV.int .i64 (n:Int)]).getD i []=[.int .i64 (j[i]:Int)]:=zg (f:=cN) (d:=[]) t;generalize j[i]=x at b e;have D:=B x;rw[L]at b;refine Gw5 @dT @ua @ub @ud e ?_;intros;refine zC (zc D rfl) ?_;by_cases N:cntE (eG g) x=1
 .have A:((cntE (eG g) x:Nat):Int)=1:=by omega
  rw[decide_eq_false λh=>h N,Wj]at b;refine Gw6 @dT @dF @ua @ub @ud e ?_;intros;exact⟨(i+1,γ),by simp only;omega,by simp only;omega,by rw[b];exact(Xd [(0,0,0),(1,1,0)] [] rfl (by(try simp only[evWB,Xa,Xb,Xe,Xc,Xf,implies_true,zN,Wg,if_false,We])<;>exact fin1) (by(try simp only[evWB,Xa,Xb,Xe,Xc,Xf,implies_true,zN,Wg,if_false,We])<;>exact fin1))⟩
 have A:¬((cntE (eG g) x:Nat):Int)=1:=by omega
 rw[decide_eq_true N,Wk]at b;refine Gw6 @dT @dF @ua @ub @ud e ?_;intros;refine zC (zc (Dm.R24_HasN_ok u x) rfl) ?_;by_cases z:x∈u
 .rw[decide_eq_true z];rw[decide_eq_false λh=>h z]at b;refine Gw6 @dT @dF @ua @ub @ud e ?_;intros;exact⟨(i+1,γ),by simp only;omega,by simp only;omega,by rw[b];exact(Xd [(0,0,0),(1,1,0)] [] rfl (by(try simp only[evWB,Xa,Xb,Xe,Xc,Xf,implies_true,zN,Wg,if_false,We])<;>exact fin1) (by(try simp only[evWB,Xa,Xb,Xe,Xc,Xf,implies_true,zN,Wg,if_false,We])<;>exact fin1))⟩
 .rw[decide_eq_false z];rw[decide_eq_true z]at b;refine Gw6 @dT @dF @ua @ub @ud e ?_;intros;exact⟨(i+1,γ+1),by simp only;omega,by simp only;omega,by rw[b];exact(Xd [(0,0,0),(1,1,0)] [] rfl (by(try simp only[evWB,Xa,Xb,Xe,Xc,Xf,implies_true,zN,if_true,Wl,List.map_append,Wh,Wa,List.map_cons,Wd])<;>exact fin1) (by(try simp only[evWB,Xa,Xb,Xe,Xc,Xf,implies_true,zN,if_true,Wl,List.map_append,Wh,Wa,List.map_cons,Wd])<;>exact fin1))⟩
theorem ztx(g:G)(b:OkB g):∀(f k:Nat),k∈ordE (eG g)->(ordE (eG g)).length<=f+(ordE (eG g)).idxOf k->zuu g (zex (shpG g) f) k
 |
  0,k,hk,h=>by
  have:=List.idxOf_lt_length_iff.2 hk;omega
 |
  f+1,k,hk,h=>by
  obtain⟨T,D⟩:=Dm.dtree_ex (zL b).ok (zL b).pos;have R:=zBz (zL b) (one:=oneG g) D;have d:∀x∈zaQ (eG g) k,zuu g (zex (shpG g) f) x:=λx n=>by obtain⟨j,m⟩:=(R.kid k x).1 n;have:=R.down k x hk j m;exact ztx g b f x j (by omega)
  have e:∀x∈zaQ (eG g) k,∀c,(zex (shpG g) f x c).f.kind=1:=λx _ c=>by
   cases f with
   |zero=>rfl
   |succ f=>rw[zex];split<;>rfl
  intro c;exact zvV g b _ k hk d e c _ (by rw[zex])
theorem zzC(K:Int->Bool):∀n:Nd,zc6 (zgg K n)<=zc6 n:=by
 intro n
 have key:∀(k:Nat)(n:Nd),zc6 n<=k->zc6 (zgg K n)<=zc6 n:=λk=>by
  induction k with
  |zero=>intro n h;have:=zpb n;omega
  |succ k ih=>
   intro n h;obtain⟨f,c,l⟩:=n;rw[zc6]at h;rw[zgg,zc6,zc6]
   have:∀l:List Nd,za0 l<=k->za0 (zeB K l)<=za0 l:=λl=>by
    induction l with
    |nil=>intro _;rw[zeB];exact Wf _
    |cons a l ih2=>
     intro h;rw[za0]at h;rw[zeB,za0];have b:=ih2 (by omega);have d:=ih a (by omega);split
     .omega
     .rw[za0];omega
   have:=this l (by omega);omega
 exact key _ n (Wf _)
theorem QS{e g j k m n o p:Prop}(a0:e)(b:g)(c:j)(a3:k)(a4:m)(a5:n)(d:o)(h:e->g->j->k->m->n->o->p:=by intro a0 b c a3 a4 a5 d;(try simp only[evWB,Nat.reduceBEq,Nat.reduceAdd,Nat.reduceSub,Nat.reduceLeDiff,Nat.reduceLT,implies_true,a0,b,c,a3,a4,a5,d])<;>(repeat' with_reducible apply And.intro)<;>first|(first|exact zl rfl|exact RowV.of_flat (zE λ_=>zp);done)|exact fin6):p:=h a0 b c a3 a4 a5 d
theorem QU{g j k m n o q s p:Prop}(a0:g)(b:j)(c:k)(a3:m)(a4:n)(a5:o)(d:q)(e:s)(h:g->j->k->m->n->o->q->s->p:=by intro a0 b c a3 a4 a5 d e;(try simp only[evWB,Nat.reduceBEq,Nat.reduceAdd,Nat.reduceSub,Nat.reduceLeDiff,Nat.reduceLT,implies_true,a0,b,c,a3,a4,a5,d,e])<;>(repeat' with_reducible apply And.intro)<;>first|(first|exact zl rfl;done)|exact fin6):p:=h a0 b c a3 a4 a5 d e
theorem zq7(g:List Int):∀(f:Nat)(n:Nd),zc6 n<=f->f<=100000->zn Tryz.prog zgq [.agg (encN n),za g] (·=.agg (encN (zgg (hasI g) n)))
 |0,n,h,_=>by have:=zpb n;omega
 |
  f+1,.mk fd cs l,h,hf=>by
  have t:∀x∈l,zn Tryz.prog zgq [.agg (encN x),za g] (·=.agg (encN (zgg (hasI g) x))):=λx u=>by have:=zqH u;rw[zc6]at h;exact zq7 g f x (by omega) (by omega)
  have D:l.length<=100000:=by have:=zil l;rw[zc6]at h;omega
  refine fn_x zx3 rfl ?_;refine dcU zrf.eq_1 ?_;have F:=hBig;have p:zz (encN (.mk fd cs l))=true:=zp;rw[zgg];generalize B:hasI g=K at t⊢;have v:∀x,hasI g x=K x:=λx=>by rw[<-B]
  rw[zaF fd cs l]at p⊢;refine Gw2 p @ud ?_;intros
  refine zd (λs:List Nd×Nat×Nat=>([(1,za g),(2,.ptr 0 0 0 0 0),(4,.ptr 1 0 0 0 0),(5,.own 2 0 s.2.2 0 s.1.length),(6,.int .i64 s.2.1)],[(0,.row 5 [[.int .i64 fd.kind,.int .i64 fd.block,.int .i64 fd.label,encL 5 encX cs,encL 5 encN l]] 0),(1,.row 5 [zN] 0),(2,.row 5 (s.1.map encN) s.2.2)])) 3
   (λs=>s.2.1<=l.length/\s.1.length<=s.2.1/\s.1++zeB K (l.drop s.2.1)=zeB K l) (λs=>l.length-s.2.1) ([],0,0) ⟨Wi _,Wi _,rfl⟩ ?start ?_
  case start=>exact(Xd [(0,0,0),(1,1,0),(2,2,0)] [] rfl (by((try simp only[evWB,Xa,Xb,Xe,Xc,Xf,implies_true,zN,Wd,Wa])<;>(repeat' with_reducible apply Wc)<;>first|(first|exact zl rfl|exact RowV.of_flat (zE λ_=>zp);done)|exact fin6)) (by((try simp only[evWB,Xa,Xb,Xe,Xc,Xf,implies_true,zN,za,Wd,Wa])<;>(repeat' with_reducible apply Wc)<;>first|(first|exact zl rfl;done)|exact fin6)))
  rintro⟨M,i,γ⟩ ⟨C,y,b⟩ wf;simp only at C y b;clear wf;refine dcU zmX.eq_1 ?_;by_cases k:i<l.length;case neg=>rw[List.drop_of_length_le (by omega),zeB,We]at b;subst b;refine Gw2 @dF @ud ?_;intros;refine dcU zmG.eq_1 ?_;refine Gw1 @zq2.eq_1 ?_;intros;exact⟨_,frzN rfl (by omega),rfl⟩
  have c:=zg (f:=encN) (d:=[]) k;have u:=t _ (List.getElem_mem k);rw[zrv k]at b;generalize l[i]=x at c u b;have e:zz (encN x)=true:=zp;have q:∀(w:Nd) H,zcq 5 (encL 5 encN [w]) H=some [encN w]:=λw H=>za7 (λ_ _=>zy)
  have o:∀w:Nd,(M++[w]).length=M.length+1:=λw=>by simp
  by_cases m:x.f.kind=10;case neg=>rw[if_neg (λh=>m h.1)]at b;refine Gw9 @dT @dF c @ud @za5 @zG @zaO @zy e ?_;intros;refine ze (zc u (flN rfl)) ?_;refine Gw4 @rbN1 q @ui @uh ?_;intros;exact⟨(M++[zgg K x],i+1,γ+1),⟨by simp only;omega,by simp only[o];omega,by simp only[Wm,Wn];exact b⟩,by simp only;omega,(Xd [(0,0,0),(1,1,0),(2,2,0)] [] rfl (QS @uk @m9A @m9P @ui @uh @m9C @uj) (QU @uk @ud @m9A @m9P @ui @uh @m9C @uj))⟩
  have j:[AV.int .i64 10,(encN x).getD 1 .undef,.int .i64 x.f.label,(encN x).getD 3 .undef,(encN x).getD 4 .undef]=encN x:=by
   have A:AV.int .i64 10=(encN x).getD 0 .undef:=by rw[za5,m]
   rw[A,<-zih,zG]
  refine Gw12 @dT @dF c m @ud @za5 @zG @zaO @zih j @zy e ?_;intros;refine ze (zc (zqm g x.f.label) rfl) ?_;rw[v]
  cases z:K x.f.label with
  |true=>rw[if_neg (λh=>by rw[z]at h;exact absurd h.2 (by decide))]at b;refine Gw12 @dT @dF c m @ud @za5 @zG @zaO @zih j @zy e ?_;intros;refine ze (zc u (flN rfl)) ?_;refine Gw4 @rbN1 q @ui @uh ?_;intros;exact⟨(M++[zgg K x],i+1,γ+1),⟨by simp only;omega,by simp only[o];omega,by simp only[Wm,Wn];exact b⟩,by simp only;omega,(Xd [(0,0,0),(1,1,0),(2,2,0)] [] rfl (QS @uk @m9A @m9P @ui @uh @m9C @uj) (QU @uk @ud @m9A @m9P @ui @uh @m9C @uj))⟩
  |false=>rw[if_pos ⟨m,z⟩]at b;refine Gw12 @dT @dF c m @ud @za5 @zG @zaO @zih j @zy e ?_;intros;exact⟨(M,i+1,γ),⟨by simp only;omega,by simp only;omega,b⟩,by simp only;omega,(Xd [(0,0,0),(1,1,0),(2,2,0)] [] rfl (by((try simp only[evWB,Xa,Xb,Xe,Xc,Xf,implies_true,zN])<;>(repeat' with_reducible apply Wc)<;>first|(first|exact zl rfl|exact RowV.of_flat (zE λ_=>zp);done)|exact fin6)) (QK @uk @ud))⟩
mutual
theorem zrD:∀n:Nd,(∀y∈allN n,y.f.kind=9->y.l=[])->zfJ n=coll zpB n
 |
  .mk f c l,h=>by
  rw[zfJ,coll];have e:=zp8 l λy g=>h y (by rw[allN];exact List.mem_cons_of_mem _ g)
  have d:=h (.mk f c l) (by rw[allN];exact List.mem_cons_self);unfold zpB;by_cases b:f.kind=9
  .rw[if_pos b,if_pos b];have:l=[]:=d b;subst this;rfl
  .rw[if_neg b,if_neg b,e];rfl
theorem zp8:∀l:List Nd,(∀y∈zcj l,y.f.kind=9->y.l=[])->zdq l=zxD zpB l
 |[],_=>by rw[zdq,zxD]
 |
  x::l,h=>by
  rw[zdq,zxD,zrD x λy b=>h y (by rw[zcj];exact List.mem_append_left _ b),zp8 l λy b=>h y (by rw[zcj];exact List.mem_append_right _ b)]
end
theorem zKw{S:Shp}{x:Nat}{y:Nd}(h:EmP S x y)(d:y.f.kind=9):y.l=[]:=by
 cases h with
 |seq l=>exact absurd (show(1:Int)=9 from d) (by decide)
 |label=>rfl
 |block=>rfl
 |loop n _ _=>exact absurd (show(4:Int)=9 from d) (by decide)
 |while_ n _ _ _ _=>exact absurd (show(5:Int)=9 from d) (by decide)
 |if_ a b _ _ _=>exact absurd (show(3:Int)=9 from d) (by decide)
 |switch l _ _ _=>exact absurd (show(6:Int)=9 from d) (by decide)
 |ret=>rfl
 |halt=>rfl
 |leaf t c _ _ _=>
  unfold zgH;split
  .rfl
  split
  .rfl
  split<;>rfl
theorem zxk(g:G)(t:fewG g=true):zn Tryz.prog zk1 [.agg g.cells] (·=if ziM g=0 then .tup [.agg (encN (bld (shpG g) (ordE (eG g)).length)),.int .i64 0]else .tup [.agg (encN (zaq 0 0 0)),.int .i64 (ziM g)]):=by
 refine fn_x zyf rfl ?_;unfold zrF;have S:=hBig;have M:=zqE g (zxe t);have o:g.cells.length=2:=rfl;have p:[g.cells.getD 0 .undef,g.cells.getD 1 .undef]=g.cells:=rfl;have n:zz g.cells=true:=rfl;refine Gw4 @ua o p n ?_;intros;refine ze (zc M rfl) ?_;by_cases q:ziM g=0;case neg=>rw[if_neg q];refine Gw3 @dT @dF @zmz.eq_1 ?_;intros;refine⟨_,?_,rfl⟩;show Vw _ _ _ _ _ (AV.tup _) (AV.tup _);rw[zik];exact⟨zdw,.int _ _ _,trivial⟩
 rw[if_pos q,q];have e:=zzX t q;have A:=Dm.R24_Order_ok g.toG (zqQ t);have J:=Dm.R24_Tree_ok g.toG (zqQ t);rw[G.toG_cells]at A J;have L:Dm.orderL g.toG.E=ordE (eG g):=by unfold Dm.orderL;rw[if_neg (by rw[zeg];have:=e.pos;omega)];rfl
 rw[L]at A;have R:0∈ordE (eG g):=Dm.z_mem (zL e).ok (zL e).pos;have b:=ztx g e (ordE (eG g)).length 0 R (by omega) c0;have u:=zwt t q (Wf (ordE (eG g)).length);obtain⟨T,D⟩:=Dm.dtree_ex (zL e).ok (zL e).pos;have v:zfJ (bldN (shpG g) (ordE (eG g)).length)=coll zpB (bldN (shpG g) (ordE (eG g)).length):=zrD _ λy Q=>by obtain⟨x,_,P⟩:=zDb (zBz (zL e) (one:=oneG g) D) (zDA (zL e) D) (Wf _) Q;exact zKw P
 have s:bld (shpG g) (ordE (eG g)).length=zgg (hasI (zfJ (bldN (shpG g) (ordE (eG g)).length))) (bldN (shpG g) (ordE (eG g)).length):=by unfold bld;congr 1;funext x;rw[v,zHQ];rfl
 rw[s];clear s v;unfold bldN at *;generalize zex (shpG g) (ordE (eG g)).length 0 c0=N at b u⊢;have C:=zus 1000 N (by omega) (by omega);have B:=zq7 (zfJ N) 1000 N (by omega) (by omega);have F:g.cells=[.int .u32 g.addr,encL 2 Xg g.blocks]:=rfl;unfold shR at b;rw[c0_eq]at b;refine Gw6 @dT @dF @ua o p n ?_;intros;refine zsg zkM zrQ zql ziZ [(13,.agg g.cells),(14,.agg g.cells),(15,zb (ordE (eG g))),(16,.agg g.cells),(17,za (Dm.treeL (eG g))),(18,.agg [.int .u32 g.addr,encL 2 Xg g.blocks,zb (ordE (eG g)),za (Dm.treeL (eG g))]),(5,.ptr 1 0 0 0 0)] (hsOf [([(0,.row 5 [[.int .i64 0,.int .i64 0,.int .i64 0,.nilsl,.nilsl]] 0)],1),([(0,.row 5 [[.int .i64 0,.int .i64 0,.int .i64 0,.nilsl,.nilsl]] 0),(1,.row 4 [[.int .u32 0,.nilsl,.nilsl,.nilsl]] 0)],2),([(0,.row 5 [[.int .i64 0,.int .i64 0,.int .i64 0,.nilsl,.nilsl]] 0),(1,.row 4 [[.int .u32 g.addr,encL 2 Xg g.blocks,zb (ordE (eG g)),za (Dm.treeL (eG g))]] 0)],2)]) (by kernel_rfl) (by rfl) (by rfl) (by repeat' first|exact QExt.retK|apply QExt.seq|apply QExt.block|apply QExt.loop|apply QExt.join|assumption) ?plan [(5,.ptr 1 0 0 0 0)] (by rfl) ?fin
 case' plan=>
  intro c U d O;have w:c.get 13=.agg g.cells:=by rw[d,zj];rfl
  have h:c.get 14=.agg g.cells:=by rw[d,zj];rfl
  have j:c.get 15=zb (ordE (eG g)):=by rw[d,zj];rfl
  have k:c.get 16=.agg g.cells:=by rw[d,zj];rfl
  have m:c.get 17=za (Dm.treeL (eG g)):=by rw[d,zj];rfl
  have z:c.get 18=.agg [.int .u32 g.addr,encL 2 Xg g.blocks,zb (ordE (eG g)),za (Dm.treeL (eG g))]:=by rw[d,zj];rfl
  have I:c.get 5=.ptr 1 0 0 0 0:=by rw[d,zj];rfl
  have H:c.get 1=encP 2 g.cells:=by rw[d,zj];rfl
  simp only[ziZ,zng,zpD,and_true]
  (repeat' with_reducible apply Wc)
  all_goals(rw[O];simp only[zpH,zjO,Wo,Wp,hsOf,hsAt,beqL,zgX,Xa,Bool.and_true,Wk,Bool.and_false,Wj,cond_true,cond_false,Wh,Wa,Xb])
  all_goals try(simp(disch:=try exact dis1) only[evD,Xa,Xb,Xc,zcW,zca,w,h,j,k,m,z,I,H,encP,zb,za,o,p,n,F];done)
 case' fin=>simp only[zkM,hsOf,hsAt,beqL,zgX,Xa,Bool.and_true,Wk,Bool.and_false,Wj,cond_true,cond_false,Wh,Wa,Xb,Wo,Wp,zaI]
 case fin=>have K:=u;refine Qh ?_;intros;refine ze (zc b rfl) ?_;refine Gw2 @zy @zG ?_;intros;refine zC (zc C (flN rfl)) ?_;refine Gw2 @zy @zG ?_;intros;refine zC (zc B (flN rfl)) ?_;refine Gw3 @zy @zG @zmz.eq_1 ?_;intros;refine⟨_,?_,rfl⟩;show Vw _ _ _ _ _ (AV.tup _) (AV.tup _);rw[zik];exact⟨zV flA,.int _ _ _,trivial⟩
 all_goals(refine Gw2 h k ?_;intros;try with_reducible exact trivial)
 all_goals first
  |refine zC (zc A rfl) ?_
  |refine zC (zc J rfl) ?_
 all_goals(refine Gw4 j m @zcW @zca ?_;intros;try with_reducible exact trivial)
theorem L36_StructureBuilds_ok(g:G):zn Tryz.prog zdR [.agg g.cells] (·=.bool true):=by
 refine fn_x zmj rfl ?_;refine dcU zf8.eq_1 ?_;have p:=hBig;have m:=zCx g;have d:g.cells.length=2:=rfl;have h:[g.cells.getD 0 .undef,g.cells.getD 1 .undef]=g.cells:=rfl;have c:zz g.cells=true:=rfl;refine Gw4 @ua d h c ?_;intros;refine ze (zc m rfl) ?_
 cases n:fewG g with
 |false=>refine Gw0 ?_;intros;refine ze (zc ze9 rfl) ?_;refine Gw1 @zco.eq_1 ?_;intros;exact bzO
 |true=>
 have k:=zqa g n;have b:=zxk g n;refine Gw4 @ua d h c ?_;intros;refine ze (zc k rfl) ?_;by_cases j:ziM g=0;case neg=>rw[if_neg j]at b⊢;refine Gw6 @zy @zG @ua d h c ?_;intros;refine ze (zc b rfl) ?_;refine Gw4 @dT @dF @zy @zG ?_;intros;refine ze (zc (ztv 1000 (zaq 0 0 0) (by decide)) (flNN rfl)) ?_;refine Gw0 ?_;intros;refine ze (zc ze9 rfl) ?_;refine Gw1 @zco.eq_1 ?_;intros;exact bzO
 rw[if_pos j]at b⊢;have o:zc6 (bld (shpG g) (ordE (eG g)).length)<=168:=Nat.le_trans (zzC _ _) (zwt n j (Wf _));generalize bld (shpG g) (ordE (eG g)).length=e at b o⊢;refine Gw6 @zy @zG @ua d h c ?_;intros;refine ze (zc b rfl) ?_;refine Gw4 @dT @dF @zy @zG ?_;intros;refine ze (zc (ztv 1000 e (by omega)) (flNN rfl)) ?_;refine Gw0 ?_;intros;refine ze (zc ze9 rfl) ?_;refine Gw1 @zco.eq_1 ?_;intros;exact bzO
end Go.Ab
