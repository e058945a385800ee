/-
  Part 15 of the proof: how the calls of this program run, over values instead of memory, and what each function computes.
-/
import Derived.Test.YtihlaappclhhaaaGreatKn
set_option maxRecDepth 100000
set_option cbv.warning false
set_option cbv.maxSteps 100000000
set_option linter.unusedVariables false
set_option linter.unusedSimpArgs false
set_option linter.unnecessarySimpa false
set_option linter.unusedSectionVars false
open And renaming intro→Wa
open Nat renaming zero_le→Wc,zero_add→Wk,add_zero→Ws,le_refl→Wy,le_trans→WG
open List renaming cons_append→Wd,nil_append→We,getElem_mem→Wf,getD_cons_zero→Wi,getD_cons_succ→Wj,length_map→Wn,length_cons→Wq,length_nil→Wr,take_length→Wt,length_set→Wv,range→Ww,map_append→Wx,drop_of_length_le→Wz,drop_eq_getElem_cons→WA,mem_append→WB,mem_singleton→WC,all_cons→WD,any_eq_true→WE,map_cons→WF,length_append→WH,length_singleton→WI,mem_map→WJ,take_zero→WK,replicate→WL,take_succ_eq_append_getElem→WM,map_congr_left→WN,filter_append→WO,length_filter_le→WP,findIdx?_eq_some_iff_getElem→WQ,set_getElem_self→WR,filter_congr→WS,not_mem_nil→WU
open Bool renaming and_true→Wg,and_eq_true→Wl,true_and→Wm,and_false→Wo,false_and→Wp
open Int renaming toNat_natCast→Wh,toNat→Wu
namespace Go.Ab
open Go.RowKit Go.Proofs
structure LiveR(U:List Int)(g:G)(l:List Sgn)(at':List Int)(ex:Bool)(S:Nat→MS):Prop where
 inU:∀b,b < g.blocks.length→InU U (S b)
 bit:∀y,0≤y→∀b,b < g.blocks.length→decide (y∈(S b).keys)=(zmQ g.blocks.length (znx g l at' ex y)).getD b false
def zDk(n:Nat)(S:Nat→MS)(c:Int)(es:List TE):AH:=[(0,.row 3 (tabM c es) 0),(1,.row 1 (mps 2 n) 0),(2,famS n S)]
theorem lv_l6 (l:List Sgn) (at':List Int) (ex:Bool) (ad:Int) (bl:List Bl) (U:List Int) (m:Nat) (c:Int) (es:List TE) (ht:TabS l at' es) (hz:SizC U ⟨ad,bl⟩ l at' (zdO ex) m) {Q:QT}
  (hfin:∀(S:Nat→MS),LiveR U ⟨ad,bl⟩ l at' ex S→Q .normal [(3,encP 2 [.int .u32 ad,encL 2 Bl.cells bl]),(4,.ptr 1 0 0 0 0),(5,.iptr 1 fun j=>[za (zdO ex)].getD j .undef),(7,.own 2 0 0 0 bl.length),(28,.bool false)] (lvH bl.length S c es) 4)
  {K:Kn} {H:AH} {nx:Nat} (hent:Ent 1 K H nx (lvK ad bl (zdO ex) bl.length true) (lvH bl.length (fun _=>(0,[])) c es) 4) :
  zno Tryz.prog 1 zfr (zd4 2 Q) K H nx:=by
 have hB:=hBig;have hn:=hz.blk;simp only at hn
 refine zd (fun s:(Nat→MS) × Bool=>(lvK ad bl (zdO ex) bl.length s.2,lvH bl.length s.1 c es)) 4
  (fun s=>LivS U ⟨ad,bl⟩ l at' ex s.1∧(s.2=false→∀j,j < bl.length→∀y,0≤y→znx ⟨ad,bl⟩ l at' ex y (zgR bl.length s.1 y) j=(zgR bl.length s.1 y).getD j false)) (fun s=>2 * muS bl.length U.length s.1+(if s.2 then 1 else 0)) (fun _=>(0,[]),true)
  ⟨zAC U ⟨ad,bl⟩ l at' ex,fun h=>by cases h⟩ hent ?_
 rintro⟨S,ch⟩ ⟨hS,hc⟩ wf;simp only at hS hc;clear wf
 unfold zfr;conv in dcC _ _=>cbv
 simp only[lvK,lvH,Wd,We]
 cases ch with
 |
  false =>
  (refine Gw0 ?_;intros);exact hfin S ⟨hS.inU,zCJ hS (hc rfl)⟩
 |
  true =>
  (refine Gw2 @ub @zP ?_;intros);refine lv_l5 l at' ex ad bl U m c es ht hz S hS (fun S' ch' h1 h2 h3=>?_) ?_
  ·
   simp only[lvK,lvH,Wd,We];(refine Gw0 ?_;intros);refine⟨(S',ch'),⟨h1,fun h=>(h3 h).2⟩,?_,?_⟩
   ·
    cases ch' with
    | true=>have:=h2 rfl;simp only[if_true];omega
    | false=>obtain⟨e1,_⟩:=h3 rfl;subst e1;simp
   · exact(Ent.tabB [(0,0,0),(1,1,0),(2,2,0),(3,3,0)] [] rfl rfl rfl Qt Qt)
  · simp only[lvK,lvH,Wd,We];exact(Ent.tabB [(0,0,0),(1,1,0),(2,2,0),(3,3,0)] [] rfl rfl rfl Qt Qt)
theorem zpI(g:G)(l:List Sgn)(at':List Int)(ex:Bool)(U:List Int)(m:Nat)(c:Int)(es:List TE)(ht:TabS l at' es)(hz:SizC U g l at' (zdO ex) m):
  zU Tryz.prog zer [.agg g.cells,.mp 0 0,za (zdO ex)] [(0,.row 3 (tabM c es) 0)] 1
  (fun v H nx=>∃S,v=.own 1 0 0 0 g.blocks.length∧H=zDk g.blocks.length S c es∧nx=3∧LiveR U g l at' ex S):=by
 refine zR (fn_x zpO rfl ?_)
 unfold zln;conv in dcC _ _=>cbv
 have hB:=hBig;obtain⟨ad,bl⟩:=g;have hn:=hz.blk;simp only at hn ⊢;(refine Gw3 @ub @zP @G.cells.eq_1 ?_;intros);refine⟨⟨rfl,rfl⟩,fun _ _=>⟨⟨by omega,by omega,by omega⟩,fun _=>?_⟩⟩
 refine zd (fun i:Nat=>([(3,encP 2 [.int .u32 ad,encL 2 Bl.cells bl]),(4,.ptr 1 0 0 0 0),(5,.iptr 1 fun j=>[za (zdO ex)].getD j .undef),(7,.own 2 0 0 0 bl.length),(19,.int .i64 bl.length),(20,.int .i64 i)],lvI bl.length i c es)) 4
  (fun i=>i≤bl.length) (fun i=>bl.length - i) 0 (Wc _) ?_ ?_
 · simp only[Int.natCast_zero];exact zyp rfl rfl rfl ⟨zai rfl,.ptr _ _ _ _ _ _ _ _ _ rfl rfl,.iptr _ _ _,.own _ _ _ 0 _ _ _ _ _ rfl rfl,.int _ _ _,.int _ _ _,trivial⟩
 rintro i hi wf;clear wf
 unfold zid;conv in dcC _ _=>cbv
 simp only[lvI]
 by_cases hil:i < bl.length
 · (refine Gw2 @dT @zCd ?_;intros);exact⟨i+1,by omega,by omega,zAh rfl rfl rfl rfl rfl ⟨zai rfl,.ptr _ _ _ _ _ _ _ _ _ rfl rfl,.iptr _ _ _,.own _ _ _ 0 _ _ _ _ _ rfl rfl,.int _ _ _,.int _ _ _,trivial⟩⟩
 ·
  obtain rfl:i=bl.length:=by omega
  (refine Qd ?_;intros)
  unfold ziE;conv in dcC _ _=>cbv
  (refine Gw0 ?_;intros);refine lv_l6 l at' ex ad bl U m c es ht hz (fun S hS=>?_) ?_
  · simp only[lvH];(refine Gw0 ?_;intros);unfold ziB;(refine Gw1 @zlc.eq_1 ?_;intros);exact⟨.own 1 0 0 0 bl.length,zDk bl.length S c es,3,(by unfold zDk;exact(Ent.tabB [(0,0,0),(1,2,0),(2,3,0)] [] rfl rfl rfl Qt Qt)),S,rfl,rfl,rfl,hS⟩
  · have hfull:=zB3 (n:=bl.length) (c:=c) (es:=es);unfold lvI at hfull;rw[hfull];simp only[lvK,lvH];exact(Ent.tabB [(0,0,0),(1,1,0),(2,2,0),(3,3,0)] [] rfl rfl rfl Qt Qt)
theorem if_and {α:Type} {p q:Prop} [Decidable p] [Decidable q] {x y:α} (h:p):(if p∧q then x else y)=if q then x else y:=by by_cases hq:q<;>simp[h,hq]
theorem um:type_of% @zu.eq_1:=@zu.eq_1
theorem uj:type_of% @Nat.zero_add:=@Nat.zero_add
theorem zpG(rs:List Kw)(hR:CanR rs):∀(k:Nat)(e:Ex),zfH e≤k→zg6 e=true→zz Tryz.prog zbD [.agg (encR rs),.agg (encX e)] (·=.agg (zn4 rs e).cells):=by
 have hr:=hR.1;intro k
 induction k with
 | zero=>intro e h;obtain⟨_,_,_,_,l⟩:=e;rw[zfH] at h;omega
 | succ k ih =>
 intro e hk hfm;obtain⟨op,n,v,w,l⟩:=e;refine fn_x zi6 rfl ?_;unfold zeP;have hB:=hBig;rw[zfH] at hk;rw[zg6,Wl] at hfm;obtain⟨hfl,hsh⟩:=hfm;unfold zC at hsh;replace hsh:=of_decide_eq_true hsh;rw[zn4];generalize hE:encX (.mk op n v w l)=E;rw[zgj] at hE;subst hE
 have er:(encR rs).length=24:=by rw[zb4];omega
 have c0:∀l:List AV,(AV.agg l).cells=l:=fun _=>rfl
 have s0:∀l:List AV,(AV.agg l).solid=true:=fun _=>rfl
 have retK:∀(H:AH)(c:Kw),∃a,Frz H (.agg c.cells) a∧a=.agg c.cells:=fun H c=>⟨_,zai rfl,rfl⟩
 have hcl:∀c:Kw,c.cells.length=3:=fun _=>rfl
 by_cases h2:op=2
 ·
  subst h2
  have hv0:0≤v:=by omega
  by_cases hv8:v < 8
  · rw[if_pos ⟨rfl,hv0,hv8⟩];have sr:=zmh (rs:=rs) (k:=v.toNat) (by omega);(refine Gw10 @dT @dF c0 s0 er @ub @uj @zg4 sr @um ?_;intros);exact⟨rfl,retK _ _⟩
  · rw[if_neg (by omega),if_neg (by omega)];(refine Gw7 @dT @dF c0 s0 er @ub @um ?_;intros);exact retK _ Kw.no
 rw[if_neg (fun h=>h2 h.1)]
 by_cases h34:op=3∨op=4
 case neg =>
  rw[if_neg (fun h=>h34 h.1)]
  have h3:¬op=3:=fun h=>h34 (.inl h)
  have h4:¬op=4:=fun h=>h34 (.inr h)
  (refine Gw7 @dT @dF c0 s0 er @ub @um ?_;intros);exact retK _ Kw.no
 have hl2:l.length=2:=by omega
 obtain⟨a,bo,bn,bv,bw,bl,hl⟩:∃a bo bn bv bw bl,l=[a,.mk bo bn bv bw bl]:=by
  match l,hl2 with
  | [a,.mk bo bn bv bw bl],_=>exact⟨a,bo,bn,bv,bw,bl,rfl⟩
 have ga:(l.map encX).getD (Wu 0) []=encX a:=by rw[hl];rfl
 have gb:(l.map encX).getD (Wu 1) []=[.int .i64 bo,.int .u32 bn,.int .i64 bv,.int .i64 bw,encL 5 encX bl]:=by rw[hl];show encX (.mk bo bn bv bw bl)=_;rw[zgj]
 rw[show opAt1 l=bo by rw[hl];rfl,show nAt1 l=bn by rw[hl];rfl,show zl7 rs l=zn4 rs a by rw[hl,zl7]]
 have hsz:zfH a≤k:=by
  have:z7 l=zfH a+(zfH (Ex.mk bo bn bv bw bl)+0):=by rw[hl,z7,z7,z7]
  omega
 have hfa:zg6 a=true:=by rw[hl,zeO,Wl] at hfl;exact hfl.1
 have hia:=ih a hsz hfa;have hcan:=zsp hR a;clear hl
 have hfla:[AV.agg (encR rs),AV.agg (encX a)].all AV.flat=true:=by rw[WD,flX rfl,Wg];exact zoq rs
 rw[if_and h34];generalize zn4 rs a=c at hia hcan ⊢;have gc0:c.cells.getD 0 .undef=.int .i64 c.st:=rfl;have gc2:c.cells.getD 2 .undef=.int .u32 c.n:=rfl
 have gsp:∀m:Int,splice c.cells 2 [.int .u32 m]=(⟨c.st,c.base,m⟩:Kw).cells:=fun m=>rfl
 rcases h34 with rfl|rfl
 ·
  have hadd:addK 3 bn c=if c.st=1 then { c with n:=IntKind.u32.wrap (c.n+bn) } else c:=by unfold addK;simp
  (refine Gw7 @dT @dF c0 s0 er @ub gb ?_;intros);refine zpX zaB zdq zc3 zar [(20,(.agg (encR rs))),(21,(.iptr 1 fun j=>[AV.int .i64 3,.int .u32 n,.int .i64 v,.int .i64 w,encL 5 encX l].getD (4+j) .undef)),(22,encL 5 encX l),(23,(.iptr 5 fun j=>(encX a).getD j .undef)),(24,.agg (encX a)),(25,.agg c.cells),(5,.ptr 2 0 0 0 0)] (hsOf [([(0,.row 24 [encR rs] 0),(1,.row 3 [[.int .i64 0,.int .i64 0,.int .u32 0]] 0)],2),([(0,.row 24 [encR rs] 0),(1,.row 3 [[.int .i64 0,.int .i64 0,.int .u32 0]] 0),(2,.row 3 [[.int .i64 0,.int .i64 0,.int .u32 0]] 0)],3),([(0,.row 24 [encR rs] 0),(1,.row 3 [[.int .i64 0,.int .i64 0,.int .u32 0]] 0),(2,.row 3 [c.cells] 0)],3)]) (by kernel_rfl) (by rfl) (by rfl) (by repeat' first|exact QExt.retK|apply QExt.seq|apply QExt.block|apply QExt.loop|apply QExt.join|assumption) ?plan [(5,.ptr 2 0 0 0 0)] (by rfl) ?fin
  case' plan =>
   intro Kf hs hK hH
   have kf20:Kf.get 20=(.agg (encR rs)):=by rw[hK,zt];rfl
   have kf21:Kf.get 21=(.iptr 1 fun j=>[AV.int .i64 3,.int .u32 n,.int .i64 v,.int .i64 w,encL 5 encX l].getD (4+j) .undef):=by rw[hK,zt];rfl
   have kf22:Kf.get 22=encL 5 encX l:=by rw[hK,zt];rfl
   have kf23:Kf.get 23=(.iptr 5 fun j=>(encX a).getD j .undef):=by rw[hK,zt];rfl
   have kf24:Kf.get 24=.agg (encX a):=by rw[hK,zt];rfl
   have kf25:Kf.get 25=.agg c.cells:=by rw[hK,zt];rfl
   have kf5:Kf.get 5=.ptr 2 0 0 0 0:=by rw[hK,zt];rfl
   have kf2:Kf.get 2=.ptr 0 0 0 0 0:=by rw[hK,zt];rfl
   have kf3:Kf.get 3=encP 5 [.int .i64 3,.int .u32 n,.int .i64 v,.int .i64 w,encL 5 encX l]:=by rw[hK,zt];rfl
   simp only[zar,zmg,zn8,and_true]
   (repeat' with_reducible apply Wa)
   all_goals (rw[hH];simp only[zn9,zbe,Wj,Wi,hsOf,hsAt,beqL,zg5,Nat.reduceBEq,Wg,Wm,Wo,Wp,cond_true,cond_false,Wq,Wr,Nat.reduceAdd])
   all_goals try (simp(disch:=try exact dis1) only[evD,Nat.reduceBEq,Nat.reduceAdd,Nat.reduceLeDiff,zdd,zcn,kf20,kf21,kf22,kf23,kf24,kf25,kf5,kf2,kf3,fldP,zP,ga,zdw,zcs,hcl];done)
  case' fin=>simp only[zaB,hsOf,hsAt,beqL,zg5,Nat.reduceBEq,Wg,Wm,Wo,Wp,cond_true,cond_false,Wq,Wr,Nat.reduceAdd,Wj,Wi,zfM]
  ·
   by_cases hb1:bo=1
   ·
    rw[if_pos hb1,hadd]
    rcases hcan with hc|hst|hc
    ·
     have hst:c.st=0:=by rw[hc];rfl
     rw[if_neg (by omega)];(refine Gw13 @dT @dF gc0 gc2 gsp @ub @zP gb hcl c0 s0 er @um ?_;intros);exact retK _ c
    · rw[if_pos hst];(refine Gw13 @dT @dF gc0 gc2 gsp @ub @zP gb hcl c0 s0 er @um ?_;intros);exact retK _ ⟨c.st,c.base,_⟩
    ·
     have hst:c.st=2:=by rw[hc];rfl
     rw[if_neg (by omega)];(refine Gw13 @dT @dF gc0 gc2 gsp @ub @zP gb hcl c0 s0 er @um ?_;intros);rw[hc];exact retK _ Kw.no
   ·
    rw[if_neg hb1]
    by_cases hs0:c.st=0
    · (refine Gw13 @dT @dF gc0 gc2 gsp @ub @zP gb hcl c0 s0 er @um ?_;intros);exact retK _ Kw.no
    · (refine Gw13 @dT @dF gc0 gc2 gsp @ub @zP gb hcl c0 s0 er @um ?_;intros);exact retK _ Kw.no
  all_goals (repeat first|simp(disch:=try exact dis1) only[evD,Nat.reduceBEq,Nat.reduceAdd,Nat.reduceLeDiff,kf20,kf21,kf22,kf23,kf24,kf25,kf5,kf2,kf3,fldP,zP,ga,zdw,zcs,hcl,zdd,zcn,c0,s0,er]|with_reducible first|intro _|refine aJ ?_)
  all_goals first
   | omega
   | (refine zG (zf hia hfla) ?_;(refine Gw3 @zdd @zcn kf25 ?_;intros;try with_reducible exact trivial))
 ·
  have hadd:addK 4 bn c=if c.st=1 then { c with n:=IntKind.u32.wrap (c.n - bn) } else c:=by unfold addK;simp
  (refine Gw7 @dT @dF c0 s0 er @ub gb ?_;intros);refine zpX zaB zdq zc3 zar [(20,(.agg (encR rs))),(21,(.iptr 1 fun j=>[AV.int .i64 4,.int .u32 n,.int .i64 v,.int .i64 w,encL 5 encX l].getD (4+j) .undef)),(22,encL 5 encX l),(23,(.iptr 5 fun j=>(encX a).getD j .undef)),(24,.agg (encX a)),(25,.agg c.cells),(5,.ptr 2 0 0 0 0)] (hsOf [([(0,.row 24 [encR rs] 0),(1,.row 3 [[.int .i64 0,.int .i64 0,.int .u32 0]] 0)],2),([(0,.row 24 [encR rs] 0),(1,.row 3 [[.int .i64 0,.int .i64 0,.int .u32 0]] 0),(2,.row 3 [[.int .i64 0,.int .i64 0,.int .u32 0]] 0)],3),([(0,.row 24 [encR rs] 0),(1,.row 3 [[.int .i64 0,.int .i64 0,.int .u32 0]] 0),(2,.row 3 [c.cells] 0)],3)]) (by kernel_rfl) (by rfl) (by rfl) (by repeat' first|exact QExt.retK|apply QExt.seq|apply QExt.block|apply QExt.loop|apply QExt.join|assumption) ?plan2 [(5,.ptr 2 0 0 0 0)] (by rfl) ?fin2
  case' plan2 =>
   intro Kf hs hK hH
   have kf20:Kf.get 20=(.agg (encR rs)):=by rw[hK,zt];rfl
   have kf21:Kf.get 21=(.iptr 1 fun j=>[AV.int .i64 4,.int .u32 n,.int .i64 v,.int .i64 w,encL 5 encX l].getD (4+j) .undef):=by rw[hK,zt];rfl
   have kf22:Kf.get 22=encL 5 encX l:=by rw[hK,zt];rfl
   have kf23:Kf.get 23=(.iptr 5 fun j=>(encX a).getD j .undef):=by rw[hK,zt];rfl
   have kf24:Kf.get 24=.agg (encX a):=by rw[hK,zt];rfl
   have kf25:Kf.get 25=.agg c.cells:=by rw[hK,zt];rfl
   have kf5:Kf.get 5=.ptr 2 0 0 0 0:=by rw[hK,zt];rfl
   have kf2:Kf.get 2=.ptr 0 0 0 0 0:=by rw[hK,zt];rfl
   have kf3:Kf.get 3=encP 5 [.int .i64 4,.int .u32 n,.int .i64 v,.int .i64 w,encL 5 encX l]:=by rw[hK,zt];rfl
   simp only[zar,zmg,zn8,and_true]
   (repeat' with_reducible apply Wa)
   all_goals (rw[hH];simp only[zn9,zbe,Wj,Wi,hsOf,hsAt,beqL,zg5,Nat.reduceBEq,Wg,Wm,Wo,Wp,cond_true,cond_false,Wq,Wr,Nat.reduceAdd])
   all_goals try (simp(disch:=try exact dis1) only[evD,Nat.reduceBEq,Nat.reduceAdd,Nat.reduceLeDiff,zdd,zcn,kf20,kf21,kf22,kf23,kf24,kf25,kf5,kf2,kf3,fldP,zP,ga,zdw,zcs,hcl];done)
  case' fin2=>simp only[zaB,hsOf,hsAt,beqL,zg5,Nat.reduceBEq,Wg,Wm,Wo,Wp,cond_true,cond_false,Wq,Wr,Nat.reduceAdd,Wj,Wi,zfM]
  ·
   by_cases hb1:bo=1
   ·
    rw[if_pos hb1,hadd]
    rcases hcan with hc|hst|hc
    ·
     have hst:c.st=0:=by rw[hc];rfl
     rw[if_neg (by omega)];(refine Gw13 @dT @dF gc0 gc2 gsp @ub @zP gb hcl c0 s0 er @um ?_;intros);exact retK _ c
    · rw[if_pos hst];(refine Gw13 @dT @dF gc0 gc2 gsp @ub @zP gb hcl c0 s0 er @um ?_;intros);exact retK _ ⟨c.st,c.base,_⟩
    ·
     have hst:c.st=2:=by rw[hc];rfl
     rw[if_neg (by omega)];(refine Gw13 @dT @dF gc0 gc2 gsp @ub @zP gb hcl c0 s0 er @um ?_;intros);rw[hc];exact retK _ Kw.no
   ·
    rw[if_neg hb1]
    by_cases hs0:c.st=0
    · (refine Gw13 @dT @dF gc0 gc2 gsp @ub @zP gb hcl c0 s0 er @um ?_;intros);exact retK _ Kw.no
    · (refine Gw13 @dT @dF gc0 gc2 gsp @ub @zP gb hcl c0 s0 er @um ?_;intros);exact retK _ Kw.no
  all_goals (repeat first|simp(disch:=try exact dis1) only[evD,Nat.reduceBEq,Nat.reduceAdd,Nat.reduceLeDiff,kf20,kf21,kf22,kf23,kf24,kf25,kf5,kf2,kf3,fldP,zP,ga,zdw,zcs,hcl,zdd,zcn,c0,s0,er]|with_reducible first|intro _|refine aJ ?_)
  all_goals first
   | omega
   | (refine zG (zf hia hfla) ?_;(refine Gw3 @zdd @zcn kf25 ?_;intros;try with_reducible exact trivial))
theorem zjS:zz Tryz.prog zfi [] (·=.agg (encR ownR)):=by
 refine fn_x zoI rfl ?_
 unfold zke;conv in dcC _ _=>cbv
 have hB:=hBig;have hz:[AV.int .i64 0,.int .i64 0,.int .u32 0,.int .i64 0,.int .i64 0,.int .u32 0,.int .i64 0,.int .i64 0,.int .u32 0,.int .i64 0,.int .i64 0,.int .u32 0,.int .i64 0,.int .i64 0,.int .u32 0,.int .i64 0,.int .i64 0,.int .u32 0,.int .i64 0,.int .i64 0,.int .u32 0,.int .i64 0,.int .i64 0,.int .u32 0]=encR z8:=rfl;rw[←zE1];generalize hR:zjI (fun k _=>⟨1,(k:Int),0⟩) R8 z8=R
 have hR8:R.length=8:=by rw[←hR,zl8];rfl
 (refine Gw1 hz ?_;intros);refine zd (fun s:Nat × List Kw=>([(0,.ptr 0 0 0 0 0),(1,.ptr 1 0 0 0 0),(3,.int .i64 s.1)],[(0,.row 24 [encR z8] 0),(1,.row 24 [encR s.2] 0)])) 2 (fun s=>s.1≤8∧s.2.length=8∧zjI (fun k _=>⟨1,(k:Int),0⟩) (R8.drop s.1) s.2=R) (fun s=>8 - s.1) (0,z8) ⟨Wc _,rfl,hR⟩ (Ent.keep rfl fin5) ?_;rintro⟨k,rs⟩ ⟨hk,hl,hgo⟩ wf;simp only at hk hl hgo;clear wf
 unfold zhY;conv in dcC _ _=>cbv
 by_cases hk8:k < 8
 ·
  rw[zos hk8] at hgo;have hsp:=zgL (rs:=rs) (k:=k) (by omega) ⟨1,(k:Int),0⟩;simp only[Kw.cells] at hsp
  have hl2:(rs.set k ⟨1,(k:Int),0⟩).length=8:=by rw[Wv,hl]
  (refine Gw5 @dT @ue @uj @zg4 hsp ?_;intros);exact⟨(k+1,rs.set k ⟨1,(k:Int),0⟩),⟨hk8,hl2,hgo⟩,by simp only;omega,Ent.keep rfl fin5⟩
 ·
  obtain rfl:k=8:=by omega
  rw[show R8.drop 8=[] from rfl,show zjI (fun k _=>⟨1,(k:Int),0⟩) [] rs=rs from rfl] at hgo;subst hgo;(refine Qd ?_;intros)
  unfold zhD;conv in dcC _ _=>cbv
  (refine Gw1 @zjW.eq_1 ?_;intros);exact⟨by rw[zb4];omega,_,vw_R,rfl⟩
theorem ut:type_of% @Nat.add_zero:=@Nat.add_zero
theorem zi5(r o:List Kw)(hr:r.length=8)(ho:o.length=8):zz Tryz.prog zcV [.agg (encR r),.agg (encR o)] (·=.agg (encR (zrs r o))):=by
 refine fn_x zi3 rfl ?_
 unfold zeJ zrs;conv in dcC _ _=>cbv
 have hB:=hBig;have hz:[AV.int .i64 0,.int .i64 0,.int .u32 0,.int .i64 0,.int .i64 0,.int .u32 0,.int .i64 0,.int .i64 0,.int .u32 0,.int .i64 0,.int .i64 0,.int .u32 0,.int .i64 0,.int .i64 0,.int .u32 0,.int .i64 0,.int .i64 0,.int .u32 0,.int .i64 0,.int .i64 0,.int .u32 0,.int .i64 0,.int .i64 0,.int .u32 0]=encR z8:=rfl;generalize hR:zjI (fun k a=>zrP a (o.getD k Kw.z)) R8 r=R
 have hR8:R.length=8:=by rw[←hR,zl8];exact hr
 have er:(encR r).length=24:=by rw[zb4];omega
 have eo:(encR o).length=24:=by rw[zb4];omega
 have c0:∀l:List AV,(AV.agg l).cells=l:=fun _=>rfl
 have s0:∀l:List AV,(AV.agg l).solid=true:=fun _=>rfl
 (refine Gw5 hz c0 s0 er eo ?_;intros);refine zd (fun s:Nat × List Kw=>([(2,.ptr 0 0 0 0 0),(3,.ptr 1 0 0 0 0),(4,.ptr 2 0 0 0 0),(6,.int .i64 s.1)],[(0,.row 24 [encR s.2] 0),(1,.row 24 [encR o] 0),(2,.row 24 [encR z8] 0)])) 3 (fun s=>s.1≤8∧s.2.length=8∧zjI (fun k a=>zrP a (o.getD k Kw.z)) (R8.drop s.1) s.2=R) (fun s=>8 - s.1) (0,r) ⟨Wc _,hr,hR⟩ (Ent.keep rfl fin5) ?_;rintro⟨k,rs⟩ ⟨hk,hl,hgo⟩ wf;simp only at hk hl hgo;clear wf
 unfold zdI;conv in dcC _ _=>cbv
 by_cases hk8:k < 8
 ·
  rw[zos hk8] at hgo
  have hks:k < rs.length:=by omega
  have hko:k < o.length:=by omega
  have sr:=zmh hks;have so:=zmh hko;have gr:=zor (j:=0) hks (by decide);have go:=zor (j:=0) hko (by decide);have sp:=zgL hks;have sp1:=sp (o.getD k Kw.z);have sp2:=sp Kw.no;simp only[Kw.cells,Kw.no,Wi,Ws] at sp1 sp2 gr go
  have hset:∀c:Kw,(rs.set k c).length=8:=fun c=>by rw[Wv,hl]
  have hself:=zte hks;unfold zrP at hgo;generalize rs.getD k Kw.z=a at gr sr hgo hself;generalize o.getD k Kw.z=b at go so hgo sp1
  by_cases h1:a.st=0
  · rw[if_pos h1] at hgo;simp only[Kw.cells] at so;(refine Gw11 @dT @dF @ue @uj @ut @zg4 gr go sr so sp1 ?_;intros);exact⟨(k+1,rs.set k b),⟨hk8,hset _,hgo⟩,by simp only;omega,Ent.keep rfl fin5⟩
  ·
   rw[if_neg h1] at hgo
   by_cases h2:b.st=0
   · rw[if_neg (fun h=>h.1 h2),hself] at hgo;(refine Gw10 @dT @dF @ue @uj @ut @zg4 gr go sr so ?_;intros);exact⟨(k+1,rs),⟨hk8,hl,hgo⟩,by simp only;omega,Ent.keep rfl fin5⟩
   ·
    by_cases h3:a=b
    ·
     rw[if_neg (fun h=>h.2 h3),hself] at hgo
     have d3:(!decide (a=b))=false:=by simp[h3]
     (repeat first|simp(disch:=try exact dis1) only[evD,Nat.reduceBEq,Nat.reduceAdd,Nat.reduceLeDiff,dT,dF,Wh,Wk,Ws,zg4,gr,go,sr,so,eqsK,eqTo,cond_true,d3]|with_reducible first|intro _|refine aJ ?_)
     exact⟨(k+1,rs),⟨hk8,hl,hgo⟩,by simp only;omega,Ent.keep rfl fin5⟩
    ·
     rw[if_pos ⟨h2,h3⟩] at hgo
     have d3:(!decide (a=b))=true:=by simp[h3]
     (repeat first|simp(disch:=try exact dis1) only[evD,Nat.reduceBEq,Nat.reduceAdd,Nat.reduceLeDiff,dT,dF,Wh,Wk,Ws,zg4,gr,go,sr,so,eqsK,eqTo,cond_true,d3,sp2]|with_reducible first|intro _|refine aJ ?_)
     exact⟨(k+1,rs.set k Kw.no),⟨hk8,hset _,hgo⟩,by simp only;omega,Ent.keep rfl fin5⟩
 ·
  obtain rfl:k=8:=by omega
  rw[show R8.drop 8=[] from rfl,show zjI (fun k a=>zrP a (o.getD k Kw.z)) [] rs=rs from rfl] at hgo;subst hgo;(refine Qd ?_;intros)
  unfold zdJ;conv in dcC _ _=>cbv
  (refine Gw1 @zeK.eq_1 ?_;intros);exact⟨by rw[zb4];omega,_,vw_R,rfl⟩
theorem zau{H HH:AH}{σ:Nat→Nat→Option (Nat × Nat × Nat)}{D:Nat→Nat→Prop}:RowV H HH σ D [[.nilsl,.nilsl,.nilsl]] [zbF.cells]:=by
 refine⟨rfl,fun i c2 hi=>?_⟩
 cases i with
 | succ i=>cases hi
 |
  zero =>
  cases hi;refine⟨_,rfl,rfl,fun j x y h1 h2=>?_⟩
  match j with
  | 0=>cases h1;cases h2;exact zg
  | 1=>cases h1;cases h2;exact zg
  | 2=>cases h1;cases h2;exact zg
  | j+3=>cases h1
theorem zan{s:Sgn}:zr [s.cells]:=zN rfl
theorem zkD{l:List Int}{x:Int}(h:x∈l):hasI l x=true:=by unfold hasI;exact WE.2 ⟨x,h,decide_eq_true rfl⟩
theorem zkC{l:List Int}{x:Int}(h:x∉l):hasI l x=false:=by
 unfold hasI
 refine Bool.eq_false_iff.2 fun e=>?_
 obtain⟨y,h1,h2⟩:=WE.1 e;exact h ((of_decide_eq_true h2)▸h1)
theorem Qz{A0 p:Prop}(a0:A0)(h:A0→p:=by intro a0;(try simp only[evWB,Nat.reduceBEq,Nat.reduceAdd,Nat.reduceSub,Nat.reduceLeDiff,Nat.reduceLT,implies_true,a0])<;>(repeat' with_reducible apply And.intro)<;>first | (first|exact zb|exact zg|exact zau|exact RowV.of_flat (zN (zc _))|exact RowV.of_flat zan|exact zk (zc _);done)|exact fin6):p:=h a0
theorem zsj (rs:List Kw) (hr:rs.length=8) (s:Sgn) (c:Int) (es:List TE) {Q:QT}
  (hfin:∀(b:Bool),Q .normal [(3,.ptr 1 0 0 0 0),(6,.ptr 2 0 0 0 0),(7,.ptr 3 0 0 0 0),(40,.int .i64 (8:Nat)),(41,.bool false)] [(0,.row 3 (tabM c es) 0),(1,.row 24 [encR (retR s rs)] 0),(2,.row 24 [encR z8] 0),(3,.row 3 [s.cells] 0)] 4)
  {K:Kn} {H:AH} {nx:Nat} (hent:Ent 1 K H nx [(3,.ptr 1 0 0 0 0),(6,.ptr 2 0 0 0 0),(7,.ptr 3 0 0 0 0),(40,.int .i64 (0:Nat))] [(0,.row 3 (tabM c es) 0),(1,.row 24 [encR rs] 0),(2,.row 24 [encR z8] 0),(3,.row 3 [s.cells] 0)] 4) :
  zno Tryz.prog 1 zbM (zd4 1 Q) K H nx:=by
 have hB:=hBig
 have hsav:=fun x=>zaq s.sav x
 have hres:=fun x=>zaq s.res x
 unfold retR at hfin;generalize hR:zjI (ret1 s) R8 rs=R at hfin
 have hR8:R.length=8:=by rw[←hR,zl8];exact hr
 refine zd (fun t:Nat × List Kw=>([(3,.ptr 1 0 0 0 0),(6,.ptr 2 0 0 0 0),(7,.ptr 3 0 0 0 0),(40,.int .i64 t.1)],[(0,.row 3 (tabM c es) 0),(1,.row 24 [encR t.2] 0),(2,.row 24 [encR z8] 0),(3,.row 3 [s.cells] 0)])) 4 (fun t=>t.1≤8∧t.2.length=8∧zjI (ret1 s) (R8.drop t.1) t.2=R) (fun t=>8 - t.1) (0,rs) ⟨Wc _,hr,hR⟩ hent ?_;rintro⟨k,rs⟩ ⟨hk,hl,hgo⟩ wf;simp only at hk hl hgo;clear wf hent
 unfold zbM;conv in dcC _ _=>cbv
 by_cases hk8:k < 8
 ·
  rw[zos hk8] at hgo
  have hks:k < rs.length:=by omega
  have sr:=zmh hks;have gr:=zor (j:=0) hks (by decide);have gn:=zor (j:=2) hks (by decide);have sp2:=zgL hks Kw.no
  have sp3:=fun n=>ztY hks n
  simp only[Kw.cells,Kw.no,Wi,Wj,Ws] at sp2 gr gn
  have hset:∀c:Kw,(rs.set k c).length=8:=fun c=>by rw[Wv,hl]
  have hself:=zte hks;unfold ret1 at hgo;have h1:=hsav k;have h2:=hres k;have sg:s.cells=[za s.args,za s.res,za s.sav]:=rfl;have g1:s.cells.getD 1 .undef=za s.res:=rfl;have g2:s.cells.getD 2 .undef=za s.sav:=rfl;have d7:decide ((k:Int)=7)=decide (k=7):=decide_eq_decide.2 (by omega)
  by_cases hs:(k:Int)∈s.sav
  ·
   rw[if_pos hs] at hgo;rw[zkD hs] at h1
   by_cases h7:k=7
   ·
    by_cases hst:(rs.getD k Kw.z).st=1
    · rw[if_pos ⟨h7,hst⟩] at hgo;have hgo2:=hgo;generalize rs.getD k Kw.z=a at gr gn sp3 hgo hst;(refine Gw9 @dT @dF @ue @uj @ut @zg4 gr g1 g2 ?_;intros);refine zi (zf h1 rfl) ?_;(refine Gw10 @dT @dF d7 @ue @uj @ut @zg4 gr gn sp3 ?_;intros);exact⟨(k+1,_),⟨hk8,hset _,hgo⟩,by simp only;omega,(Ent.tabB [(0,0,0),(1,1,0),(2,2,0),(3,3,0)] [] rfl rfl rfl (Qz @ua) (Qz @ua))⟩
    · rw[if_neg (fun h=>hst h.2),hself] at hgo;generalize rs.getD k Kw.z=a at gr gn sp3 hst;(refine Gw9 @dT @dF @ue @uj @ut @zg4 gr g1 g2 ?_;intros);refine zi (zf h1 rfl) ?_;(refine Gw8 @dT @dF d7 @ue @uj @ut @zg4 gr ?_;intros);exact⟨(k+1,rs),⟨hk8,hl,hgo⟩,by simp only;omega,(Ent.tabB [(0,0,0),(1,1,0),(2,2,0),(3,3,0)] [] rfl rfl rfl (Qz @ua) (Qz @ua))⟩
   · rw[if_neg (fun h=>h7 h.1),hself] at hgo;(refine Gw7 @dT @dF @ue @uj @ut g1 g2 ?_;intros);refine zi (zf h1 rfl) ?_;(refine Gw2 @dF d7 ?_;intros);exact⟨(k+1,rs),⟨hk8,hl,hgo⟩,by simp only;omega,(Ent.tabB [(0,0,0),(1,1,0),(2,2,0),(3,3,0)] [] rfl rfl rfl (Qz @ua) (Qz @ua))⟩
  ·
   rw[if_neg hs] at hgo;rw[zkC hs] at h1
   by_cases hrs:(k:Int)∈s.res
   · rw[if_pos hrs] at hgo;rw[zkD hrs] at h2;(refine Gw4 @dT @dF g1 g2 ?_;intros);refine zi (zf h1 rfl) ?_;(refine Gw2 g1 g2 ?_;intros);refine zi (zf h2 rfl) ?_;(refine Gw7 @dT @dF @ue @uj @ut @zg4 sp2 ?_;intros);exact⟨(k+1,rs.set k Kw.no),⟨hk8,hset _,hgo⟩,by simp only;omega,(Ent.tabB [(0,0,0),(1,1,0),(2,2,0),(3,3,0)] [] rfl rfl rfl (Qz @ua) (Qz @ua))⟩
   · rw[if_neg hrs,hself] at hgo;rw[zkC hrs] at h2;(refine Gw4 @dT @dF g1 g2 ?_;intros);refine zi (zf h1 rfl) ?_;(refine Gw2 g1 g2 ?_;intros);refine zi (zf h2 rfl) ?_;(refine Qb ?_;intros);exact⟨(k+1,rs),⟨hk8,hl,hgo⟩,by simp only;omega,(Ent.tabB [(0,0,0),(1,1,0),(2,2,0),(3,3,0)] [] rfl rfl rfl (Qz @ua) (Qz @ua))⟩
 ·
  obtain rfl:k=8:=by omega
  rw[show R8.drop 8=[] from rfl,show zjI (ret1 s) [] rs=rs from rfl] at hgo;subst hgo;(refine Qd ?_;intros);exact hfin false
theorem zdV{H HH:AH}{σ:Nat→Nat→Option (Nat × Nat × Nat)}{D:Nat→Nat→Prop}:VwL H HH σ D true [.nilsl,.nilsl,.nilsl] zbF.cells:=⟨zg,zg,zg,trivial⟩
theorem QA{A0 p:Prop}(a0:A0)(h:A0→p:=by intro a0;(try simp only[evWB,Nat.reduceBEq,Nat.reduceAdd,Nat.reduceSub,Nat.reduceLeDiff,Nat.reduceLT,implies_true,a0])<;>(repeat' with_reducible apply And.intro)<;>first | (first|exact zb|exact zg|exact zau|exact RowV.of_flat (zN (zc _))|exact RowV.of_flat zan|exact zk (zc _)|exact vw_R|exact zdV;done)|exact fin6):p:=h a0
theorem zkt(s:St)(rs:List Kw)(hR:CanR rs)(l:List Sgn)(at':List Int)(hok:OkS s)(c:Int)(es:List TE)(ht:TabS l at' es):
  zU Tryz.prog zbf [.agg (encR rs),.agg s.cells,.mp 0 0] [(0,.row 3 (tabM c es) 0)] 1
  (fun v H nx=>v=.agg (encR (thr1 l at' rs s))∧H=[(0,.row 3 (tabM c es) 0)]∧nx=1):=by
 have hr:=hR.1;refine zR (fn_x ziP rfl ?_)
 unfold zek;conv in dcC _ _=>cbv
 have hB:=hBig;have hz:[AV.int .i64 0,.int .i64 0,.int .u32 0,.int .i64 0,.int .i64 0,.int .u32 0,.int .i64 0,.int .i64 0,.int .u32 0,.int .i64 0,.int .i64 0,.int .u32 0,.int .i64 0,.int .i64 0,.int .u32 0,.int .i64 0,.int .i64 0,.int .u32 0,.int .i64 0,.int .i64 0,.int .u32 0,.int .i64 0,.int .i64 0,.int .u32 0]=encR z8:=rfl
 have er:(encR rs).length=24:=by rw[zb4];omega
 have ez:(encR z8).length=24:=rfl
 have c0:∀l:List AV,(AV.agg l).cells=l:=fun _=>rfl
 have s0:∀l:List AV,(AV.agg l).solid=true:=fun _=>rfl
 have htc:=zoG ht s.tgt;have hmf:=zo5 (a:=s.tgt) (es:=es) (i:=0)
 have hret:∀u:List Kw,u=thr1 l at' rs s→AV.agg (encR u)=.agg (encR (thr1 l at' rs s)):=fun u h=>by rw[h]
 unfold thr1 at hret ⊢;obtain⟨op,var,width,next,els,tgt,e,cs⟩:=s;obtain⟨hasg,hvar,hform,hsz⟩:=hok;simp only at hasg hvar hform hret hsz htc hmf ⊢
 by_cases h1:op=1
 ·
  have hv0:=hvar (.inl h1);subst h1
  by_cases hv:var < 8
  ·
   have hel:=hasg rfl
   cases e with
   | nil=>exact absurd rfl hel
   | cons x e =>
   have hsp:=zgL (rs:=rs) (k:=var.toNat) (by omega) (zn4 rs x);have hvx:=zpG rs hR (zfH x) x (Wy _) (hform x (by simp));have gx:((x::e).map encX).getD (Wu 0) []=encX x:=rfl
   have hln:0 < (x::e).length:=by simp
   have hfla:[AV.agg (encR rs),AV.agg (encX x)].all AV.flat=true:=by rw[WD,flX rfl,Wg];exact zoq rs
   rw[zl7] at hret ⊢;generalize zn4 rs x=cv at hret hsp hvx ⊢;generalize hE:x::e=E at gx hln
   have er2:(encR (rs.set var.toNat cv)).length=24:=by rw[zb4,Wv];omega
   (refine Gw14 @dT @dF hz c0 s0 er ez @ub @zP gx @zdw @zcs @uc @ua ?_;intros);refine zG (zf hvx hfla) ?_;(refine Gw11 @dT @dF c0 s0 er ez @ub @zP @uj @zg4 hsp ?_;intros);refine⟨⟨by omega,rfl⟩,?_⟩
   unfold zJ;conv in dcC _ _=>cbv
   (refine Gw4 er ez er2 @zQ.eq_1 ?_;intros);exact⟨_,_,_,(Ent.tabB [(0,0,0)] [] rfl rfl rfl (QA @ua) (QA @ua)),hret (rs.set var.toNat cv) (by rw[if_pos rfl,if_pos hv]),rfl,rfl⟩
  ·
   have er2:=er;(refine Gw11 @dT @dF hz c0 s0 er ez @ub @zP @uc @ua ?_;intros)
   unfold zJ;conv in dcC _ _=>cbv
   (refine Gw4 er ez er2 @zQ.eq_1 ?_;intros);exact⟨_,_,_,(Ent.tabB [(0,0,0)] [] rfl rfl rfl (QA @ua) (QA @ua)),hret rs (by rw[if_pos rfl,if_neg hv]),rfl,rfl⟩
 by_cases h3:op=3
 ·
  have hv0:=hvar (.inr h3);subst h3
  by_cases hv:var < 8
  ·
   have hsp:=zgL (rs:=rs) (k:=var.toNat) (by omega) Kw.no;simp only[Kw.cells,Kw.no] at hsp
   have er2:(encR (rs.set var.toNat ⟨2,0,0⟩)).length=24:=by rw[zb4,Wv];omega
   (refine Gw14 @dT @dF hz c0 s0 er ez @ub @zP @uj @zg4 hsp @uc @ua ?_;intros)
   unfold zJ;conv in dcC _ _=>cbv
   (refine Gw4 er ez er2 @zQ.eq_1 ?_;intros);exact⟨_,_,_,(Ent.tabB [(0,0,0)] [] rfl rfl rfl (QA @ua) (QA @ua)),hret (rs.set var.toNat ⟨2,0,0⟩) (by rw[if_neg h1,if_pos rfl,if_pos hv];rfl),rfl,rfl⟩
  ·
   have er2:=er;(refine Gw11 @dT @dF hz c0 s0 er ez @ub @zP @uc @ua ?_;intros)
   unfold zJ;conv in dcC _ _=>cbv
   (refine Gw4 er ez er2 @zQ.eq_1 ?_;intros);exact⟨_,_,_,(Ent.tabB [(0,0,0)] [] rfl rfl rfl (QA @ua) (QA @ua)),hret rs (by rw[if_neg h1,if_pos rfl,if_neg hv]),rfl,rfl⟩
 by_cases h5:op=5
 ·
  subst h5
  have er2:(encR (retR (zbc l at' tgt) rs)).length=24:=by rw[zb4,zDf];omega
  generalize zbc l at' tgt=cs0 at hret htc er2 ⊢;have htab:tabM c es=[AV.int .i64 c,.undef,.undef]::es.map cT:=rfl
  cases hat:atT es tgt with
  |
   none =>
   rw[hat] at htc hmf;simp only at htc hmf;subst htc;(refine Gw13 @dT @dF hz c0 s0 er ez @ub @zP @ur hmf @uc @ua ?_;intros);rw[←htab];refine zsj rs hr zbF c es (fun b=>?_) (Ent.tabB [(0,0,0),(1,1,0),(2,2,0),(3,3,0)] [] rfl rfl rfl (QA @ua) (QA @ua));(refine Gw0 ?_;intros)
   unfold zJ;conv in dcC _ _=>cbv
   (refine Gw4 er ez er2 @zQ.eq_1 ?_;intros);exact⟨_,_,_,(Ent.tabB [(0,0,0)] [] rfl rfl rfl (QA @ua) (QA @ua)),hret (retR zbF rs) (by rw[if_neg (by decide),if_neg (by decide),if_pos rfl]),rfl,rfl⟩
  |
   some j =>
   rw[hat] at htc hmf;simp only at htc hmf;rw[htc] at hmf;(refine Gw13 @dT @dF hz c0 s0 er ez @ub @zP @ur hmf @uc @ua ?_;intros);rw[←htab];refine⟨rfl,?_⟩;refine zsj rs hr cs0 c es (fun b=>?_) (Ent.tabB [(0,0,0),(1,1,0),(2,2,0),(3,3,0)] [] rfl rfl rfl (QA @ua) (QA @ua));(refine Gw0 ?_;intros)
   unfold zJ;conv in dcC _ _=>cbv
   (refine Gw4 er ez er2 @zQ.eq_1 ?_;intros);exact⟨_,_,_,(Ent.tabB [(0,0,0)] [] rfl rfl rfl (QA @ua) (QA @ua)),hret (retR cs0 rs) (by rw[if_neg (by decide),if_neg (by decide),if_pos rfl]),rfl,rfl⟩
 ·
  have er2:=er;(refine Gw11 @dT @dF hz c0 s0 er ez @ub @zP @uc @ua ?_;intros)
  unfold zJ;conv in dcC _ _=>cbv
  (refine Gw4 er ez er2 @zQ.eq_1 ?_;intros);exact⟨_,_,_,(Ent.tabB [(0,0,0)] [] rfl rfl rfl (QA @ua) (QA @ua)),hret rs (by rw[if_neg h1,if_neg h3,if_neg h5]),rfl,rfl⟩
theorem QB{A0 A1 p:Prop}(a0:A0)(a1:A1)(h:A0→A1→p:=by intro a0 a1;(try simp only[evWB,Nat.reduceBEq,Nat.reduceAdd,Nat.reduceSub,Nat.reduceLeDiff,Nat.reduceLT,implies_true,a0,a1])<;>(repeat' with_reducible apply And.intro)<;>first | (first|exact zg;done)|exact fin6):p:=h a0 a1
theorem zct(γ:Nat)(l:List Int)(hn:l.length≤1000000):zU Tryz.prog zcQ [.own 0 0 γ 0 l.length] [(0,.row 1 (l.map fun n=>[.int .i64 n]) γ)] 1
  (fun v H nx=>v=.own 0 0 γ 0 l.length∧H=[(0,.row 1 (l.map fun n=>[.int .i64 n]) γ)]∧nx=1):=by
 refine zR (fn_x znk rfl ?_)
 unfold ziD;conv in dcC _ _=>cbv
 have hB:=hBig;(refine Gw1 @zii.eq_1 ?_;intros);exact⟨_,_,_,(Ent.tabB [(0,0,0)] [] rfl rfl rfl (QB @ze @ua) (QB @ze @ua)),rfl,rfl,rfl⟩
theorem zqO{ρ:Nat→Nat}{l:List Int}{g:Nat}:AObj.ren ρ (.row 1 (l.map fun n=>[AV.int .i64 n]) g)=.row 1 (l.map fun n=>[AV.int .i64 n]) g:=by
 simp only[AObj.ren,List.map_map]
 congr 1
 exact WN fun i _=>by simp only[Function.comp,WF,List.map_nil,AV.ren]
def srtP(a:MS)(sk:List Int)(v:Nat):Bool:=decide ((v:Int)∈a.keys) && !hasI sk v
def srtL(a:MS)(sk:List Int):List Int:=((Ww 12).filter (srtP a sk)).map fun(v:Nat)=>(v:Int)
def outN(a:MS)(sk:List Int)(j:Nat):List Int:=((Ww j).filter (srtP a sk)).map fun(v:Nat)=>(v:Int)
theorem zrb{a:MS}{sk:List Int}{j:Nat}:outN a sk (j+1)=if srtP a sk j then outN a sk j++[(j:Int)] else outN a sk j:=by
 unfold outN;rw[List.range_succ,WO,Wx]
 by_cases h:srtP a sk j=true
 · rw[if_pos h];simp[h]
 · rw[if_neg h];simp[h]
theorem zmm{a:MS}{sk:List Int}{j:Nat}:(outN a sk j).length≤j:=by unfold outN;rw[Wn];exact WG (WP _ _) (by simp)
theorem QC{A0 A1 A2 A3 p:Prop}(a0:A0)(a1:A1)(a2:A2)(a3:A3)(h:A0→A1→A2→A3→p:=by intro a0 a1 a2 a3;(try simp only[evWB,Nat.reduceBEq,Nat.reduceAdd,Nat.reduceSub,Nat.reduceLeDiff,Nat.reduceLT,implies_true,a0,a1,a2,a3])<;>(repeat' with_reducible apply And.intro)<;>first | (first|exact zg;done)|exact fin6):p:=h a0 a1 a2 a3
theorem znG(a:MS)(sk:List Int):zU Tryz.prog zX [.mp 0 0,za sk] [(0,.row 3 ((setM a.1 a.2).map cm) 0)] 1
  (fun v H nx=>v=za (srtL a sk)∧H=[(0,.row 3 ((setM a.1 a.2).map cm) 0)]∧nx=1):=by
 refine zR (fn_x zf6 rfl ?_)
 unfold zd0;conv in dcC _ _=>cbv
 have hB:=hBig
 have hcon:=fun x=>zaq sk x
 (refine Gw0 ?_;intros);refine zd (fun s:Nat × Nat=>([(0,.mp 0 0),(1,za sk),(5,.own 1 0 s.2 0 (outN a sk s.1).length),(7,.int .i64 s.1)],[(0,.row 3 ((setM a.1 a.2).map cm) 0),(1,.row 1 ((outN a sk s.1).map fun n=>[.int .i64 n]) s.2)])) 2 (fun s=>s.1≤12) (fun s=>12 - s.1) (0,0) (Wc _) (by rw[show outN a sk (0,0).1=[] from rfl];exact(Ent.tabB [(0,0,0),(1,2,0)] [] rfl rfl rfl (QB @ze @ua) (QB @ze @ua))) ?_;rintro⟨j,γ⟩ hj wf;simp only at hj;clear wf
 unfold zcP;conv in dcC _ _=>cbv
 by_cases hj12:j < 12
 case neg =>
  obtain rfl:j=12:=by omega
  have hol:=zmm (a:=a) (sk:=sk) (j:=12);(refine Qd ?_;intros)
  unfold zcR;conv in dcC _ _=>cbv
  generalize hO:outN a sk 12=O at hol ⊢;(refine Gw0 ?_;intros);refine zx [(0,1,0)] 1 _ (zct γ O (by omega)) rfl rfl fin9 fin9 ?_;rintro _ _ _ ⟨rfl,rfl,rfl⟩
  (repeat first|simp(disch:=try exact dis1) only[evD,Nat.reduceBEq,Nat.reduceAdd,Nat.reduceLeDiff,zqO,AV.ren,show Tab.to [(0,1,0)] 2 0=1 from rfl,zee]|with_reducible intro _ | ((with_reducible apply Wa);omega))
  exact⟨za (srtL a sk),[(0,.row 3 ((setM a.1 a.2).map cm) 0)],1,by rw[show srtL a sk=O from hO];exact(Ent.tabB [(0,0,0)] [1] rfl rfl rfl (QB @ze @ua) (QB @ze @ua)),rfl,rfl,rfl⟩
 have hsu:=zrb (a:=a) (sk:=sk) (j:=j);have hol:=zmm (a:=a) (sk:=sk) (j:=j);have hcj:=hcon j
 by_cases hm:(j:Int)∈a.2.map (·.1)
 ·
  obtain⟨i,hi,hie,hf⟩:=zgr hm
  cases hc:hasI sk j with
  |
   true =>
   rw[if_neg (by unfold srtP;rw[hc];simp)] at hsu;rw[hc] at hcj;(refine Gw3 @dT @ze hf ?_;intros);refine zi (zf hcj rfl) ?_;(refine Gw0 ?_;intros);refine⟨(j+1,γ),by omega,by simp only;omega,by rw[hsu];exact(Ent.tabB [(0,0,0),(1,1,0)] [] rfl rfl rfl (QB @ze @ua) (QB @ze @ua))⟩
  |
   false =>
   rw[if_pos (by unfold srtP;rw[hc];simp only[Bool.not_false,Wg];exact decide_eq_true hm)] at hsu;rw[hc] at hcj;(refine Gw3 @dT @ze hf ?_;intros);refine zi (zf hcj rfl) ?_;(refine Gw0 ?_;intros);refine⟨(j+1,γ+1),by omega,by simp only;omega,by rw[hsu,WH,WI,Wx];exact(Ent.tabB [(0,0,0),(1,1,0)] [] rfl rfl rfl (QC @ze @ua @m9C @m9N) (QC @ze @ua @m9C @m9N))⟩
 · have hf:=zeH hm;rw[if_neg (by unfold srtP MS.keys;simp only[Wl,decide_eq_true_eq];exact fun h=>hm h.1)] at hsu;(refine Gw3 @dT @ze hf ?_;intros);refine⟨(j+1,γ),by omega,by simp only;omega,by rw[hsu];exact(Ent.tabB [(0,0,0),(1,1,0)] [] rfl rfl rfl (QB @ze @ua) (QB @ze @ua))⟩
def cmN(p:Int × Int):List AV:=[.int .i64 p.1,.bool true,.undef]
def setN(a:MS):List (List AV):=[.undef,.undef,.undef]::a.2.map cmN
theorem zap{a:MS}:zr (setN a):=by
 intro c hc
 rcases List.mem_cons.1 hc with rfl|hc
 · rfl
 · obtain⟨p,_,rfl⟩:=WJ.1 hc;rfl
theorem zrg{k:Int}:∀ {ps:List (Int × Int)} {i:Nat},zcA (.int .i64 k) (ps.map cmN) i=some (match ps.findIdx? (fun p=>decide (p.1=k)) with
  | some j=>some (i+j,.bool true)
  | none=>none)
 | [],i=>rfl
 |
  p::ps,i=>by
  rw[List.findIdx?_cons]
  by_cases h:k=p.1
  · rw[if_pos (decide_eq_true h.symm)];simp only[WF,cmN,zcA,zoP,if_true,decide_eq_true h,Ws]
  ·
   rw[if_neg (by simp;exact fun e=>h e.symm)]
   have e:zcA (.int .i64 k) ((p::ps).map cmN) i=zcA (.int .i64 k) (ps.map cmN) (i+1):=by simp only[WF,cmN,zcA,zoP,if_true,decide_eq_false h]
   rw[e,zrg]
   cases ps.findIdx? (fun p=>decide (p.1=k)) with
   | none=>rfl
   |
    some j =>
    simp only[Option.map_some,Option.some.injEq,Prod.mk.injEq,and_true];omega
theorem zkf{k:Int}{ps:List (Int × Int)}(h:k∈ps.map (·.1)):∃j,∃hj:j < ps.length,ps[j].1=k∧zcA (.int .i64 k) (ps.map cmN) 0=some (some (j,.bool true)):=by
 rw[zrg]
 cases hf:ps.findIdx? (fun p=>decide (p.1=k)) with
 |
  none =>
  obtain⟨p,hp,rfl⟩:=WJ.1 h;have:=List.findIdx?_eq_none_iff.1 hf p hp;simp at this
 |
  some j =>
  obtain⟨h1,h2,_⟩:=WQ.1 hf;exact⟨j,h1,of_decide_eq_true h2,by simp⟩
theorem ziG{k:Int}{ps:List (Int × Int)}(h:k∉ps.map (·.1)):zcA (.int .i64 k) (ps.map cmN) 0=some none:=by
 rw[zrg]
 cases hf:ps.findIdx? (fun p=>decide (p.1=k)) with
 | none=>rfl
 |
  some j =>
  obtain⟨h1,h2,_⟩:=WQ.1 hf;exact absurd (WJ.2 ⟨_,Wf h1,of_decide_eq_true h2⟩) h
theorem zCj{ps:List (Int × Int)}{j:Nat}{v:Int}(hj:j < ps.length)(h:ps[j].1=v):(ps.map cmN).set j [.int .i64 v,.bool true,((ps.map cmN).getD j []).getD 2 .undef]=ps.map cmN:=by
 have hg:(ps.map cmN).getD j []=[.int .i64 ps[j].1,.bool true,.undef]:=zn (f:=cmN) hj;rw[hg];simp only[Wj,Wi,←h]
 have:[AV.int .i64 ps[j].1,.bool true,.undef]=(ps.map cmN)[j]'(by simpa using hj):=by simp[cmN]
 rw[this];exact WR _
theorem ztp{c v:Int}{ps:List (Int × Int)}:(ps++[(v,c)]).map cmN=ps.map cmN++[[.int .i64 v,.bool true,.undef]]:=by simp[cmN]
theorem zam{ps:List (Int × Int)}:zr ([AV.undef,.undef,.undef]::ps.map cmN):=zap (a:=(0,ps))
theorem zdH{ps:List (Int × Int)}{v:Int}:zr ([AV.undef,.undef,.undef]::(ps.map cmN++[[.int .i64 v,.bool true,.undef]])):=by rw[←ztp (c:=0)];exact zap (a:=(0,ps++[(v,0)]))
theorem evSN:(∀ {str:Option IntKind} {k v:AV} {r q sz g:Nat} {u u':AV} {es:List (List AV)} {H:AH} {nx:Nat},zBA str r q k v (some (.row sz ([.undef,u,u']::es) g)) H nx=zCt str r q k v sz g u u' es (zcA k es 0) H nx) ∧
 (∀ {str:Option IntKind} {k v:AV} {r q sz g i:Nat} {u u' x:AV} {es:List (List AV)} {H:AH} {nx:Nat},zCt str r q k v sz g u u' es (some (some (i,x))) H nx =
  ⟨sz=3∧g=0∧zgw str k,True,.undef,H.set r q (.row 3 ([.undef,u,u']::es.set i [k,v,(es.getD i []).getD 2 .undef]) 0),nx⟩) ∧
 (∀ {str:Option IntKind} {k v:AV} {r q sz g:Nat} {u u':AV} {es:List (List AV)} {H:AH} {nx:Nat},zCt str r q k v sz g u u' es (some none) H nx =
  ⟨sz=3∧g=0∧zgw str k,True,.undef,H.set r q (.row 3 ([.undef,u,u']::(es++[[k,v,.undef]])) 0),nx⟩):=⟨rfl,rfl,rfl⟩
theorem zL{H HH:AH}{σ:Nat→Nat→Option (Nat × Nat × Nat)}{D:Nat→Nat→Prop}:RowV H HH σ D [[.int .i64 0,.undef,.undef]] (setN (0,[])) :=
 ⟨rfl,fun i c2 h=>match i with
  |
   0=>by
   cases h
   exact⟨_,rfl,rfl,fun j a b h1 h2=>match j with
    | 0=>by cases h2;exact .undef _ _
    | 1=>by cases h2;exact .undef _ _
    | 2=>by cases h2;exact .undef _ _
    | j+3=>by cases h2⟩
  | i+1=>by cases h⟩
theorem QD{A0 A1 p:Prop}(a0:A0)(a1:A1)(h:A0→A1→p:=by intro a0 a1;(try simp only[evWB,Nat.reduceBEq,Nat.reduceAdd,Nat.reduceSub,Nat.reduceLeDiff,Nat.reduceLT,implies_true,a0,a1])<;>(repeat' with_reducible apply And.intro)<;>first | (first|exact zg|exact RowV.of_flat zap;done)|exact fin6):p:=h a0 a1
theorem QE{A0 A1 A2 A3 p:Prop}(a0:A0)(a1:A1)(a2:A2)(a3:A3)(h:A0→A1→A2→A3→p:=by intro a0 a1 a2 a3;(try simp only[evWB,Nat.reduceBEq,Nat.reduceAdd,Nat.reduceSub,Nat.reduceLeDiff,Nat.reduceLT,implies_true,a0,a1,a2,a3])<;>(repeat' with_reducible apply And.intro)<;>first | (first|exact zg|exact RowV.of_flat zap;done)|exact fin6):p:=h a0 a1 a2 a3
theorem ud:type_of% @setN.eq_1:=@setN.eq_1
theorem zis(a:MS)(sk:List Int):zU Tryz.prog zX [.mp 0 0,za sk] [(0,.row 3 (setN a) 0)] 1
  (fun v H nx=>v=za (srtL a sk)∧H=[(0,.row 3 (setN a) 0)]∧nx=1):=by
 refine zR (fn_x zf6 rfl ?_)
 unfold zd0;conv in dcC _ _=>cbv
 have hB:=hBig
 have hcon:=fun x=>zaq sk x
 (refine Gw0 ?_;intros);refine zd (fun s:Nat × Nat=>([(0,.mp 0 0),(1,za sk),(5,.own 1 0 s.2 0 (outN a sk s.1).length),(7,.int .i64 s.1)],[(0,.row 3 (setN a) 0),(1,.row 1 ((outN a sk s.1).map fun n=>[.int .i64 n]) s.2)])) 2 (fun s=>s.1≤12) (fun s=>12 - s.1) (0,0) (Wc _) (by rw[show outN a sk (0,0).1=[] from rfl];exact(Ent.tabB [(0,0,0),(1,2,0)] [] rfl rfl rfl (QD @ud @ua) (QD @ud @ua))) ?_;rintro⟨j,γ⟩ hj wf;simp only at hj;clear wf
 unfold zcP;conv in dcC _ _=>cbv
 by_cases hj12:j < 12
 case neg =>
  obtain rfl:j=12:=by omega
  have hol:=zmm (a:=a) (sk:=sk) (j:=12);(refine Qd ?_;intros)
  unfold zcR;conv in dcC _ _=>cbv
  generalize hO:outN a sk 12=O at hol ⊢;(refine Gw0 ?_;intros);refine zx [(0,1,0)] 1 _ (zct γ O (by omega)) rfl rfl fin9 fin9 ?_;rintro _ _ _ ⟨rfl,rfl,rfl⟩
  (repeat first|simp(disch:=try exact dis1) only[evD,Nat.reduceBEq,Nat.reduceAdd,Nat.reduceLeDiff,zqO,AV.ren,show Tab.to [(0,1,0)] 2 0=1 from rfl,zee]|with_reducible intro _ | ((with_reducible apply Wa);omega))
  exact⟨za (srtL a sk),[(0,.row 3 (setN a) 0)],1,by rw[show srtL a sk=O from hO];exact(Ent.tabB [(0,0,0)] [1] rfl rfl rfl (QD @ud @ua) (QD @ud @ua)),rfl,rfl,rfl⟩
 have hsu:=zrb (a:=a) (sk:=sk) (j:=j);have hol:=zmm (a:=a) (sk:=sk) (j:=j);have hcj:=hcon j
 by_cases hm:(j:Int)∈a.2.map (·.1)
 ·
  obtain⟨i,hi,hie,hf⟩:=zkf hm
  cases hc:hasI sk j with
  |
   true =>
   rw[if_neg (by unfold srtP;rw[hc];simp)] at hsu;rw[hc] at hcj;(refine Gw3 @dT @ud hf ?_;intros);refine zi (zf hcj rfl) ?_;(refine Gw0 ?_;intros);refine⟨(j+1,γ),by omega,by simp only;omega,by rw[hsu];exact(Ent.tabB [(0,0,0),(1,1,0)] [] rfl rfl rfl (QD @ud @ua) (QD @ud @ua))⟩
  |
   false =>
   rw[if_pos (by unfold srtP;rw[hc];simp only[Bool.not_false,Wg];exact decide_eq_true hm)] at hsu;rw[hc] at hcj;(refine Gw3 @dT @ud hf ?_;intros);refine zi (zf hcj rfl) ?_;(refine Gw0 ?_;intros);refine⟨(j+1,γ+1),by omega,by simp only;omega,by rw[hsu,WH,WI,Wx];exact(Ent.tabB [(0,0,0),(1,1,0)] [] rfl rfl rfl (QE @ud @ua @m9C @m9N) (QE @ud @ua @m9C @m9N))⟩
 · have hf:=ziG hm;rw[if_neg (by unfold srtP MS.keys;simp only[Wl,decide_eq_true_eq];exact fun h=>hm h.1)] at hsu;(refine Gw3 @dT @ud hf ?_;intros);refine⟨(j+1,γ),by omega,by simp only;omega,by rw[hsu];exact(Ent.tabB [(0,0,0),(1,1,0)] [] rfl rfl rfl (QD @ud @ua) (QD @ud @ua))⟩
theorem zBk{s:Sgn}{a:MS}(h:∀v,v∈a.keys↔v∈s.res):srtL a s.sav=zqz s:=by
 unfold srtL zqz
 congr 1
 refine WS fun v _=>?_
 unfold srtP zwh;have e1:decide ((v:Int)∈a.keys)=decide ((v:Int)∈s.res):=decide_eq_decide.2 (h v)
 have e2:hasI s.sav v=decide ((v:Int)∈s.sav):=by
  by_cases hs:(v:Int)∈s.sav
  · rw[zkD hs,decide_eq_true hs]
  · rw[zkC hs,decide_eq_false hs]
 rw[e1,e2]
theorem QF{A0 p:Prop}(a0:A0)(h:A0→p:=by intro a0;(try simp only[evWB,Nat.reduceBEq,Nat.reduceAdd,Nat.reduceSub,Nat.reduceLeDiff,Nat.reduceLT,implies_true,a0])<;>(repeat' with_reducible apply And.intro)<;>first | (first|exact zg|exact zL|exact RowV.of_flat zap|exact RowV.of_flat zam|exact RowV.of_flat zdH;done)|exact fin6):p:=h a0
theorem QG{A0 A1 A2 p:Prop}(a0:A0)(a1:A1)(a2:A2)(h:A0→A1→A2→p:=by intro a0 a1 a2;(try simp only[evWB,Nat.reduceBEq,Nat.reduceAdd,Nat.reduceSub,Nat.reduceLeDiff,Nat.reduceLT,implies_true,a0,a1,a2])<;>(repeat' with_reducible apply And.intro)<;>first | (first|exact zg|exact zL|exact RowV.of_flat zap|exact RowV.of_flat zam|exact RowV.of_flat zdH;done)|exact fin6):p:=h a0 a1 a2
theorem QH{A0 A1 A2 A3 p:Prop}(a0:A0)(a1:A1)(a2:A2)(a3:A3)(h:A0→A1→A2→A3→p:=by intro a0 a1 a2 a3;(try simp only[evWB,Nat.reduceBEq,Nat.reduceAdd,Nat.reduceSub,Nat.reduceLeDiff,Nat.reduceLT,implies_true,a0,a1,a2,a3])<;>(repeat' with_reducible apply And.intro)<;>first | (first|exact zg|exact zL|exact RowV.of_flat zap|exact RowV.of_flat zam|exact RowV.of_flat zdH;done)|exact fin6):p:=h a0 a1 a2 a3
theorem zhS(s:Sgn):zz Tryz.prog zdv [.agg s.cells] (·=za (zqz s)):=by
 refine fn_x zmC rfl ?_
 unfold zhQ;conv in dcC _ _=>cbv
 have hB:=hBig
 have hcl:∀a:MS,(∀v,v∈a.keys↔v∈s.res)→srtL a s.sav=zqz s:=fun a h=>zBk h
 generalize zqz s=R at hcl ⊢;obtain⟨ar,us,sv⟩:=s;simp only[Sgn.cells] at hcl ⊢;(refine Gw3 @ub @zP @ua ?_;intros)
 refine zd (fun i:Nat=>([(1,encP 3 [za ar,za us,za sv]),(3,.mp 0 0),(8,za us),(9,.int .i64 us.length),(10,.int .i64 i)],[(0,.row 3 (setN (addL (0,[]) (us.take i))) 0)])) 1
  (fun i=>i≤us.length) (fun i=>us.length - i) 0 (Wc _) (by rw[WK,show addL (0,[]) []=(0,[]) from rfl];exact(Ent.tab [(0,1,0)] [] rfl (QF @ua) (QF @ua))) ?_
 rintro i hi wf;clear wf
 unfold zgl;conv in dcC _ _=>cbv
 by_cases hil:i < us.length
 ·
  have hgl:(us.map fun n=>[AV.int .i64 n]).getD i []=[.int .i64 us[i]]:=zn (f:=fun n=>[AV.int .i64 n]) hil;have htk:=zim (s:=(0,[])) hil;generalize addL (0,[]) (us.take i)=d at htk ⊢;obtain⟨cc,ps⟩:=d
  by_cases hm:us[i]∈ps.map (·.1)
  · obtain⟨j,hj,hje,hf⟩:=zkf hm;have e1:add1 (cc,ps) us[i]=(cc,ps):=if_pos hm;rw[e1] at htk;have hov:=zCj hj hje;(refine Gw7 @dT hgl @ua @ud @evSN hf hov ?_;intros);exact⟨i+1,hil,by omega,(Ent.tab [(0,0,0)] [] rfl (QG @ud @ua htk) (QG @ud @ua htk))⟩
  · have hf:=ziG hm;have e1:add1 (cc,ps) us[i]=(cc+1,ps++[(us[i],cc)]):=if_neg hm;rw[e1] at htk;(refine Gw6 @dT hgl @ua @ud @evSN hf ?_;intros);exact⟨i+1,hil,by omega,(Ent.tab [(0,0,0)] [] rfl (QH @ud @ua htk @ztp) (QH @ud @ua htk @ztp))⟩
 ·
  obtain rfl:i=us.length:=by omega
  rw[Wt]
  have hmem:∀v,v∈(addL (0,[]) us).keys↔v∈us:=fun v=>by rw[zji];simp[MS.keys]
  have hR:=hcl _ hmem;generalize addL (0,[]) us=d at hmem hR ⊢;(refine Qd ?_;intros)
  unfold zgo;conv in dcC _ _=>cbv
  (refine Gw3 @ub @zP @ua ?_;intros);refine zx [(0,0,0)] 1 _ (zis d sv) rfl rfl (Gin6_1 @ua) (Gin6_1 @ua) ?_;rintro _ _ _ ⟨rfl,rfl,rfl⟩;rw[hR];(refine Gw3 @renM @renE @zhG.eq_1 ?_;intros);exact⟨_,zai rfl,rfl⟩
theorem Qs{p:Prop}(h:p:=by(try simp only[evWB,Nat.reduceBEq,Nat.reduceAdd,Nat.reduceSub,Nat.reduceLeDiff,Nat.reduceLT,implies_true,za,zj])<;>(repeat' with_reducible apply And.intro)<;>first | (first|exact zb|exact RowV.of_flat (zD zc)|exact zk (zc _)|exact vw_R;done)|exact fin6):p:=h
theorem QI{A0 p:Prop}(a0:A0)(h:A0→p:=by intro a0;(try simp only[evWB,Nat.reduceBEq,Nat.reduceAdd,Nat.reduceSub,Nat.reduceLeDiff,Nat.reduceLT,implies_true,a0])<;>(repeat' with_reducible apply And.intro)<;>first | (first|exact zb|exact RowV.of_flat (zD zc)|exact zk (zc _)|exact vw_R;done)|exact fin6):p:=h a0
theorem fl_l0 (ad:Int) (bl:List Bl) (ord:List Nat) (i b:Nat) (ag:Bool) (o:List (List Kw)) (l:List Sgn) (at':List Int) (c:Int) (es:List TE) (ht:TabS l at' es) (ss:List St) (hs:∀s∈ss,OkS s) (hn:ss.length≤1000000) (x:List Kw) (hx:CanR x) {Q:QT}
  (hfin:Q .normal [(1,.mp 0 0),(2,encP 2 [.int .u32 ad,encL 2 Bl.cells bl]),(5,.own 1 0 0 0 bl.length),(6,zj ord),(7,.bool ag),(26,zj ord),(27,.int .i64 ord.length),(28,.int .i64 i),(9,.int .i64 b),(10,.ptr 2 0 0 0 0),(41,encL 8 St.cells ss),(42,.int .i64 ss.length),(43,.int .i64 ss.length),(44,.bool false)] [(0,.row 3 (tabM c es) 0),(1,.row 24 (o.map encR) 0),(2,.row 24 [encR (thrR l at' ss x)] 0)] 3)
  {K:Kn} {H:AH} {nx:Nat} (hent:Ent 1 K H nx [(1,.mp 0 0),(2,encP 2 [.int .u32 ad,encL 2 Bl.cells bl]),(5,.own 1 0 0 0 bl.length),(6,zj ord),(7,.bool ag),(26,zj ord),(27,.int .i64 ord.length),(28,.int .i64 i),(9,.int .i64 b),(10,.ptr 2 0 0 0 0),(41,encL 8 St.cells ss),(42,.int .i64 ss.length),(43,.int .i64 (0:Nat))] [(0,.row 3 (tabM c es) 0),(1,.row 24 (o.map encR) 0),(2,.row 24 [encR x] 0)] 3) :
  zno Tryz.prog 1 zfp (zd4 4 Q) K H nx:=by
 have hB:=hBig;unfold thrR at hfin;generalize hR:ss.foldl (thr1 l at') x=R at hfin;refine zd (fun t:Nat × List Kw=>([(1,.mp 0 0),(2,encP 2 [.int .u32 ad,encL 2 Bl.cells bl]),(5,.own 1 0 0 0 bl.length),(6,zj ord),(7,.bool ag),(26,zj ord),(27,.int .i64 ord.length),(28,.int .i64 i),(9,.int .i64 b),(10,.ptr 2 0 0 0 0),(41,encL 8 St.cells ss),(42,.int .i64 ss.length),(43,.int .i64 t.1)],[(0,.row 3 (tabM c es) 0),(1,.row 24 (o.map encR) 0),(2,.row 24 [encR t.2] 0)])) 3 (fun t=>t.1≤ss.length∧CanR t.2∧(ss.drop t.1).foldl (thr1 l at') t.2=R) (fun t=>ss.length - t.1) (0,x) ⟨Wc _,hx,hR⟩ hent ?_;clear hent hR hx;rintro⟨k,rs⟩ ⟨hk,hr,hgo⟩ wf;simp only at hk hr hgo;clear wf
 unfold zfp;conv in dcC _ _=>cbv
 by_cases hkl:k < ss.length
 case neg =>
  obtain rfl:k=ss.length:=by omega
  rw[Wz (Wy _),List.foldl_nil] at hgo;subst hgo;(refine Qd ?_;intros);exact hfin
 rw[WA hkl,List.foldl_cons] at hgo;have gk:(ss.map St.cells).getD k []=ss[k].cells:=zn (f:=St.cells) (d:=[]) hkl;have hok:=hs _ (Wf hkl);have hcan:=zsX (l:=l) (at':=at') hr ss[k];have haf:=zkt ss[k] rs hr l at' hok c es ht;generalize thr1 l at' rs ss[k]=u at hgo hcan haf
 have er:(encR rs).length=24:=by rw[zb4,hr.1]
 have eu:(encR u).length=24:=by rw[zb4,hcan.1]
 have hflat:[ss[k].cells.getD 0 .undef,ss[k].cells.getD 1 .undef,ss[k].cells.getD 2 .undef,ss[k].cells.getD 3 .undef,ss[k].cells.getD 4 .undef,ss[k].cells.getD 5 .undef,ss[k].cells.getD 6 .undef,ss[k].cells.getD 7 .undef]=ss[k].cells:=St.eight _;have hc8:ss[k].cells.length=8:=rfl
 have c0:∀l:List AV,(AV.agg l).cells=l:=fun _=>rfl
 have s0:∀l:List AV,(AV.agg l).solid=true:=fun _=>rfl
 (refine Gw10 @dT gk @ub @zP hflat hc8 c0 s0 er eu ?_;intros);refine zx [(0,0,0)] 1 _ haf rfl rfl (QI @ua) (QI @ua) ?_;rintro _ _ _ ⟨rfl,rfl,rfl⟩
 have hru:∀ρ:Nat→Nat,AV.ren ρ (.agg (encR u))=.agg (encR u):=fun ρ=>by
  simp only[AV.ren]
  congr 1
  exact zkQ (zc u)
 (refine Gw7 @zkd hru c0 s0 er eu @zP ?_;intros);exact⟨(k+1,u),⟨hkl,hcan,hgo⟩,by simp only;omega,(Ent.tabB [(0,0,0),(1,1,0),(2,2,0)] [] rfl rfl rfl Qs Qs)⟩
theorem zAG{o:List (List Kw)}{e:Nat}(h:e < o.length):o.set e (o.getD e z8)=o:=by
 have:o.getD e z8=o[e]:=by simp[List.getD,h]
 rw[this];exact WR h
theorem fl_l2 (ad:Int) (bl:List Bl) (hbl:bl.length≤1000) (ord:List Nat) (i:Nat) (c:Int) (es:List TE) (x:List Kw) (hxc:CanR x) (EB:List Nat) (helt:∀e∈EB,e < bl.length) (hebl:EB.length≤1000) (o1:List (List Kw)) (hco1:CanO bl.length o1) (ag1:Bool) {Q:QT} (hQE:QExt Q)
  (hfin:∀o2 ag2,CanO bl.length o2→EB.foldl (zpL x) (o1,ag1)=(o2,ag2)→Q .normal ([(1,.mp 0 0),(2,encP 2 [.int .u32 ad,encL 2 Bl.cells bl]),(5,.own 1 0 0 0 bl.length),(6,zj ord),(7,.bool ag2),(26,zj ord),(27,.int .i64 ord.length),(28,.int .i64 i),(10,.ptr 2 0 0 0 0),(57,za (EB.map fun(n:Nat)=>(n:Int))),(58,.int .i64 EB.length),(59,.int .i64 EB.length)]++[(60,.bool false)]) [(0,.row 3 (tabM c es) 0),(1,.row 24 (o2.map encR) 0),(2,.row 24 [encR x] 0)] 3)
  {K:Kn} {H:AH} {nx:Nat} (hent:Ent 1 K H nx [(1,.mp 0 0),(2,encP 2 [.int .u32 ad,encL 2 Bl.cells bl]),(5,.own 1 0 0 0 bl.length),(6,zj ord),(7,.bool ag1),(26,zj ord),(27,.int .i64 ord.length),(28,.int .i64 i),(10,.ptr 2 0 0 0 0),(57,za (EB.map fun(n:Nat)=>(n:Int))),(58,.int .i64 EB.length),(59,.int .i64 (0:Nat))] [(0,.row 3 (tabM c es) 0),(1,.row 24 (o1.map encR) 0),(2,.row 24 [encR x] 0)] 3) :
  zno Tryz.prog 1 zfx (zd4 6 Q) K H nx:=by
 have hB:=hBig;have hz:[AV.int .i64 0,.int .i64 0,.int .u32 0,.int .i64 0,.int .i64 0,.int .u32 0,.int .i64 0,.int .i64 0,.int .u32 0,.int .i64 0,.int .i64 0,.int .u32 0,.int .i64 0,.int .i64 0,.int .u32 0,.int .i64 0,.int .i64 0,.int .u32 0,.int .i64 0,.int .i64 0,.int .u32 0,.int .i64 0,.int .i64 0,.int .u32 0]=encR z8:=rfl
 have c0:∀l:List AV,(AV.agg l).cells=l:=fun _=>rfl
 have s0:∀l:List AV,(AV.agg l).solid=true:=fun _=>rfl
 have erx:(encR x).length=24:=by rw[zb4,hxc.1]
 generalize hPB:EB.foldl (zpL x) (o1,ag1)=PB at hfin;refine zd (fun s:Nat × (List (List Kw) × Bool)=>([(1,.mp 0 0),(2,encP 2 [.int .u32 ad,encL 2 Bl.cells bl]),(5,.own 1 0 0 0 bl.length),(6,zj ord),(7,.bool s.2.2),(26,zj ord),(27,.int .i64 ord.length),(28,.int .i64 i),(10,.ptr 2 0 0 0 0),(57,za (EB.map fun(n:Nat)=>(n:Int))),(58,.int .i64 EB.length),(59,.int .i64 s.1)],[(0,.row 3 (tabM c es) 0),(1,.row 24 (s.2.1.map encR) 0),(2,.row 24 [encR x] 0)])) 3 (fun s=>s.1≤EB.length∧CanO bl.length s.2.1∧(EB.drop s.1).foldl (zpL x) s.2=PB) (fun s=>EB.length - s.1) (0,(o1,ag1)) ⟨Wc _,hco1,hPB⟩ hent ?_;clear hent hPB hco1;rintro⟨j,⟨o2,ag2⟩⟩ ⟨hj,hco2,hgo2⟩ wf;simp only at hj hco2 hgo2;clear wf;unfold zfx
 by_cases hjl:j < EB.length
 case neg =>
  obtain rfl:j=EB.length:=by omega
  rw[Wz (Wy _),List.foldl_nil] at hgo2;have hf:=hfin o2 ag2 hco2 hgo2.symm;simp only[Wd,We] at hf;(refine Qd ?_;intros);exact hf
 rw[WA hjl,List.foldl_cons] at hgo2
 have gj:((EB.map fun(n:Nat)=>(n:Int)).map fun n=>[AV.int .i64 n]).getD j []=[.int .i64 (EB[j]:Int)]:=by rw[List.map_map,zn (f:=_) hjl];rfl
 have hen:=helt _ (Wf hjl);generalize EB[j]=e at gj hen hgo2
 have heo:e < o2.length:=by rw[hco2.1];exact hen
 have goe:=getR heo;have hce:=znL hco2 e;obtain⟨hc3,-⟩:=zw9 (p:=(o2,ag2)) hxc hco2 hen;unfold zpL at hc3 hgo2;simp only at hc3 hgo2;have hbo:=zi5 (o2.getD e z8) x hce.1 hxc.1;have hcm:=zt5 hce hxc;have hself:=zAG heo;generalize o2.getD e z8=oe at goe hce hbo hcm hc3 hgo2 hself;generalize zrs oe x=me at hbo hcm hc3 hgo2
 have ere:(encR oe).length=24:=by rw[zb4,hce.1]
 have erm:(encR me).length=24:=by rw[zb4,hcm.1]
 have heq:=eqs24 hcm.1 hce.1
 have hst:(o2.map encR).set e (encR me)=(o2.set e me).map encR:=by rw[List.map_set]
 have hol:=hco2.1;(refine Gw4 @dT @ua gj @m9M ?_;intros);refine zpX zg7 zmG zlR zfR [(63,.own 1 0 0 0 bl.length),(64,.int .i64 e),(65,.ptr 1 0 0 e 0),(66,.agg (encR oe)),(67,.agg (encR x)),(68,.agg (encR me)),(15,.ptr 3 0 0 0 0)] (hsOf [([(0,.row 3 (tabM c es) 0),(1,.row 24 (o2.map encR) 0),(2,.row 24 [encR x] 0)],3),([(0,.row 3 (tabM c es) 0),(1,.row 24 (o2.map encR) 0),(2,.row 24 [encR x] 0),(3,.row 24 [encR z8] 0)],4),([(0,.row 3 (tabM c es) 0),(1,.row 24 (o2.map encR) 0),(2,.row 24 [encR x] 0),(3,.row 24 [encR me] 0)],4)]) (by kernel_rfl) (by rfl) (by rfl) (by repeat' first|exact QExt.retK|apply QExt.seq|apply QExt.block|apply QExt.loop|apply QExt.join|assumption) ?plan [(15,.ptr 3 0 0 0 0)] (by rfl) ?fin
 case' plan =>
  intro Kf hs hK hH
  have kf63:Kf.get 63=.own 1 0 0 0 bl.length:=by rw[hK,zt];rfl
  have kf64:Kf.get 64=.int .i64 e:=by rw[hK,zt];rfl
  have kf65:Kf.get 65=.ptr 1 0 0 e 0:=by rw[hK,zt];rfl
  have kf66:Kf.get 66=.agg (encR oe):=by rw[hK,zt];rfl
  have kf67:Kf.get 67=.agg (encR x):=by rw[hK,zt];rfl
  have kf68:Kf.get 68=.agg (encR me):=by rw[hK,zt];rfl
  have kf15:Kf.get 15=.ptr 3 0 0 0 0:=by rw[hK,zt];rfl
  have kf5:Kf.get 5=.own 1 0 0 0 bl.length:=by rw[hK,zt];rfl
  have kf10:Kf.get 10=.ptr 2 0 0 0 0:=by rw[hK,zt];rfl
  have kf14:Kf.get 14=.int .i64 e:=by rw[hK,zt];rfl
  simp only[zfR,zmg,zn8,and_true]
  (repeat' with_reducible apply Wa)
  all_goals (rw[hH];simp only[zn9,zgC,Wj,Wi,hsOf,hsAt,beqL,zg5,Nat.reduceBEq,Wg,Wm,Wo,Wp,cond_true,cond_false,Wq,Wr,Nat.reduceAdd])
  all_goals try (simp(disch:=try exact dis1) only[evD,Nat.reduceBEq,Nat.reduceAdd,Nat.reduceLeDiff,zdd,zcn,kf63,kf64,kf65,kf66,kf67,kf68,kf15,kf5,kf10,kf14,fldP,zP,goe,hz,c0,s0,ere,erm,erx,Wh,Wk];done)
 case' fin=>simp only[zg7,hsOf,hsAt,beqL,zg5,Nat.reduceBEq,Wg,Wm,Wo,Wp,cond_true,cond_false,Wq,Wr,Nat.reduceAdd,Wj,Wi,zfM]
 ·
  have hnd:(!decide (me=oe))=decide (me≠oe):=by simp
  by_cases hme:me=oe
  ·
   have hd:decide (me≠oe)=false:=by simp[hme]
   rw[hd,Bool.or_false] at hgo2;subst hme;rw[hself] at hgo2
   (repeat first|simp(disch:=try exact dis1) only[evD,Nat.reduceBEq,Nat.reduceAdd,Nat.reduceLeDiff,goe,Wh,c0,s0,ere,erm,heq,eqTo,cond_true,hnd,hd,Wn,zP]|with_reducible first|intro _|refine aJ ?_)
   exact⟨(j+1,(o2,ag2)),⟨hjl,hco2,hgo2⟩,by simp only;omega,(Ent.tabB [(0,0,0),(1,1,0),(2,2,0)] [] rfl rfl rfl Qs Qs)⟩
  ·
   have hd:decide (me≠oe)=true:=by simp[hme]
   rw[hd,Bool.or_true] at hgo2;generalize o2.set e me=o3 at hst hc3 hgo2
   (repeat first|simp(disch:=try exact dis1) only[evD,Nat.reduceBEq,Nat.reduceAdd,Nat.reduceLeDiff,goe,Wh,c0,s0,ere,erm,heq,eqTo,cond_true,hnd,hd,hst,Wn,zP]|with_reducible first|intro _|refine aJ ?_)
   exact⟨(j+1,(o3,true)),⟨hjl,hc3,hgo2⟩,by simp only;omega,(Ent.tabB [(0,0,0),(1,1,0),(2,2,0)] [] rfl rfl rfl Qs Qs)⟩
 all_goals (repeat first|simp(disch:=try exact dis1) only[evD,Nat.reduceBEq,Nat.reduceAdd,Nat.reduceLeDiff,kf63,kf64,kf65,kf66,kf67,kf68,kf15,kf5,kf10,kf14,fldP,zP,goe,hz,c0,s0,ere,erm,erx,Wh,Wk,zdd,zcn,Wn]|with_reducible first|intro _|refine aJ ?_)
 all_goals first
  | omega
  | (refine zG (zf hbo (by simp only[WD,List.all_nil,AV.flat,zoq,Wg])) ?_;(refine Gw3 @zdd @zcn kf68 ?_;intros;try with_reducible exact trivial))
  | rfl
theorem zfu(g:G)(hf:fewC g):zz Tryz.prog zcm [.agg g.cells] (·=zj (ordG g)):=by have h:=Dm.dominator_Order_ok g.toG (zyz hf);rw[G.toG_cells] at h;exact h
theorem zpx(g:G)(hf:fewC g)(hg:OkG g)(hs:∀b∈g.blocks,∀s∈b.stmts,OkS s)(l:List Sgn)(at':List Int)(c:Int)(es:List TE)(ht:TabS l at' es):
  zU Tryz.prog ziC [.agg g.cells,.mp 0 0] [(0,.row 3 (tabM c es) 0)] 1
  (fun v H nx=>v=encL 24 encR (znw g l at')∧H=[(0,.row 3 (tabM c es) 0)]∧nx=1):=by
 refine zR (fn_x zpJ rfl ?_)
 unfold zlf znw;conv in dcC _ _=>cbv
 have hB:=hBig;have hz:[AV.int .i64 0,.int .i64 0,.int .u32 0,.int .i64 0,.int .i64 0,.int .u32 0,.int .i64 0,.int .i64 0,.int .u32 0,.int .i64 0,.int .i64 0,.int .u32 0,.int .i64 0,.int .i64 0,.int .u32 0,.int .i64 0,.int .i64 0,.int .u32 0,.int .i64 0,.int .i64 0,.int .u32 0,.int .i64 0,.int .i64 0,.int .u32 0]=encR z8:=rfl
 have c0:∀l:List AV,(AV.agg l).cells=l:=fun _=>rfl
 have s0:∀l:List AV,(AV.agg l).solid=true:=fun _=>rfl
 have hord:=zfu g hf;have holt:=zqS g;have hole:=zs4 g;have hpos:=hg.pos;have hbl8:=hf.blocks;have hini:=zxx g.blocks.length
 have hpas:=fun o hc=>zxM hg holt (l:=l) (at':=at') (o:=o) hc
 have hbok:=fun p b hb hp=>zxb hg (l:=l) (at':=at') (p:=p) (b:=b) hb hp
 have hlt:=fun b hb=>zvO hg (b:=b) hb
 have hel:=fun b hb=>zsS hf (b:=b) hb
 have hsuc:=fun b (hb:b < g.blocks.length)=>zhp g.blocks[b] (fun s h=>WG (hf.cases _ (Wf hb) s h) (by decide))
 have hedg:=fun b (hb:b < g.blocks.length)=>zwL hg hb
 have hthr:=fun b (hb:b < g.blocks.length)=>hs _ (Wf hb)
 have hlen:=fun b (hb:b < g.blocks.length)=>hf.stmts _ (Wf hb)
 have hfx:∀o b (hb:b < g.blocks.length),zAU g l at' o b=thrR l at' g.blocks[b].stmts (o.getD b z8):=fun o b hb=>by unfold zAU;rw[zkM hb]
 have hstep:∀n o,zrB g l at' (ordG g) (n+1) o=if (zmA g l at' (ordG g) o).2 then zrB g l at' (ordG g) n (zmA g l at' (ordG g) o).1 else (zmA g l at' (ordG g) o).1:=fun n o=>zx8
 have hpd:∀o,zmA g l at' (ordG g) o=(ordG g).foldl (ztj g l at') (o,false):=fun o=>rfl
 have hbd:∀p b,ztj g l at' p b=(edgB g b).foldl (zpL (zAU g l at' p.1 b)) p:=fun p b=>rfl
 generalize hR:zrB g l at' (ordG g) (muO (zu2 g.blocks.length)+1) (zu2 g.blocks.length)=R;generalize zrB g l at' (ordG g)=FF at hstep hR;generalize zmA g l at' (ordG g)=FP at hpas hstep hpd;generalize ztj g l at'=FB at hbok hpd hbd;generalize zAU g l at'=FX at hfx hbd;generalize ordG g=ord at hord holt hole hpd;generalize hE:edgB g=E at hlt hel hedg hbd;obtain⟨ad,bl⟩:=g;simp only[G.cells] at hord holt hole hpos hbl8 hini hpas hbok hlt hel hsuc hedg hthr hlen hfx hR ⊢
 have hrep:WL bl.length (encR z8)=(WL bl.length z8).map encR:=by rw[List.map_replicate]
 have hset:((WL bl.length z8).map encR).set (Wu 0) (encR ownR)=(zu2 bl.length).map encR:=by unfold zu2;rw[List.map_set];rfl
 have e0:((bl.length:Nat):Int).toNat=bl.length:=Wh _;have ero:(encR ownR).length=24:=rfl;(refine Gw5 @ub @zP hz e0 hrep ?_;intros);refine zi (zf zjS rfl) ?_;(refine Gw11 @ub @zP hz e0 hrep c0 s0 ero hset @m9M @m9R ?_;intros);refine zi (zf hord rfl) ?_;(refine Gw0 ?_;intros);refine zd (fun s:Bool × List (List Kw)=>([(1,.mp 0 0),(2,encP 2 [.int .u32 ad,encL 2 Bl.cells bl]),(5,.own 1 0 0 0 bl.length),(6,zj ord),(7,.bool s.1)],[(0,.row 3 (tabM c es) 0),(1,.row 24 (s.2.map encR) 0)])) 2 (fun s=>CanO bl.length s.2∧(s.1=true→∃m,muO s.2 < m∧FF m s.2=R)∧(s.1=false→s.2=R)) (fun s=>if s.1=true then muO s.2+1 else 0) (true,zu2 bl.length) ⟨hini,fun _=>⟨_,Nat.lt_succ_self _,hR⟩,fun h=>by cases h⟩ (Ent.tabB [(0,0,0),(1,2,0)] [] rfl rfl rfl Qs Qs) ?_;rintro⟨ag,o⟩ ⟨hco,hag1,hag2⟩ wf;simp only at hco hag1 hag2;clear wf hR
 unfold ziu;conv in dcC _ _=>cbv
 cases ag with
 |
  false =>
  have hR2:=hag2 rfl;(refine Gw0 ?_;intros)
  unfold ziH;conv in dcC _ _=>cbv
  (refine Gw1 @zlo.eq_1 ?_;intros);subst hR2;refine⟨encL 24 encR o,[(0,.row 3 (tabM c es) 0)],1,?_,rfl,rfl,rfl⟩;rw[←hco.1];exact(Ent.tabB [(0,0,0)] [1] rfl rfl rfl (by((try simp only[evWB,Nat.reduceBEq,Nat.reduceAdd,Nat.reduceSub,Nat.reduceLeDiff,Nat.reduceLT,implies_true])<;>(repeat' with_reducible apply Wa)<;>first | (first|exact zb|exact RowV.of_flat (zD zc)|exact zk (zc _)|exact vw_R;done)|exact fin6)) (by((try simp only[evWB,Nat.reduceBEq,Nat.reduceAdd,Nat.reduceSub,Nat.reduceLeDiff,Nat.reduceLT,implies_true])<;>(repeat' with_reducible apply Wa)<;>first | (first|exact ziq ⟨rfl⟩ rfl (by rw[hco.1];omega) (fun a ha j hj=>zdD (zj1 (zc a)))|exact ziq rfl rfl (by rw[hco.1];omega) (fun a ha j hj=>zdD (zj1 (zc a)));done)|exact fin6)))
 | true =>
 obtain⟨m,hm,hFF⟩:=hag1 rfl;obtain⟨m,rfl⟩:∃m',m=m'+1:=⟨m - 1,by omega⟩;rw[hstep] at hFF;obtain⟨hpc,hpm⟩:=hpas o hco;have hpo:=hpd o;generalize FP o=PF at hFF hpc hpm hpo;clear hag1 hag2;(refine Gw1 @uh ?_;intros);refine zd (fun s:Nat × (List (List Kw) × Bool)=>([(1,.mp 0 0),(2,encP 2 [.int .u32 ad,encL 2 Bl.cells bl]),(5,.own 1 0 0 0 bl.length),(6,zj ord),(7,.bool s.2.2),(26,zj ord),(27,.int .i64 ord.length),(28,.int .i64 s.1)],[(0,.row 3 (tabM c es) 0),(1,.row 24 (s.2.1.map encR) 0)])) 2 (fun s=>s.1≤ord.length∧CanO bl.length s.2.1∧(ord.drop s.1).foldl FB s.2=PF) (fun s=>ord.length - s.1) (0,(o,false)) ⟨Wc _,hco,hpo.symm⟩ (Ent.tabB [(0,0,0),(1,1,0)] [] rfl rfl rfl Qs Qs) ?_;rintro⟨i,⟨o1,ag1⟩⟩ ⟨hi,hco1,hgo1⟩ wf;simp only at hi hco1 hgo1;clear wf
 unfold ziy;conv in dcC _ _=>cbv
 by_cases hil:i < ord.length
 case neg =>
  rw[Wz (by omega),List.foldl_nil] at hgo1;subst hgo1;(refine Gw2 @dF @uh ?_;intros);refine⟨(ag1,o1),⟨hco1,fun h=>?_,fun h=>?_⟩,?_,(Ent.tabB [(0,0,0),(1,1,0)] [] rfl rfl rfl Qs Qs)⟩
  ·
   simp only at h;subst h;rw[if_pos rfl] at hFF
   rcases hpm with ⟨_,h⟩ | ⟨h,_⟩
   · cases h
   · exact⟨m,by simp only at h ⊢;omega,hFF⟩
  · simp only at h;subst h;rw[if_neg (fun h=>by cases h)] at hFF;exact hFF
  ·
   rcases hpm with ⟨_,h⟩ | ⟨h1,h⟩
   · simp only at h;subst h;simp
   · simp only at h h1;subst h;simp;omega
 rw[WA hil,List.foldl_cons] at hgo1;have gi:(ord.map fun(n:Nat)=>[AV.int .i64 (n:Int)]).getD i []=[.int .i64 (ord[i]:Int)]:=zn (f:=fun(n:Nat)=>[AV.int .i64 (n:Int)]) hil;have hb:=holt _ (Wf hil);generalize ord[i]=b at hgo1 gi hb;obtain⟨hbc,-⟩:=hbok (o1,ag1) b hb hco1;have hbdd:=hbd (o1,ag1) b;generalize FB (o1,ag1) b=PB at hgo1 hbc hbdd;have hgb:(bl.map Bl.cells).getD b []=Bl.cells bl[b]:=zn hb
 have hob:b < o1.length:=by rw[hco1.1];exact hb
 have gob:=getR hob;have hcb:=znL hco1 b;have hth:=hthr b hb;have hln:=hlen b hb;have hfx1:=hfx o1 b hb
 have hxc:CanR (FX o1 b):=by rw[hfx o1 b hb];exact zth hcb
 have hed:=hedg b hb;have hsu:=hsuc b hb;rw[hed] at hsu;have hebl:=hel b hb;have helt:=hlt b hb;generalize FX o1 b=x at hfx1 hxc hbdd;generalize E b=EB at hed hsu hebl helt hbdd;generalize o1.getD b z8=ob at gob hcb hfx1
 have hbb:[bl[b].cells.getD 0 .undef,bl[b].cells.getD 1 .undef]=bl[b].cells:=by cases bl[b];rfl
 have hb1:bl[b].cells.getD 1 .undef=encL 8 St.cells bl[b].stmts:=by cases bl[b];rfl
 generalize bl[b]=bb at hgb hth hln hfx1 hsu hbb hb1;have ez:(encR z8).length=24:=rfl
 have erb:(encR ob).length=24:=by rw[zb4,hcb.1]
 (repeat first|simp(disch:=try exact dis1) only[evD,Nat.reduceBEq,Nat.reduceAdd,Nat.reduceLeDiff,dT,zj,fldP,zP,gi,hgb,hb1,gob,hz,ez,c0,s0,erb,Wh,Wk,Wn]|with_reducible first|intro _|refine aJ ?_)
 refine fl_l0 ad bl ord i b ag1 o1 l at' c es ht bb.stmts hth (by omega) ob hcb ?_ (Ent.tabB [(0,0,0),(1,1,0),(2,2,0)] [] rfl rfl rfl Qs Qs);rw[←hfx1];(refine Gw0 ?_;intros)
 unfold zi0;conv in dcC _ _=>cbv
 (refine Gw5 @ub @zP hgb hbb @ue ?_;intros);refine zi (zf hsu rfl) ?_;(refine Gw2 @ua @m9M ?_;intros);refine fl_l2 ad bl (by omega) ord i c es x hxc EB helt (by omega) o1 hco1 ag1 (by repeat' first|exact QExt.retK|apply QExt.seq|apply QExt.block|apply QExt.loop|apply QExt.join|assumption) (fun o2 ag2 hco2 hPB=>?_) (Ent.tabB [(0,0,0),(1,1,0),(2,2,0)] [] rfl rfl rfl Qs Qs);rw[←hbdd] at hPB;subst hPB;simp only[Wd,We];(refine Gw0 ?_;intros)
 unfold ziA;conv in dcC _ _=>cbv
 (refine Gw0 ?_;intros);exact⟨(i+1,(o2,ag2)),⟨hil,hco2,hgo1⟩,by simp only;omega,(Ent.tabB [(0,0,0),(1,1,0)] [] rfl rfl rfl Qs Qs)⟩
def kpC(f:Nat→Bool):List AV:=(Ww 8).map fun r=>.bool (f r)
theorem zA2{f:Nat→Bool}{k:Nat}(h:k < 8):(kpC f).getD k .undef=.bool (f k):=by simp[kpC,List.getD,h]
theorem zr1{f:Nat→Bool}{k:Nat}{b:Bool}(h:k < 8):splice (kpC f) k [.bool b]=kpC fun r=>if r=k then b else f r:=by
 unfold kpC splice
 match k,h with
 | 0,_=>rfl
 | 1,_=>rfl
 | 2,_=>rfl
 | 3,_=>rfl
 | 4,_=>rfl
 | 5,_=>rfl
 | 6,_=>rfl
 | 7,_=>rfl
theorem zEw{f:Nat→Bool}:(kpC f).length=8:=by simp[kpC]
theorem zaJ{f:Nat→Bool}:zH (kpC f)=true:=rfl
theorem zoe{f f':Nat→Bool}(h:∀r,r < 8→f r=f' r):kpC f=kpC f':=WN fun r hr=>by rw[h r (List.mem_range.1 hr)]
def zrM:List Kw:=[⟨1,0,0⟩,⟨1,1,0⟩,⟨1,2,0⟩,⟨1,3,0⟩,⟨1,4,0⟩,⟨1,5,0⟩,⟨1,6,0⟩,⟨1,7,4⟩]
theorem zA4{k:Nat}(h:k < 8):zrM.getD k Kw.z=zBq k:=by
 match k,h with
 | 0,_=>rfl
 | 1,_=>rfl
 | 2,_=>rfl
 | 3,_=>rfl
 | 4,_=>rfl
 | 5,_=>rfl
 | 6,_=>rfl
 | 7,_=>rfl
def kpR(rs:List Kw)(f:Nat→Bool):Nat→Bool:=fun r=>f r&&decide (rs.getD r Kw.z=zBq r)
def svS(l:List Sgn)(at':List Int)(p:List Kw × (Nat→Bool))(s:St):List Kw × (Nat→Bool):=(thr1 l at' p.1 s,if s.op=9 then kpR p.1 p.2 else p.2)
theorem zDF{l:List Sgn}{at':List Int}{rs:List Kw}{s:St}(h:s.op=9):thr1 l at' rs s=rs:=by unfold thr1;rw[if_neg (by omega),if_neg (by omega),if_neg (by omega)]
theorem zAX{s:St}(h:zoz s=false):s.op≠9:=fun h9=>by
 unfold zoz at h;rw[h9] at h
 revert h
 decide
theorem zDV{l:List Sgn}{at':List Int}:∀ {ss:List St} {p:List Kw × (Nat→Bool)},zkc ss=true→(ss.foldl (svS l at') p).2=match ss.getLast? with
  | some s=>if s.op=9 then kpR (thrR l at' ss p.1) p.2 else p.2
  | none=>p.2
 | [],p,_=>rfl
 |
  [s],p,_=>by
  show (svS l at' p s).2=if s.op=9 then kpR (thr1 l at' p.1 s) p.2 else p.2
  unfold svS
  by_cases h:s.op=9
  · rw[if_pos h,if_pos h,zDF h]
  · rw[if_neg h,if_neg h]
 |
  s::s'::ss,p,h=>by
  have h1:zoz s=false∧zkc (s'::ss)=true:=by
   rw[zkc,Wl] at h;refine⟨?_,h.2⟩;have:=h.1
   simpa using this
  have ih:=zDV (l:=l) (at':=at') (ss:=s'::ss) (p:=svS l at' p s) h1.2;rw[List.foldl_cons,ih,List.getLast?_cons_cons];have e2:(svS l at' p s).2=p.2:=if_neg (zAX h1.1);rw[e2];rfl
theorem Qr{p:Prop}(h:p:=by(try simp only[evWB,Nat.reduceBEq,Nat.reduceAdd,Nat.reduceSub,Nat.reduceLeDiff,Nat.reduceLT,implies_true,za,zj])<;>(repeat' with_reducible apply And.intro)<;>first | (first|exact zb|exact zk (zc _)|exact vw_R|exact zk zaJ;done)|exact fin6):p:=h
theorem sv_l1 (ad:Int) (bl:List Bl) (S:List (List Kw)) (ord:List Nat) (i:Nat) (c:Int) (es:List TE) (ss:List St) (k:Nat) (s:St) (f:Nat→Bool) (rs:List Kw) (hr:rs.length=8) {Q:QT}
  (hfin:Q .normal [(1,.mp 0 0),(2,encP 2 [.int .u32 ad,encL 2 Bl.cells bl]),(5,.ptr 1 0 0 0 0),(6,.ptr 2 0 0 0 0),(8,encL 24 encR S),(32,zj ord),(33,.int .i64 ord.length),(34,.int .i64 i),(11,.ptr 3 0 0 0 0),(47,encL 8 St.cells ss),(48,.int .i64 ss.length),(13,.ptr 4 0 0 0 0),(49,.int .i64 k),(56,.int .i64 (8:Nat)),(57,.bool false)] [(0,.row 3 (tabM c es) 0),(1,.row 24 [encR zrM] 0),(2,.row 8 [kpC (kpR rs f)] 0),(3,.row 24 [encR rs] 0),(4,.row 8 [s.cells] 0)] 5)
  {K:Kn} {H:AH} {nx:Nat} (hent:Ent 1 K H nx [(1,.mp 0 0),(2,encP 2 [.int .u32 ad,encL 2 Bl.cells bl]),(5,.ptr 1 0 0 0 0),(6,.ptr 2 0 0 0 0),(8,encL 24 encR S),(32,zj ord),(33,.int .i64 ord.length),(34,.int .i64 i),(11,.ptr 3 0 0 0 0),(47,encL 8 St.cells ss),(48,.int .i64 ss.length),(13,.ptr 4 0 0 0 0),(49,.int .i64 k),(56,.int .i64 (0:Nat))] [(0,.row 3 (tabM c es) 0),(1,.row 24 [encR zrM] 0),(2,.row 8 [kpC f] 0),(3,.row 24 [encR rs] 0),(4,.row 8 [s.cells] 0)] 5) :
  zno Tryz.prog 1 zeV (zd4 6 Q) K H nx:=by
 have hB:=hBig;have hz:kpC (fun r=>if r < 0 then kpR rs f r else f r)=kpC f:=rfl;refine zd (fun j:Nat=>([(1,.mp 0 0),(2,encP 2 [.int .u32 ad,encL 2 Bl.cells bl]),(5,.ptr 1 0 0 0 0),(6,.ptr 2 0 0 0 0),(8,encL 24 encR S),(32,zj ord),(33,.int .i64 ord.length),(34,.int .i64 i),(11,.ptr 3 0 0 0 0),(47,encL 8 St.cells ss),(48,.int .i64 ss.length),(13,.ptr 4 0 0 0 0),(49,.int .i64 k),(56,.int .i64 j)],[(0,.row 3 (tabM c es) 0),(1,.row 24 [encR zrM] 0),(2,.row 8 [kpC (fun r=>if r < j then kpR rs f r else f r)] 0),(3,.row 24 [encR rs] 0),(4,.row 8 [s.cells] 0)])) 5 (fun j=>j≤8) (fun j=>8 - j) 0 (Wc _) (by rw[hz];exact hent) ?_;clear hent;rintro j hj wf;clear wf
 unfold zeV;conv in dcC _ _=>cbv
 by_cases hj8:j < 8
 case neg =>
  obtain rfl:j=8:=by omega
  rw[show kpC (fun r=>if r < 8 then kpR rs f r else f r)=kpC (kpR rs f) from zoe fun r h=>if_pos h];(refine Qd ?_;intros);exact hfin
 have hks:j < rs.length:=by omega
 have sr:=zmh hks;have sw:=zmh (rs:=zrM) (k:=j) hj8;rw[zA4 hj8] at sw
 have gk:(kpC fun r=>if r < j then kpR rs f r else f r).getD j .undef=.bool (f j):=by rw[zA2 hj8,if_neg (Nat.lt_irrefl j)]
 have sp:=fun b=>zr1 (f:=fun r=>if r < j then kpR rs f r else f r) (k:=j) (b:=b) hj8
 have hnx:∀b,b=kpR rs f j→kpC (fun r=>if r=j then b else if r < j then kpR rs f r else f r)=kpC (fun r=>if r < j+1 then kpR rs f r else f r):=fun b hb=>zoe fun r _=>by
  by_cases h1:r=j
  · rw[if_pos h1,if_pos (by omega),hb,h1]
  ·
   rw[if_neg h1]
   by_cases h2:r < j
   · rw[if_pos h2,if_pos (by omega)]
   · rw[if_neg h2,if_neg (by omega)]
 have hk0:kpR rs f j=(f j&&decide (rs.getD j Kw.z=zBq j)):=rfl;generalize kpC (fun r=>if r < j then kpR rs f r else f r)=C at gk sp ⊢;generalize rs.getD j Kw.z=a at sr hk0
 cases hf:f j with
 |
  false =>
  rw[hf] at gk hk0;have sp1:=sp false;rw[hnx false (by rw[hk0];rfl)] at sp1;(refine Gw8 @dT @ue @uj @ut @Nat.mul_one @zg4 gk sp1 ?_;intros);exact⟨j+1,by omega,by omega,(Ent.tabB [(0,0,0),(1,1,0),(2,2,0),(3,3,0),(4,4,0)] [] rfl rfl rfl Qr Qr)⟩
 |
  true =>
  rw[hf] at gk hk0;have sp1:=sp (decide (a=zBq j));rw[hnx _ (by rw[hk0];simp)] at sp1
  (repeat first|simp(disch:=try exact dis1) only[evD,Nat.reduceBEq,Nat.reduceAdd,Nat.reduceLeDiff,dT,Wh,Wk,Ws,Nat.mul_one,zg4,gk,sr,sw,eqsK,eqTo,cond_true,cond_false,sp1]|with_reducible first|intro _|refine aJ ?_)
  exact⟨j+1,by omega,by omega,(Ent.tabB [(0,0,0),(1,1,0),(2,2,0),(3,3,0),(4,4,0)] [] rfl rfl rfl Qr Qr)⟩
theorem QJ{A0 p:Prop}(a0:A0)(h:A0→p:=by intro a0;(try simp only[evWB,Nat.reduceBEq,Nat.reduceAdd,Nat.reduceSub,Nat.reduceLeDiff,Nat.reduceLT,implies_true,a0])<;>(repeat' with_reducible apply And.intro)<;>first | (first|exact zb|exact zk (zc _)|exact vw_R|exact zk zaJ;done)|exact fin6):p:=h a0
theorem sv_l4 (ad:Int) (bl:List Bl) (S:List (List Kw)) (ord:List Nat) (i:Nat) (l:List Sgn) (at':List Int) (c:Int) (es:List TE) (ht:TabS l at' es) (ss:List St) (hs:∀s∈ss,OkS s) (hn:ss.length≤1000000) (f0:Nat→Bool) (rs0:List Kw) (hr0:CanR rs0) {Q:QT}
  (hfin:∀f rs,CanR rs→ss.foldl (svS l at') (rs0,f0)=(rs,f)→Q .normal ([(1,.mp 0 0),(2,encP 2 [.int .u32 ad,encL 2 Bl.cells bl]),(5,.ptr 1 0 0 0 0),(6,.ptr 2 0 0 0 0),(8,encL 24 encR S),(32,zj ord),(33,.int .i64 ord.length),(34,.int .i64 i),(11,.ptr 3 0 0 0 0),(47,encL 8 St.cells ss),(48,.int .i64 ss.length),(49,.int .i64 ss.length)]++[(50,.bool false)]) [(0,.row 3 (tabM c es) 0),(1,.row 24 [encR zrM] 0),(2,.row 8 [kpC f] 0),(3,.row 24 [encR rs] 0)] 4)
  {K:Kn} {H:AH} {nx:Nat} (hent:Ent 1 K H nx [(1,.mp 0 0),(2,encP 2 [.int .u32 ad,encL 2 Bl.cells bl]),(5,.ptr 1 0 0 0 0),(6,.ptr 2 0 0 0 0),(8,encL 24 encR S),(32,zj ord),(33,.int .i64 ord.length),(34,.int .i64 i),(11,.ptr 3 0 0 0 0),(47,encL 8 St.cells ss),(48,.int .i64 ss.length),(49,.int .i64 (0:Nat))] [(0,.row 3 (tabM c es) 0),(1,.row 24 [encR zrM] 0),(2,.row 8 [kpC f0] 0),(3,.row 24 [encR rs0] 0)] 4) :
  zno Tryz.prog 1 zeW (zd4 4 Q) K H nx:=by
 have hB:=hBig;generalize hR:ss.foldl (svS l at') (rs0,f0)=R at hfin;refine zd (fun t:Nat × (List Kw × (Nat→Bool))=>([(1,.mp 0 0),(2,encP 2 [.int .u32 ad,encL 2 Bl.cells bl]),(5,.ptr 1 0 0 0 0),(6,.ptr 2 0 0 0 0),(8,encL 24 encR S),(32,zj ord),(33,.int .i64 ord.length),(34,.int .i64 i),(11,.ptr 3 0 0 0 0),(47,encL 8 St.cells ss),(48,.int .i64 ss.length),(49,.int .i64 t.1)],[(0,.row 3 (tabM c es) 0),(1,.row 24 [encR zrM] 0),(2,.row 8 [kpC t.2.2] 0),(3,.row 24 [encR t.2.1] 0)])) 4 (fun t=>t.1≤ss.length∧CanR t.2.1∧(ss.drop t.1).foldl (svS l at') t.2=R) (fun t=>ss.length - t.1) (0,(rs0,f0)) ⟨Wc _,hr0,hR⟩ hent ?_;clear hent hR hr0;rintro⟨k,⟨rs,f⟩⟩ ⟨hk,hr,hgo⟩ wf;simp only at hk hr hgo;clear wf
 unfold zeW;conv in dcC _ _=>cbv
 by_cases hkl:k < ss.length
 case neg =>
  obtain rfl:k=ss.length:=by omega
  rw[Wz (Wy _),List.foldl_nil] at hgo;have hf:=hfin f rs hr hgo.symm;simp only[Wd,We] at hf;(refine Qd ?_;intros);exact hf
 rw[WA hkl,List.foldl_cons] at hgo;have gk:(ss.map St.cells).getD k []=ss[k].cells:=zn (f:=St.cells) (d:=[]) hkl;have hok:=hs _ (Wf hkl);have hcan:=zsX (l:=l) (at':=at') hr ss[k];have haf:=zkt ss[k] rs hr l at' hok c es ht;unfold svS at hgo;simp only at hgo;generalize ss[k]=s at gk hok hcan haf hgo;generalize thr1 l at' rs s=u at hgo hcan haf
 have er:(encR rs).length=24:=by rw[zb4,hr.1]
 have eu:(encR u).length=24:=by rw[zb4,hcan.1]
 have hflat:[s.cells.getD 0 .undef,s.cells.getD 1 .undef,s.cells.getD 2 .undef,s.cells.getD 3 .undef,s.cells.getD 4 .undef,s.cells.getD 5 .undef,s.cells.getD 6 .undef,s.cells.getD 7 .undef]=s.cells:=St.eight _;have hc8:s.cells.length=8:=rfl;have hop:s.cells.getD 0 .undef=.int .i64 s.op:=rfl
 have c0:∀l:List AV,(AV.agg l).cells=l:=fun _=>rfl
 have s0:∀l:List AV,(AV.agg l).solid=true:=fun _=>rfl
 have hru:∀ρ:Nat→Nat,AV.ren ρ (.agg (encR u))=.agg (encR u):=fun ρ=>by
  simp only[AV.ren]
  congr 1
  exact zkQ (zc u)
 (refine Gw11 @dT gk @ub @zP hflat hc8 hop c0 s0 er eu ?_;intros)
 by_cases h9:s.op=9
 ·
  rw[if_pos h9] at hgo;(refine Gw1 @dT ?_;intros);refine sv_l1 ad bl S ord i c es ss k s f rs hr.1 ?_ (Ent.tabB [(0,0,0),(1,1,0),(2,2,0),(3,3,0),(4,4,0)] [] rfl rfl rfl Qr Qr);(refine Gw0 ?_;intros)
  unfold zeU;conv in dcC _ _=>cbv
  (refine Gw7 @zP hflat hc8 c0 s0 er eu ?_;intros);refine zx [(0,0,0)] 1 _ haf rfl rfl (QJ @ua) (QJ @ua) ?_;rintro _ _ _ ⟨rfl,rfl,rfl⟩;(refine Gw7 @zkd hru c0 s0 er eu @zP ?_;intros);unfold zeY;(refine Gw0 ?_;intros);exact⟨(k+1,(u,kpR rs f)),⟨hkl,hcan,hgo⟩,by simp only;omega,(Ent.tabB [(0,0,0),(1,1,0),(2,2,0),(3,3,0)] [] rfl rfl rfl Qr Qr)⟩
 ·
  rw[if_neg h9] at hgo;(refine Qd ?_;intros)
  unfold zeU;conv in dcC _ _=>cbv
  (refine Gw7 @zP hflat hc8 c0 s0 er eu ?_;intros);refine zx [(0,0,0)] 1 _ haf rfl rfl (QJ @ua) (QJ @ua) ?_;rintro _ _ _ ⟨rfl,rfl,rfl⟩;(refine Gw7 @zkd hru c0 s0 er eu @zP ?_;intros);unfold zeY;(refine Gw0 ?_;intros);exact⟨(k+1,(u,f)),⟨hkl,hcan,hgo⟩,by simp only;omega,(Ent.tabB [(0,0,0),(1,1,0),(2,2,0),(3,3,0)] [] rfl rfl rfl Qr Qr)⟩
def svO(f:Nat→Bool)(j:Nat):List Int:=((Ww j).filter f).map fun(v:Nat)=>(v:Int)
theorem zDy{f:Nat→Bool}{j:Nat}:svO f (j+1)=if f j then svO f j++[(j:Int)] else svO f j:=by
 unfold svO;rw[List.range_succ,WO,Wx]
 by_cases h:f j=true
 · rw[if_pos h];simp[h]
 · rw[if_neg h];simp[h]
theorem zqb{f:Nat→Bool}{j:Nat}:(svO f j).length≤j:=by unfold svO;rw[Wn];exact WG (WP _ _) (by simp)
theorem zCA{g:G}{l:List Sgn}{at':List Int}{b:Nat}(hb:b < g.blocks.length)(hen:zkc g.blocks[b].stmts=true){f:Nat→Bool}{r:Nat}:(g.blocks[b].stmts.foldl (svS l at') ((znw g l at').getD b z8,f)).2 r=(f r&&zuo g l at' r b):=by
 rw[zDV hen];unfold zuo retB;rw[zkM hb]
 cases g.blocks[b].stmts.getLast? with
 | none=>simp
 |
  some s =>
  simp only
  by_cases h:s.op=9
  · rw[if_pos h];simp only[kpR,h,decide_true,Wm,ne_eq,decide_not,Bool.not_not]
  · rw[if_neg h];simp[h]
theorem QK{p:Prop}(h:p:=by(try simp only[evWB,Nat.reduceBEq,Nat.reduceAdd,Nat.reduceSub,Nat.reduceLeDiff,Nat.reduceLT,implies_true])<;>(repeat' with_reducible apply And.intro)<;>first | (first|exact zb|exact zai rfl;done)|exact fin6):p:=h
theorem QL{p:Prop}(h:p:=by(try simp only[evWB,Nat.reduceBEq,Nat.reduceAdd,Nat.reduceSub,Nat.reduceLeDiff,Nat.reduceLT,implies_true])<;>(repeat' with_reducible apply And.intro)<;>first | (exact zb;done)|exact fin6):p:=h
theorem QM{A0 A1 p:Prop}(a0:A0)(a1:A1)(h:A0→A1→p:=by intro a0 a1;(try simp only[evWB,Nat.reduceBEq,Nat.reduceAdd,Nat.reduceSub,Nat.reduceLeDiff,Nat.reduceLT,implies_true,a0,a1])<;>(repeat' with_reducible apply And.intro)<;>first | (first|exact zb|exact zai rfl;done)|exact fin6):p:=h a0 a1
theorem zoA(g:G)(hf:fewC g)(hg:OkG g)(hs:∀b∈g.blocks,∀s∈b.stmts,OkS s)(hen:∀b∈g.blocks,zkc b.stmts=true)(l:List Sgn)(at':List Int)(c:Int)(es:List TE)(ht:TabS l at' es):
  zU Tryz.prog zhm [.agg g.cells,.mp 0 0] [(0,.row 3 (tabM c es) 0)] 1
  (fun v H nx=>v=za (savG g l at')∧H=[(0,.row 3 (tabM c es) 0)]∧nx=1):=by
 refine zR (fn_x zoB rfl ?_)
 unfold zjX;conv in dcC _ _=>cbv
 have hB:=hBig;have hz:[AV.int .i64 0,.int .i64 0,.int .u32 0,.int .i64 0,.int .i64 0,.int .u32 0,.int .i64 0,.int .i64 0,.int .u32 0,.int .i64 0,.int .i64 0,.int .u32 0,.int .i64 0,.int .i64 0,.int .u32 0,.int .i64 0,.int .i64 0,.int .u32 0,.int .i64 0,.int .i64 0,.int .u32 0,.int .i64 0,.int .i64 0,.int .u32 0]=encR z8:=rfl
 have hz8:[AV.bool false,.bool false,.bool false,.bool false,.bool false,.bool false,.bool false,.bool false]=kpC fun _=>false:=rfl
 have ez:(encR z8).length=24:=rfl;have ero:(encR ownR).length=24:=rfl
 have ek:∀f,(kpC f).length=8:=fun f=>zEw
 have c0:∀l:List AV,(AV.agg l).cells=l:=fun _=>rfl
 have s0:∀l:List AV,(AV.agg l).solid=true:=fun _=>rfl
 have hfl:=zpx g hf hg hs l at' c es ht;have hord:=zfu g hf;have holt:=zqS g;have hole:=zs4 g;have hbl8:=hf.blocks;have hso:=zxX g hg l at'
 have hthr:=fun b (hb:b < g.blocks.length)=>hs _ (Wf hb)
 have hlen:=fun b (hb:b < g.blocks.length)=>hf.stmts _ (Wf hb)
 have hsb:=fun b (hb:b < g.blocks.length) f r=>zCA (l:=l) (at':=at') hb (hen _ (Wf hb)) (f:=f) (r:=r)
 have hsv:savG g l at'=svO (fun r=>(ordG g).all (zuo g l at' r)) 8:=rfl;rw[hsv];generalize zuo g l at'=KB at hsb ⊢;generalize znw g l at'=S at hfl hso hsb;generalize ordG g=ord at hord holt hole ⊢;obtain⟨ad,bl⟩:=g;simp only[G.cells] at hfl hord holt hole hbl8 hso hthr hlen hsb ⊢;(refine Gw2 @ub @zP ?_;intros);refine zi (zf zjS rfl) ?_;(refine Gw9 @ub @zP hz hz8 ez ek c0 s0 ero ?_;intros);refine zd (fun j:Nat=>([(1,.mp 0 0),(2,encP 2 [.int .u32 ad,encL 2 Bl.cells bl]),(5,.ptr 1 0 0 0 0),(6,.ptr 2 0 0 0 0),(20,.int .i64 j)],[(0,.row 3 (tabM c es) 0),(1,.row 24 [encR ownR] 0),(2,.row 8 [kpC fun r=>decide (r < j)] 0)])) 3 (fun j=>j≤8) (fun j=>8 - j) 0 (Wc _) (by rw[show kpC (fun r=>decide (r < 0))=kpC fun _=>false from rfl];exact(Ent.tabB [(0,0,0),(1,2,0),(2,3,0)] [] rfl rfl rfl Qr Qr)) ?_;rintro j hj wf;clear wf
 unfold zhE;conv in dcC _ _=>cbv
 by_cases hj8:j < 8
 case pos =>
  have sp:=zr1 (f:=fun r=>decide (r < j)) (k:=j) (b:=true) hj8
  rw[show kpC (fun r=>if r=j then true else decide (r < j))=kpC (fun r=>decide (r < j+1)) from zoe fun r _=>by
   by_cases h1:r=j
   · rw[if_pos h1,decide_eq_true (by omega)]
   · rw[if_neg h1];exact decide_eq_decide.2 (by omega)] at sp
  (refine Gw7 @dT @ue @uj @ut @Nat.mul_one @zg4 sp ?_;intros);exact⟨j+1,by omega,by omega,(Ent.tabB [(0,0,0),(1,1,0),(2,2,0)] [] rfl rfl rfl Qr Qr)⟩
 obtain rfl:j=8:=by omega
 rw[show kpC (fun r=>decide (r < 8))=kpC (fun r=>((ord.take 0).all (KB r))) from rfl];have hw:splice (encR ownR) 23 [.int .u32 4]=encR zrM:=rfl;(refine Qd ?_;intros)
 unfold zha;conv in dcC _ _=>cbv
 (repeat first|simp(disch:=try exact dis1) only[evD,Nat.reduceBEq,Nat.reduceAdd,Nat.reduceLeDiff,Wk,zg4,show Wu 7=7 from rfl,Nat.reduceMul,hw,ero,fldP,zP]|with_reducible first|intro _|refine aJ ?_)
 refine zx [(0,0,0)] 1 _ hfl rfl rfl (QJ @ua) (QJ @ua) ?_;rintro _ _ _ ⟨rfl,rfl,rfl⟩
 have hrS:∀ρ:Nat→Nat,AV.ren ρ (encL 24 encR S)=encL 24 encR S:=fun ρ=>znS rfl
 (refine Gw4 @zkd hrS @zP @ub ?_;intros);refine zi (zf hord rfl) ?_;(refine Gw1 @uh ?_;intros);refine zd (fun i:Nat=>([(1,.mp 0 0),(2,encP 2 [.int .u32 ad,encL 2 Bl.cells bl]),(5,.ptr 1 0 0 0 0),(6,.ptr 2 0 0 0 0),(8,encL 24 encR S),(32,zj ord),(33,.int .i64 ord.length),(34,.int .i64 i)],[(0,.row 3 (tabM c es) 0),(1,.row 24 [encR zrM] 0),(2,.row 8 [kpC fun r=>(ord.take i).all (KB r)] 0)])) 3 (fun i=>i≤ord.length) (fun i=>ord.length - i) 0 (Wc _) (by rw[show kpC (fun r=>(ord.take 0).all (KB r))=kpC (fun r=>[].all (KB r)) from rfl];exact(Ent.tabB [(0,0,0),(1,1,0),(2,2,0)] [] rfl rfl rfl Qr Qr)) ?_;rintro i hi wf;clear wf
 unfold zhZ;conv in dcC _ _=>cbv
 by_cases hil:i < ord.length
 case pos =>
  have gi:(ord.map fun(n:Nat)=>[AV.int .i64 (n:Int)]).getD i []=[.int .i64 (ord[i]:Int)]:=zn (f:=fun(n:Nat)=>[AV.int .i64 (n:Int)]) hil
  have htk:∀r,(ord.take (i+1)).all (KB r)=((ord.take i).all (KB r)&&KB r ord[i]):=fun r=>by rw[WM hil,List.all_append];simp
  have hb:=holt _ (Wf hil);generalize ord[i]=b at gi hb htk;have hgb:(bl.map Bl.cells).getD b []=Bl.cells bl[b]:=zn hb
  have hob:b < S.length:=by rw[hso.1];exact hb
  have hSl:S.length=bl.length:=hso.1;have gob:=getR hob;have hcb:=znL hso b;have hth:=hthr b hb;have hln:=hlen b hb;have hsb1:=hsb b hb;generalize S.getD b z8=ob at gob hcb hsb1
  have hb1:bl[b].cells.getD 1 .undef=encL 8 St.cells bl[b].stmts:=by cases bl[b];rfl
  generalize bl[b]=bb at hgb hth hln hsb1 hb1
  have erb:(encR ob).length=24:=by rw[zb4,hcb.1]
  have g24:=get24 erb
  (repeat first|simp(disch:=try exact dis1) only[evD,Nat.reduceBEq,Nat.reduceAdd,Nat.reduceLeDiff,dT,zj,za,fldP,zP,gi,hgb,hb1,gob,g24,hz,ez,c0,s0,erb,Wh,Wk,Wn]|with_reducible first|intro _|refine aJ ?_)
  refine sv_l4 ad bl S ord i l at' c es ht bb.stmts hth (by omega) (fun r=>(ord.take i).all (KB r)) ob hcb (fun f rs hcr hfo=>?_) (Ent.tabB [(0,0,0),(1,1,0),(2,2,0),(3,3,0)] [] rfl rfl rfl Qr Qr);simp only[Wd,We];(refine Gw0 ?_;intros)
  unfold zht;conv in dcC _ _=>cbv
  (refine Gw0 ?_;intros)
  have hfr:kpC f=kpC fun r=>(ord.take (i+1)).all (KB r):=zoe fun r _=>by have h3:=hsb1 (fun r=>(ord.take i).all (KB r)) r;rw[hfo] at h3;exact h3.trans (htk r).symm
  rw[hfr];exact⟨i+1,by omega,by omega,(Ent.tabB [(0,0,0),(1,1,0),(2,2,0)] [] rfl rfl rfl Qr Qr)⟩
 case neg =>
  obtain rfl:i=ord.length:=by omega
  rw[Wt];generalize (fun r=>ord.all (KB r))=F;(refine Qd ?_;intros)
  unfold zhC;conv in dcC _ _=>cbv
  (refine Gw2 @zP ek ?_;intros);refine zd (fun s:Nat × Nat=>([(15,.own 1 0 s.2 0 (svO F s.1).length),(80,.agg (kpC F)),(81,.int .i64 s.1)],[(0,.row 3 (tabM c es) 0),(1,.row 1 ((svO F s.1).map fun n=>[.int .i64 n]) s.2)])) 2 (fun s=>s.1≤8) (fun s=>8 - s.1) (0,0) (Wc _) (by rw[show svO F (0,0).1=[] from rfl];exact(Ent.tabB [(0,0,0),(1,3,0)] [] rfl rfl rfl QK QK)) ?_;rintro⟨j,γ⟩ hj wf;simp only at hj;clear wf
  unfold zhP;conv in dcC _ _=>cbv
  by_cases hj8:j < 8
  case neg =>
   obtain rfl:j=8:=by omega
   have hol:=zqb (f:=F) (j:=8);generalize svO F 8=O at hol ⊢;(refine Qd ?_;intros)
   unfold zhW;conv in dcC _ _=>cbv
   (refine Gw0 ?_;intros);refine zx [(0,1,0)] 1 _ (zct γ O (by omega)) rfl rfl QL QL ?_;rintro _ _ _ ⟨rfl,rfl,rfl⟩
   (repeat first|simp(disch:=try exact dis1) only[evD,Nat.reduceBEq,Nat.reduceAdd,Nat.reduceLeDiff,zqO,AV.ren,show Tab.to [(0,1,0)] 2 0=1 from rfl,zjQ]|with_reducible intro _ | ((with_reducible apply Wa);omega))
   exact⟨za O,[(0,.row 3 (tabM c es) 0)],1,(Ent.tabB [(0,0,0)] [1] rfl rfl rfl QL QL),rfl,rfl,rfl⟩
  have hsu:=zDy (f:=F) (j:=j);have hol:=zqb (f:=F) (j:=j);have gk:=zA2 (f:=F) hj8
  have aX:∀(H:AH)(nx:Nat),xopR (.aidx 8 1 false) [.agg (kpC F),.int .i64 (j:Int)] H nx=⟨0≤(j:Int)∧(j:Int) < (8:Nat)∧8 * 1≤(kpC F).length,True,.bool (F j),H,nx⟩:=fun H nx=>by simp only[xopR,zrq,cond_false,Wh,Nat.mul_one,gk];rfl
  cases hF:F j with
  |
   true =>
   rw[hF,if_pos rfl] at hsu;rw[hF] at aX;(refine Gw3 @dT aX ek ?_;intros);exact⟨(j+1,γ+1),by omega,by simp only;omega,by rw[hsu,WH,WI,Wx];exact(Ent.tabB [(0,0,0),(1,1,0)] [] rfl rfl rfl (QM @m9C @m9N) (QM @m9C @m9N))⟩
  |
   false =>
   rw[hF,if_neg (by decide)] at hsu;rw[hF] at aX;(refine Gw3 @dT aX ek ?_;intros);exact⟨(j+1,γ),by omega,by simp only;omega,by rw[hsu];exact(Ent.tabB [(0,0,0),(1,1,0)] [] rfl rfl rfl QK QK)⟩
theorem QN{A0 A1 A2 A3 p:Prop}(a0:A0)(a1:A1)(a2:A2)(a3:A3)(h:A0→A1→A2→A3→p:=by intro a0 a1 a2 a3;(try simp only[evWB,Nat.reduceBEq,Nat.reduceAdd,Nat.reduceSub,Nat.reduceLeDiff,Nat.reduceLT,implies_true,a0,a1,a2,a3])<;>(repeat' with_reducible apply And.intro)<;>first | (first|exact zb|exact zg|exact zL|exact RowV.of_flat zap|exact RowV.of_flat zam|exact RowV.of_flat zdH;done)|exact fin6):p:=h a0 a1 a2 a3
theorem QO{A0 A1 A2 A3 A4 p:Prop}(a0:A0)(a1:A1)(a2:A2)(a3:A3)(a4:A4)(h:A0→A1→A2→A3→A4→p:=by intro a0 a1 a2 a3 a4;(try simp only[evWB,Nat.reduceBEq,Nat.reduceAdd,Nat.reduceSub,Nat.reduceLeDiff,Nat.reduceLT,implies_true,a0,a1,a2,a3,a4])<;>(repeat' with_reducible apply And.intro)<;>first | (first|exact zb|exact zg|exact zL|exact RowV.of_flat zap|exact RowV.of_flat zam|exact RowV.of_flat zdH;done)|exact fin6):p:=h a0 a1 a2 a3 a4
theorem rs_l0 (ad:Int) (bl:List Bl) (sv:List Int) (ord:List Nat) (i:Nat) (c:Int) (es:List TE) (ss:List St) (k:Nat) (s:St) (us:List Int) (a:MS) (hul:us.length≤9223372036854775807) {Q:QT}
  (hfin:Q .normal ([(1,.mp 0 0),(2,za sv),(3,encP 2 [.int .u32 ad,encL 2 Bl.cells bl]),(7,.mp 1 0),(18,zj ord),(19,.int .i64 ord.length),(20,.int .i64 i),(29,encL 8 St.cells ss),(30,.int .i64 ss.length),(31,.int .i64 k),(11,.ptr 2 0 0 0 0),(36,za us),(37,.int .i64 us.length),(38,.int .i64 us.length)]++[(39,.bool false)]) [(0,.row 3 (tabM c es) 0),(1,.row 3 (setN (addL a us)) 0),(2,.row 8 [s.cells] 0)] 3)
  {K:Kn} {H:AH} {nx:Nat} (hent:Ent 1 K H nx [(1,.mp 0 0),(2,za sv),(3,encP 2 [.int .u32 ad,encL 2 Bl.cells bl]),(7,.mp 1 0),(18,zj ord),(19,.int .i64 ord.length),(20,.int .i64 i),(29,encL 8 St.cells ss),(30,.int .i64 ss.length),(31,.int .i64 k),(11,.ptr 2 0 0 0 0),(36,za us),(37,.int .i64 us.length),(38,.int .i64 (0:Nat))] [(0,.row 3 (tabM c es) 0),(1,.row 3 (setN a) 0),(2,.row 8 [s.cells] 0)] 3) :
  zno Tryz.prog 1 zdT (zd4 4 Q) K H nx:=by
 have hB:=hBig;refine zd (fun j:Nat=>([(1,.mp 0 0),(2,za sv),(3,encP 2 [.int .u32 ad,encL 2 Bl.cells bl]),(7,.mp 1 0),(18,zj ord),(19,.int .i64 ord.length),(20,.int .i64 i),(29,encL 8 St.cells ss),(30,.int .i64 ss.length),(31,.int .i64 k),(11,.ptr 2 0 0 0 0),(36,za us),(37,.int .i64 us.length),(38,.int .i64 j)],[(0,.row 3 (tabM c es) 0),(1,.row 3 (setN (addL a (us.take j))) 0),(2,.row 8 [s.cells] 0)])) 3 (fun j=>j≤us.length) (fun j=>us.length - j) 0 (Wc _) (by rw[WK,show addL a []=a from rfl];exact hent) ?_;clear hent;rintro j hj wf;clear wf
 unfold zdT;conv in dcC _ _=>cbv
 by_cases hil:j < us.length
 ·
  have hgl:(us.map fun n=>[AV.int .i64 n]).getD j []=[.int .i64 us[j]]:=zn (f:=fun n=>[AV.int .i64 n]) hil;have htk:=zim (s:=a) hil;generalize addL a (us.take j)=d at htk ⊢;obtain⟨cc,ps⟩:=d
  by_cases hm:us[j]∈ps.map (·.1)
  · obtain⟨q,hq,hqe,hf⟩:=zkf hm;have e1:add1 (cc,ps) us[j]=(cc,ps):=if_pos hm;rw[e1] at htk;have hov:=zCj hq hqe;(refine Gw7 @dT hgl @ua @ud @evSN hf hov ?_;intros);exact⟨j+1,hil,by omega,(Ent.tabB [(0,0,0),(1,1,0),(2,2,0)] [] rfl rfl rfl (QN @ud @ua @uh htk) (QN @ud @ua @uh htk))⟩
  · have hf:=ziG hm;have e1:add1 (cc,ps) us[j]=(cc+1,ps++[(us[j],cc)]):=if_neg hm;rw[e1] at htk;(refine Gw6 @dT hgl @ua @ud @evSN hf ?_;intros);exact⟨j+1,hil,by omega,(Ent.tabB [(0,0,0),(1,1,0),(2,2,0)] [] rfl rfl rfl (QO @ud @ua @uh htk @ztp) (QO @ud @ua @uh htk @ztp))⟩
 ·
  obtain rfl:j=us.length:=by omega
  simp only[Wd,We] at hfin;rw[Wt];(refine Qd ?_;intros);exact hfin
theorem rs_l1 (ad:Int) (bl:List Bl) (sv:List Int) (ord:List Nat) (i:Nat) (c:Int) (es:List TE) (ss:List St) (k:Nat) (s:St) (us:List Int) (a:MS) (hul:us.length≤9223372036854775807) {Q:QT}
  (hfin:Q .normal ([(1,.mp 0 0),(2,za sv),(3,encP 2 [.int .u32 ad,encL 2 Bl.cells bl]),(7,.mp 1 0),(18,zj ord),(19,.int .i64 ord.length),(20,.int .i64 i),(29,encL 8 St.cells ss),(30,.int .i64 ss.length),(31,.int .i64 k),(11,.ptr 2 0 0 0 0),(52,za us),(53,.int .i64 us.length),(54,.int .i64 us.length)]++[(55,.bool false)]) [(0,.row 3 (tabM c es) 0),(1,.row 3 (setN (addL a us)) 0),(2,.row 8 [s.cells] 0)] 3)
  {K:Kn} {H:AH} {nx:Nat} (hent:Ent 1 K H nx [(1,.mp 0 0),(2,za sv),(3,encP 2 [.int .u32 ad,encL 2 Bl.cells bl]),(7,.mp 1 0),(18,zj ord),(19,.int .i64 ord.length),(20,.int .i64 i),(29,encL 8 St.cells ss),(30,.int .i64 ss.length),(31,.int .i64 k),(11,.ptr 2 0 0 0 0),(52,za us),(53,.int .i64 us.length),(54,.int .i64 (0:Nat))] [(0,.row 3 (tabM c es) 0),(1,.row 3 (setN a) 0),(2,.row 8 [s.cells] 0)] 3) :
  zno Tryz.prog 1 zdW (zd4 6 Q) K H nx:=by
 have hB:=hBig;refine zd (fun j:Nat=>([(1,.mp 0 0),(2,za sv),(3,encP 2 [.int .u32 ad,encL 2 Bl.cells bl]),(7,.mp 1 0),(18,zj ord),(19,.int .i64 ord.length),(20,.int .i64 i),(29,encL 8 St.cells ss),(30,.int .i64 ss.length),(31,.int .i64 k),(11,.ptr 2 0 0 0 0),(52,za us),(53,.int .i64 us.length),(54,.int .i64 j)],[(0,.row 3 (tabM c es) 0),(1,.row 3 (setN (addL a (us.take j))) 0),(2,.row 8 [s.cells] 0)])) 3 (fun j=>j≤us.length) (fun j=>us.length - j) 0 (Wc _) (by rw[WK,show addL a []=a from rfl];exact hent) ?_;clear hent;rintro j hj wf;clear wf
 unfold zdW;conv in dcC _ _=>cbv
 by_cases hil:j < us.length
 ·
  have hgl:(us.map fun n=>[AV.int .i64 n]).getD j []=[.int .i64 us[j]]:=zn (f:=fun n=>[AV.int .i64 n]) hil;have htk:=zim (s:=a) hil;generalize addL a (us.take j)=d at htk ⊢;obtain⟨cc,ps⟩:=d
  by_cases hm:us[j]∈ps.map (·.1)
  · obtain⟨q,hq,hqe,hf⟩:=zkf hm;have e1:add1 (cc,ps) us[j]=(cc,ps):=if_pos hm;rw[e1] at htk;have hov:=zCj hq hqe;(refine Gw7 @dT hgl @ua @ud @evSN hf hov ?_;intros);exact⟨j+1,hil,by omega,(Ent.tabB [(0,0,0),(1,1,0),(2,2,0)] [] rfl rfl rfl (QN @ud @ua @uh htk) (QN @ud @ua @uh htk))⟩
  · have hf:=ziG hm;have e1:add1 (cc,ps) us[j]=(cc+1,ps++[(us[j],cc)]):=if_neg hm;rw[e1] at htk;(refine Gw6 @dT hgl @ua @ud @evSN hf ?_;intros);exact⟨j+1,hil,by omega,(Ent.tabB [(0,0,0),(1,1,0),(2,2,0)] [] rfl rfl rfl (QO @ud @ua @uh htk @ztp) (QO @ud @ua @uh htk @ztp))⟩
 ·
  obtain rfl:j=us.length:=by omega
  simp only[Wd,We] at hfin;rw[Wt];(refine Qd ?_;intros);exact hfin
theorem zCI{a:MS}{x y:List Int}:addL a (x++y)=addL (addL a x) y:=List.foldl_append ..
def savL(cs:Sgn):List Int:=if hasI cs.sav 7=true then [7] else []
def chgL(l:List Sgn)(at':List Int)(s:St):List Int:=zkw s++(if s.op=5 then (zbc l at' s.tgt).res++savL (zbc l at' s.tgt) else [])
theorem zDh{l:List Sgn}{at':List Int}{s:St}{y:Int}:y∈chgL l at' s↔chV l at' s y=true:=by
 unfold chgL chV zkw savL;rw[WB];generalize zbc l at' s.tgt=cs
 by_cases h5:s.op=5
 ·
  rw[if_pos h5,if_pos h5,if_neg (by omega),WB]
  have h7:(y∈(if hasI cs.sav 7=true then [(7:Int)] else []))↔(y=7∧y∈cs.sav):=by
   by_cases hs:(7:Int)∈cs.sav
   · rw[if_pos (zkD hs),WC];exact⟨fun h=>⟨h,by rw[h];exact hs⟩,fun h=>h.1⟩
   · rw[zkC hs,if_neg (by decide)];exact⟨fun h=>by(cases h),fun h=>(hs (h.1▸h.2)).elim⟩
  rw[h7,Bool.or_eq_true,Wl,decide_eq_true_eq,decide_eq_true_eq,decide_eq_true_eq];simp
 ·
  rw[if_neg h5,if_neg h5,Wl,decide_eq_true_eq,decide_eq_true_eq]
  by_cases h1:s.op=1∨s.op=3
  · rw[if_pos h1];simp only[WC,WU,or_false];exact⟨fun h=>⟨h1,h.symm⟩,fun h=>h.2.symm⟩
  ·
   rw[if_neg h1];simp only[WU,or_false,false_iff]
   exact fun h=>h1 h.1
theorem zzj(s:St):(zkw s).length≤1:=by
 unfold zkw
 split<;>simp
theorem Qq{p:Prop}(h:p:=by(try simp only[evWB,Nat.reduceBEq,Nat.reduceAdd,Nat.reduceSub,Nat.reduceLeDiff,Nat.reduceLT,implies_true,za,zj])<;>(repeat' with_reducible apply And.intro)<;>first | (first|exact zb|exact zg|exact zL|exact RowV.of_flat zap|exact RowV.of_flat zam|exact RowV.of_flat zdH;done)|exact fin6):p:=h
theorem rs_l5 (ad:Int) (bl:List Bl) (sv:List Int) (ord:List Nat) (i:Nat) (l:List Sgn) (at':List Int) (c:Int) (es:List TE) (ht:TabS l at' es) (hres:∀a,(zbc l at' a).res.length≤9223372036854775807) (ss:List St) (a0:MS) (hss:ss.length≤9223372036854775807) {Q:QT}
  (hfin:∀a:MS,(∀y,y∈a.keys↔y∈a0.keys∨∃s∈ss,chV l at' s y=true)→Q .normal ([(1,.mp 0 0),(2,za sv),(3,encP 2 [.int .u32 ad,encL 2 Bl.cells bl]),(7,.mp 1 0),(18,zj ord),(19,.int .i64 ord.length),(20,.int .i64 i),(29,encL 8 St.cells ss),(30,.int .i64 ss.length),(31,.int .i64 ss.length)]++[(32,.bool false)]) [(0,.row 3 (tabM c es) 0),(1,.row 3 (setN a) 0)] 2)
  {K:Kn} {H:AH} {nx:Nat} (hent:Ent 1 K H nx [(1,.mp 0 0),(2,za sv),(3,encP 2 [.int .u32 ad,encL 2 Bl.cells bl]),(7,.mp 1 0),(18,zj ord),(19,.int .i64 ord.length),(20,.int .i64 i),(29,encL 8 St.cells ss),(30,.int .i64 ss.length),(31,.int .i64 (0:Nat))] [(0,.row 3 (tabM c es) 0),(1,.row 3 (setN a0) 0)] 2) :
  zno Tryz.prog 1 zdR (zd4 2 Q) K H nx:=by
 have hB:=hBig;refine zd (fun t:Nat × MS=>([(1,.mp 0 0),(2,za sv),(3,encP 2 [.int .u32 ad,encL 2 Bl.cells bl]),(7,.mp 1 0),(18,zj ord),(19,.int .i64 ord.length),(20,.int .i64 i),(29,encL 8 St.cells ss),(30,.int .i64 ss.length),(31,.int .i64 t.1)],[(0,.row 3 (tabM c es) 0),(1,.row 3 (setN t.2) 0)])) 2 (fun t=>t.1≤ss.length∧∀y,y∈t.2.keys↔y∈a0.keys∨∃s∈ss.take t.1,chV l at' s y=true) (fun t=>ss.length - t.1) (0,a0) ⟨Wc _,fun y=>by simp⟩ hent ?_;clear hent;rintro⟨k,a⟩ ⟨hk,hmm⟩ wf;simp only at hk hmm;clear wf
 unfold zdR;conv in dcC _ _=>cbv
 by_cases hkl:k < ss.length
 case neg =>
  obtain rfl:k=ss.length:=by omega
  rw[Wt] at hmm;have hf:=hfin a hmm;simp only[Wd,We] at hf;(refine Qd ?_;intros);exact hf
 have gk:(ss.map St.cells).getD k []=ss[k].cells:=zn (f:=St.cells) (d:=[]) hkl
 have hnx:∀b:MS,b=addL a (chgL l at' ss[k])→∀y,y∈b.keys↔y∈a0.keys∨∃s∈ss.take (k+1),chV l at' s y=true:=fun b hb y=>by
  rw[hb,zji,hmm,zDh,WM hkl];simp only[WB,WC];constructor
  ·
   rintro((h | ⟨s,h1,h2⟩)|h)
   · exact .inl h
   · exact .inr ⟨s,.inl h1,h2⟩
   · exact .inr ⟨_,.inr rfl,h⟩
  ·
   rintro(h | ⟨s,h1|rfl,h2⟩)
   · exact .inl (.inl h)
   · exact .inl (.inr ⟨s,h1,h2⟩)
   · exact .inr h2
 have hdef:=zlq ss[k];unfold chgL at hnx;generalize ss[k]=s at gk hnx hdef;have hdl:=zzj s;have htc:=zoG ht s.tgt;have hrl:=hres s.tgt;have hmf:=zo5 (a:=s.tgt) (es:=es) (i:=0);generalize zbc l at' s.tgt=cs at hnx htc hrl;have hflat:[s.cells.getD 0 .undef,s.cells.getD 1 .undef,s.cells.getD 2 .undef,s.cells.getD 3 .undef,s.cells.getD 4 .undef,s.cells.getD 5 .undef,s.cells.getD 6 .undef,s.cells.getD 7 .undef]=s.cells:=St.eight _;have hc8:s.cells.length=8:=rfl;have hop:s.cells.getD 0 .undef=.int .i64 s.op:=rfl;have htg:s.cells.getD 5 .undef=.int .u32 s.tgt:=rfl;(refine Gw6 @dT gk @ub @zP hflat hc8 ?_;intros);refine zi (zf hdef rfl) ?_;(refine Gw1 @ua ?_;intros);refine rs_l0 ad bl sv ord i c es ss k s (zkw s) a (by omega) ?_ (Ent.tabB [(0,0,0),(1,1,0),(2,2,0)] [] rfl rfl rfl Qq Qq);simp only[Wd,We];generalize hD:addL a (zkw s)=d;(refine Gw0 ?_;intros)
 unfold zgH;conv in dcC _ _=>cbv
 (refine Gw2 hop htg ?_;intros)
 by_cases h5:s.op=5
 case neg =>rw[if_neg h5,List.append_nil] at hnx;(refine Qb ?_;intros);unfold zaK;(refine Gw0 ?_;intros);exact⟨(k+1,d),⟨hkl,hnx d hD.symm⟩,by simp only;omega,(Ent.tabB [(0,0,0),(1,1,0)] [] rfl rfl rfl Qq Qq)⟩
 rw[if_pos h5] at hnx;simp only[zCI,hD] at hnx;have htab:tabM c es=[AV.int .i64 c,.undef,.undef]::es.map cT:=rfl;have hcon:=zaq cs.sav 7;have hn2:=hnx (addL (addL d cs.res) (savL cs)) rfl
 have hsd:savL cs=if hasI cs.sav 7=true then [7] else []:=rfl
 generalize hE:addL (addL d cs.res) (savL cs)=e at hn2
 have hend:∀(K:Kn)(H:AH)(nx:Nat),Ent 1 K H nx [(1,.mp 0 0),(2,za sv),(3,encP 2 [.int .u32 ad,encL 2 Bl.cells bl]),(7,.mp 1 0),(18,zj ord),(19,.int .i64 ord.length),(20,.int .i64 i),(29,encL 8 St.cells ss),(30,.int .i64 ss.length),(31,.int .i64 ((k+1:Nat):Int))] [(0,.row 3 (tabM c es) 0),(1,.row 3 (setN e) 0)] 2→∃a':Nat × MS,(a'.1≤ss.length∧∀y,y∈a'.2.keys↔y∈a0.keys∨∃s∈ss.take a'.1,chV l at' s y=true)∧ss.length - a'.1 < ss.length - k∧Ent 1 K H nx [(1,.mp 0 0),(2,za sv),(3,encP 2 [.int .u32 ad,encL 2 Bl.cells bl]),(7,.mp 1 0),(18,zj ord),(19,.int .i64 ord.length),(20,.int .i64 i),(29,encL 8 St.cells ss),(30,.int .i64 ss.length),(31,.int .i64 a'.1)] [(0,.row 3 (tabM c es) 0),(1,.row 3 (setN a'.2) 0)] 2 :=
  fun K H nx h=>⟨(k+1,e),⟨hkl,hn2⟩,by simp only;omega,h⟩
 clear hnx hn2
 cases hat:atT es s.tgt with
 |
  none =>
  rw[hat] at htc hmf;simp only at htc hmf;subst htc;(refine Gw5 @dT @dF htg @ur hmf ?_;intros);rw[←htab];refine rs_l1 ad bl sv ord i c es ss k s zbF.res d (Wc _) ?_ (Ent.tabB [(0,0,0),(1,1,0),(2,2,0)] [] rfl rfl rfl Qq Qq);simp only[Wd,We];generalize addL d zbF.res=d2 at hE ⊢;(refine Gw0 ?_;intros)
  unfold zdY;conv in dcC _ _=>cbv
  (refine Gw3 htg @ur hmf ?_;intros);refine zi (zaH (D:=noR) hcon (.cons zg (.cons (.int _ _ _) .nil)) (.inl rfl)) ?_;rw[show savL zbF=[] from rfl,show addL d2 []=d2 from rfl] at hE;subst hE;(refine Gw1 (show hasI zbF.sav 7=false from rfl) ?_;intros);unfold zaK;(refine Gw0 ?_;intros);rw[←htab];exact hend _ _ _ (Ent.tabB [(0,0,0),(1,1,0)] [] rfl rfl rfl Qq Qq)
 |
  some j =>
  rw[hat] at htc hmf;simp only at htc hmf;rw[htc] at hmf;(refine Gw7 @dT @dF htg @ur hmf @Sgn.cells.eq_1 @ua ?_;intros);rw[←htab];refine rs_l1 ad bl sv ord i c es ss k s cs.res d hrl ?_ (Ent.tabB [(0,0,0),(1,1,0),(2,2,0)] [] rfl rfl rfl Qq Qq);simp only[Wd,We];generalize addL d cs.res=d2 at hE ⊢;(refine Gw0 ?_;intros)
  unfold zdY;conv in dcC _ _=>cbv
  (refine Gw4 htg @ur hmf @Sgn.cells.eq_1 ?_;intros);refine zi (zf hcon rfl) ?_
  cases hs7:hasI cs.sav 7 with
  |
   false =>
   rw[hsd,hs7,if_neg (by decide),show addL d2 []=d2 from rfl] at hE;subst hE;(refine Gw0 ?_;intros);unfold zaK;(refine Gw0 ?_;intros);rw[←htab];exact hend _ _ _ (Ent.tabB [(0,0,0),(1,1,0)] [] rfl rfl rfl Qq Qq)
  |
   true =>
   rw[hsd,hs7,if_pos rfl,show addL d2 [7]=add1 d2 7 from rfl] at hE;obtain⟨cc,ps⟩:=d2
   by_cases hm:(7:Int)∈ps.map (·.1)
   · obtain⟨q,hq,hqe,hf⟩:=zkf hm;rw[show add1 (cc,ps) 7=(cc,ps) from if_pos hm] at hE;subst hE;have hov:=zCj hq hqe;(refine Gw4 @ud @evSN hf hov ?_;intros);unfold zaK;(refine Gw0 ?_;intros);rw[←htab];exact hend _ _ _ (Ent.tabB [(0,0,0),(1,1,0)] [] rfl rfl rfl Qq Qq)
   · have hf:=ziG hm;rw[show add1 (cc,ps) 7=(cc+1,ps++[(7,cc)]) from if_neg hm] at hE;subst hE;(refine Gw3 @ud @evSN hf ?_;intros);unfold zaK;(refine Gw0 ?_;intros);rw[←htab];exact hend _ _ _ (Ent.tabB [(0,0,0),(1,1,0)] [] rfl rfl rfl (QN @ud @ua @uh @ztp) (QN @ud @ua @uh @ztp))
def rsL(g:G)(l:List Sgn)(at':List Int)(sv:List Int):List Int:=((Ww 12).filter fun v=>chgP g l at' v && !hasI sv v).map fun(v:Nat)=>(v:Int)
theorem zEK{g:G}{l:List Sgn}{at' sv:List Int}{a:MS}(h:∀y,y∈a.keys↔∃b∈ordG g,∃s∈(blkG g b).stmts,chV l at' s y=true):srtL a sv=rsL g l at' sv:=by
 unfold srtL rsL
 congr 1
 refine WS fun v _=>?_
 unfold srtP chgP
 congr 1
 rw[Bool.eq_iff_iff,decide_eq_true_iff,h];simp only[WE]
theorem znq(g:G)(hf:fewC g)(hg:OkG g)(l:List Sgn)(at':List Int)(c:Int)(es:List TE)(ht:TabS l at' es)(hres:∀a,(zbc l at' a).res.length≤9223372036854775807)(sv:List Int):
  zU Tryz.prog zaI [.agg g.cells,.mp 0 0,za sv] [(0,.row 3 (tabM c es) 0)] 1
  (fun v H nx=>v=za (rsL g l at' sv)∧H=[(0,.row 3 (tabM c es) 0)]∧nx=1):=by
 refine zR (fn_x zns rfl ?_)
 unfold ziZ;conv in dcC _ _=>cbv
 have hB:=hBig;have hord:=zfu g hf;have holt:=zqS g;have hole:=zs4 g;have hbl8:=hf.blocks
 have hlen:=fun b (hb:b < g.blocks.length)=>hf.stmts _ (Wf hb)
 have hblk:=fun b (hb:b < g.blocks.length)=>zkM hb
 have hfin:=fun(a:MS) h=>zEK (g:=g) (l:=l) (at':=at') (sv:=sv) (a:=a) h
 generalize rsL g l at' sv=R at hfin ⊢;generalize ordG g=ord at hord holt hole hfin;generalize blkG g=BK at hblk hfin;obtain⟨ad,bl⟩:=g;simp only[G.cells] at hord holt hole hbl8 hlen hblk ⊢;(refine Gw2 @ub @zP ?_;intros);refine zi (zf hord rfl) ?_;(refine Gw1 @uh ?_;intros);refine zd (fun t:Nat × MS=>([(1,.mp 0 0),(2,za sv),(3,encP 2 [.int .u32 ad,encL 2 Bl.cells bl]),(7,.mp 1 0),(18,zj ord),(19,.int .i64 ord.length),(20,.int .i64 t.1)],[(0,.row 3 (tabM c es) 0),(1,.row 3 (setN t.2) 0)])) 2 (fun t=>t.1≤ord.length∧∀y,y∈t.2.keys↔∃b∈ord.take t.1,∃s∈(BK b).stmts,chV l at' s y=true) (fun t=>ord.length - t.1) (0,(0,[])) ⟨Wc _,fun y=>by simp[MS.keys]⟩ (Ent.tabB [(0,0,0),(1,2,0)] [] rfl rfl rfl Qq Qq) ?_;rintro⟨i,a⟩ ⟨hi,hmm⟩ wf;simp only at hi hmm;clear wf
 unfold zgA;conv in dcC _ _=>cbv
 by_cases hil:i < ord.length
 case pos =>
  have gi:(ord.map fun(n:Nat)=>[AV.int .i64 (n:Int)]).getD i []=[.int .i64 (ord[i]:Int)]:=zn (f:=fun(n:Nat)=>[AV.int .i64 (n:Int)]) hil
  have htk:∀y,(∃b∈ord.take (i+1),∃s∈(BK b).stmts,chV l at' s y=true)↔(∃b∈ord.take i,∃s∈(BK b).stmts,chV l at' s y=true)∨∃s∈(BK ord[i]).stmts,chV l at' s y=true:=fun y=>by
   rw[WM hil];simp only[WB,WC];constructor
   ·
    rintro⟨b,h|rfl,h2⟩
    · exact .inl ⟨b,h,h2⟩
    · exact .inr h2
   ·
    rintro(⟨b,h,h2⟩|h)
    · exact⟨b,.inl h,h2⟩
    · exact⟨_,.inr rfl,h⟩
  have hb:=holt _ (Wf hil);generalize ord[i]=b at gi hb htk;have hgb:(bl.map Bl.cells).getD b []=Bl.cells bl[b]:=zn hb;have hln:=hlen b hb;rw[hblk b hb] at htk
  have hb1:bl[b].cells.getD 1 .undef=encL 8 St.cells bl[b].stmts:=by cases bl[b];rfl
  generalize bl[b]=bb at hgb hln htk hb1
  have hI:(i:Int)≤8:=by omega
  have hS:(bb.stmts.length:Int)≤10:=by omega
  (refine Gw11 @dT @uh @ua @ub @zP gi hgb hb1 @ue @uj @m9M ?_;intros);refine rs_l5 ad bl sv ord i l at' c es ht hres bb.stmts a (by omega) (fun a' q4=>?_) (Ent.tabB [(0,0,0),(1,1,0)] [] rfl rfl rfl Qq Qq);simp only[Wd,We];(refine Gw0 ?_;intros)
  unfold zgF;conv in dcC _ _=>cbv
  (refine Gw0 ?_;intros);exact⟨(i+1,a'),⟨hil,fun y=>by rw[q4,hmm];exact(htk y).symm⟩,by simp only;omega,(Ent.tabB [(0,0,0),(1,1,0)] [] rfl rfl rfl Qq Qq)⟩
 case neg =>
  obtain rfl:i=ord.length:=by omega
  rw[Wt] at hmm;have hR:=hfin a hmm;(refine Qd ?_;intros)
  unfold zgJ;conv in dcC _ _=>cbv
  (refine Gw0 ?_;intros);refine zx [(0,1,0)] 1 _ (zis a sv) rfl rfl (Gin6_1 @ua) (Gin6_1 @ua) ?_;rintro _ _ _ ⟨rfl,rfl,rfl⟩;rw[hR];(refine Gw3 @renM @renE @ziv.eq_1 ?_;intros);exact⟨za R,[(0,.row 3 (tabM c es) 0)],1,(Ent.tabB [(0,0,0)] [] rfl rfl rfl Qq Qq),rfl,rfl,rfl⟩
end Go.Ab
